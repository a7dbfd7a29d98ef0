import PyProof.Rows.All
import Wide.All
import OpenK.AllK
import Wide.FinOn
import HandS.ForMost
import HandS.ForExc
import HandS.Lambda
import HandS.TryMany
import HandS.Walk
import HandS.Wide
import HandS.EndTab
import HandS.CallSlots
import HandS.Style
import HandS.RaiseMore
import HandS.AnyAll
import HandS.GenList
import HandS.Small
import HandS.List
import HandS.Text
import HandS.More
import HandS.Iter
import HandS.Zip
import HandS.Rev
import HandS.HeadHook4
import HandS.HeadWalk
import HandS.Head4
import KE.DataMinMax
import HandS.TupAny
import PyProof.Claim2Refuses
import HandS.Deep
import HandS.Flt
import KE.SortData
import KE.KTupSum
import HandS.SortKw
import PySem.Challenge.RW_cooperhall_k02_staves
set_option Elab.async false
set_option linter.all false
set_option maxRecDepth 100000
set_option maxHeartbeats 0
/-! the data layer: values as plain trees, what is owned and what is settled -/
namespace DL
open PySem PySem.Spec PyProof.Rows L2
inductive D where
  | non | bl (b : Bool) | int (i : Int) | str (x : Str)
  | tup (xs : List D) | lst (xs : List D) | dic (ks vs : List D) | obj (c : Nat) (xs : List D)
/-- what a slot holds: nothing known, a settled value, an owned list of settled values, an owned list of owned things, an owned dict, an owned object -/
inductive S where
  | gone | d (x : D) | l (xs : List D) | ls (xs : List S) | m (ks vs : List D) | o (c : Nat) (fs : List S)
structure Gx where
  K : PySem.W.Frag
  mg : Str → Option Value
  cl : Nat → Addr
  fn : Nat → List Str
  T : List (Addr × Str)
/-- slots that keep what they held at the entry -/
structure Pn where
  J : List Nat
  s0 : L2.St
def keyD : D → Option Key
  | .int i => some (.inl i)
  | .str x => some (.inr x)
  | _ => none
def keysD : List D → Option (List Key)
  | [] => some []
  | x :: xs => match keyD x, keysD xs with
    | some k, some r => some (k :: r)
    | _, _ => none
def keyT : D → Option (List Key)
  | .tup xs => keysD xs
  | _ => none
def optAll {α : Type} : List (Option α) → Option (List α)
  | [] => some []
  | some x :: r => (optAll r).map (x :: ·)
  | none :: _ => none
/-- the tables of code objects (of lambdas, of generator expressions), told by name -/
def Tb (G : Gx) (H : Hp) : Prop := LamX.Tabs G.T H
theorem Tb.ext {G : Gx} {H H' : Hp} (t : Tb G H) (e : ∀ b o, H b = some o → H' b = some o) : Tb G H' := LamX.Tabs.ext t e
mutual
/-- the value v holds the data, all of it in F -/
def RD (G : Gx) (F : Hp) : D → V → Prop
  | .non, v => v = .non
  | .bl b, v => v = .bl b
  | .int i, v => v = .int i
  | .str x, v => v = .str x
  | .tup xs, v => ∃ a vs, v = .ref a ∧ SqT G.K F a vs ∧ RDs G F xs vs
  | .lst xs, v => ∃ a vs, v = .ref a ∧ SqL G.K F a vs ∧ RDs G F xs vs
  | .dic ks vs, v => ∃ a, v = .ref a ∧
      ((∃ (kk : List Key) (ws : List V), F a = some (.dK (kk.zip ws)) ∧ kk.length = ws.length ∧ ks.map keyD = kk.map some ∧ RDs G F vs ws) ∨
       (∃ (kk : List (List Key)) (ws : List V), F a = some (.dT (kk.zip ws)) ∧ kk.length = ws.length ∧ ks.map keyT = kk.map some ∧ RDs G F vs ws))
  | .obj c xs, v => ∃ a dx vs, v = .ref a ∧ F a = some (.ins (G.cl c) dx ((G.fn c).zip vs)) ∧ vs.length ≤ (G.fn c).length ∧ RDs G F xs vs
def RDs (G : Gx) (F : Hp) : List D → List V → Prop
  | [], vs => vs = []
  | x :: xs, vs => ∃ v r, vs = v :: r ∧ RD G F x v ∧ RDs G F xs r
end
mutual
/-- a slot's value and the addresses it owns -/
def RF (G : Gx) (F H : Hp) : S → Option V → List Addr → Prop
  | .gone, _, fp => fp = []
  | .d x, o, fp => fp = [] ∧ ∃ v, o = some v ∧ RD G F x v
  | .l xs, o, fp => ∃ a vs, o = some (.ref a) ∧ fp = [a] ∧ H a = some (.lst vs) ∧ F a = none ∧ RDs G F xs vs
  | .ls xs, o, fp => ∃ a vs r, o = some (.ref a) ∧ fp = a :: r ∧ H a = some (.lst vs) ∧ F a = none ∧ RFl G F H xs (vs.map some) r
  | .m ks vs, o, fp => ∃ a, o = some (.ref a) ∧ fp = [a] ∧ F a = none ∧
      ((∃ (kk : List Key) (ws : List V), H a = some (.dK (kk.zip ws)) ∧ kk.length = ws.length ∧ ks.map keyD = kk.map some ∧ RDs G F vs ws) ∨
       (∃ (kk : List (List Key)) (ws : List V), H a = some (.dT (kk.zip ws)) ∧ kk.length = ws.length ∧ ks.map keyT = kk.map some ∧ RDs G F vs ws))
  | .o c fs, o, fp => ∃ a dx vs r, o = some (.ref a) ∧ fp = a :: r ∧ H a = some (.ins (G.cl c) dx ((G.fn c).zip vs)) ∧ F a = none ∧ vs.length ≤ (G.fn c).length ∧ RFl G F H fs (vs.map some) r
def RFl (G : Gx) (F H : Hp) : List S → List (Option V) → List Addr → Prop
  | [], os, fp => os = [] ∧ fp = []
  | s :: r, os, fp => ∃ o os' a b, os = o :: os' ∧ fp = a ++ b ∧ RF G F H s o a ∧ RFl G F H r os' b
end
/-- what is settled stands (a dict perhaps locked) -/
def Sub (F H : Hp) : Prop := ∀ a o, F a = some o → (∀ ps, o ≠ .tbl ps) ∧ (H a = some o ∨ (((∃ kvs, o = .dK kvs) ∨ ∃ kvs, o = .dT kvs) ∧ ∃ ob, H a = some (.frz ob o)))
def Le (F F' : Hp) : Prop := ∀ a o, F a = some o → F' a = some o
theorem Le.refl (F : Hp) : Le F F := fun _ _ h => h
theorem Le.trans {A B C : Hp} (h : Le A B) (k : Le B C) : Le A C := fun a o e => k a o (h a o e)
theorem Rd.le {F F' : Hp} (h : Le F F') {a : Addr} {u : HO} (r : Rd F a u) : Rd F' a u := by
  rcases r with r | ⟨o, r⟩
  · exact .inl (h _ _ r)
  · exact .inr ⟨o, h _ _ r⟩
theorem sqL_le {K : PySem.W.Frag} {F F' : Hp} (h : Le F F') {a : Addr} {xs : List V} (r : SqL K F a xs) : SqL K F' a xs := by
  rcases r with r | r
  · exact .inl (Rd.le h r)
  · exact .inr r
theorem sqT_le {K : PySem.W.Frag} {F F' : Hp} (h : Le F F') {a : Addr} {xs : List V} (r : SqT K F a xs) : SqT K F' a xs := by
  rcases r with r | r
  · exact .inl (Rd.le h r)
  · exact .inr r
theorem Rd.sub {F H : Hp} (h : Sub F H) {a : Addr} {u : HO} (r : Rd F a u) : Rd H a u := by
  rcases r with r | ⟨o, r⟩
  · rcases (h _ _ r).2 with e | ⟨_, ob, e⟩
    · exact .inl e
    · exact .inr ⟨ob, e⟩
  · rcases (h _ _ r).2 with e | ⟨n, _, _⟩
    · exact .inr ⟨o, e⟩
    · rcases n with ⟨_, n⟩ | ⟨_, n⟩ <;> cases n
theorem sqL_sub {K : PySem.W.Frag} {F H : Hp} (h : Sub F H) {a : Addr} {xs : List V} (r : SqL K F a xs) : SqL K H a xs := by
  rcases r with r | r
  · exact .inl (Rd.sub h r)
  · exact .inr r
theorem sqT_sub {K : PySem.W.Frag} {F H : Hp} (h : Sub F H) {a : Addr} {xs : List V} (r : SqT K F a xs) : SqT K H a xs := by
  rcases r with r | r
  · exact .inl (Rd.sub h r)
  · exact .inr r
theorem Sub.none {F H : Hp} (h : Sub F H) {a : Addr} (e : H a = none) : F a = none := by
  cases q : F a with
  | none => rfl
  | some o =>
    rcases (h _ _ q).2 with z | ⟨_, _, z⟩ <;> (rw [e] at z; cases z)
mutual
theorem RD.le {G : Gx} {F F' : Hp} (h : Le F F') : ∀ (x : D) (v : V), RD G F x v → RD G F' x v
  | .non, _, r => r
  | .bl _, _, r => r
  | .int _, _, r => r
  | .str _, _, r => r
  | .tup xs, _, ⟨a, vs, e, q, r⟩ => ⟨a, vs, e, sqT_le h q, RDs.le h xs vs r⟩
  | .lst xs, _, ⟨a, vs, e, q, r⟩ => ⟨a, vs, e, sqL_le h q, RDs.le h xs vs r⟩
  | .dic ks vs, _, ⟨a, e, q⟩ => ⟨a, e, q.elim (fun ⟨kk, ws, e1, e2, e3, r⟩ => .inl ⟨kk, ws, h _ _ e1, e2, e3, RDs.le h vs ws r⟩) fun ⟨kk, ws, e1, e2, e3, r⟩ => .inr ⟨kk, ws, h _ _ e1, e2, e3, RDs.le h vs ws r⟩⟩
  | .obj c xs, _, ⟨a, dx, vs, e, q, l, r⟩ => ⟨a, dx, vs, e, h _ _ q, l, RDs.le h xs vs r⟩
theorem RDs.le {G : Gx} {F F' : Hp} (h : Le F F') : ∀ (xs : List D) (vs : List V), RDs G F xs vs → RDs G F' xs vs
  | [], _, r => r
  | x :: xs, _, ⟨v, r, e, q, s⟩ => ⟨v, r, e, RD.le h x v q, RDs.le h xs r s⟩
end
mutual
/-- stays: F grows away from what is owned, H stays on it -/
theorem RF.keep {G : Gx} {F F' H H' : Hp} (h : Le F F') : ∀ (s : S) (o : Option V) (fp : List Addr), RF G F H s o fp → (∀ a ∈ fp, H' a = H a ∧ F' a = none) → RF G F' H' s o fp
  | .gone, _, _, r, _ => r
  | .d x, _, _, ⟨e, v, q, r⟩, _ => ⟨e, v, q, RD.le h x v r⟩
  | .l xs, _, _, ⟨a, vs, e1, e2, e3, e4, r⟩, k => by
    subst e2
    have q := k a (by simp)
    exact ⟨a, vs, e1, rfl, q.1.trans e3, q.2, RDs.le h xs vs r⟩
  | .ls xs, _, _, ⟨a, vs, p, e1, e2, e3, e4, r⟩, k => by
    subst e2
    have q := k a (by simp)
    exact ⟨a, vs, p, e1, rfl, q.1.trans e3, q.2, RFl.keep h xs _ p r fun b hb => k b (List.mem_cons_of_mem _ hb)⟩
  | .m ks vs, _, _, ⟨a, e1, e2, e4, r⟩, k => by
    subst e2
    have q := k a (by simp)
    refine ⟨a, e1, rfl, q.2, ?_⟩
    rcases r with ⟨kk, ws, e5, e6, e7, r⟩ | ⟨kk, ws, e5, e6, e7, r⟩
    · exact .inl ⟨kk, ws, q.1.trans e5, e6, e7, RDs.le h vs ws r⟩
    · exact .inr ⟨kk, ws, q.1.trans e5, e6, e7, RDs.le h vs ws r⟩
  | .o c fs, _, _, ⟨a, dx, vs, p, e1, e2, e3, e4, l, r⟩, k => by
    subst e2
    have q := k a (by simp)
    exact ⟨a, dx, vs, p, e1, rfl, q.1.trans e3, q.2, l, RFl.keep h fs _ p r fun b hb => k b (List.mem_cons_of_mem _ hb)⟩
theorem RFl.keep {G : Gx} {F F' H H' : Hp} (h : Le F F') : ∀ (s : List S) (o : List (Option V)) (fp : List Addr), RFl G F H s o fp → (∀ a ∈ fp, H' a = H a ∧ F' a = none) → RFl G F' H' s o fp
  | [], _, _, r, _ => r
  | s :: r, _, _, ⟨o, os', a, b, e1, e2, q1, q2⟩, k => by
    subst e2
    exact ⟨o, os', a, b, e1, rfl, RF.keep h s o a q1 fun c hc => k c (List.mem_append_left _ hc), RFl.keep h r os' b q2 fun c hc => k c (List.mem_append_right _ hc)⟩
end
def Owd : HO → Prop
  | .lst _ => True
  | .dK _ => True
  | .dT _ => True
  | .ins _ _ _ => True
  | _ => False
mutual
/-- what is owned is not settled, and stands -/
theorem RF.own {G : Gx} {F H : Hp} : ∀ (s : S) (o : Option V) (fp : List Addr), RF G F H s o fp → ∀ a ∈ fp, F a = none ∧ ∃ u, H a = some u ∧ Owd u
  | .gone, _, _, r, a, ha => by
    have r' : _ = [] := r
    subst r'
    simp at ha
  | .d x, _, _, ⟨e, _⟩, a, ha => by subst e; simp at ha
  | .l xs, _, _, ⟨a, vs, e1, e2, e3, e4, r⟩, b, hb => by
    subst e2
    have e : b = a := by simpa using hb
    subst e
    exact ⟨e4, _, e3, trivial⟩
  | .ls xs, _, _, ⟨a, vs, p, e1, e2, e3, e4, r⟩, b, hb => by
    subst e2
    rcases List.mem_cons.mp hb with e | hb
    · subst e
      exact ⟨e4, _, e3, trivial⟩
    · exact RFl.own xs _ p r b hb
  | .m ks vs, _, _, ⟨a, e1, e2, e4, r⟩, b, hb => by
    subst e2
    have e : b = a := by simpa using hb
    subst e
    rcases r with ⟨kk, ws, e5, _⟩ | ⟨kk, ws, e5, _⟩
    · exact ⟨e4, _, e5, trivial⟩
    · exact ⟨e4, _, e5, trivial⟩
  | .o c fs, _, _, ⟨a, dx, vs, p, e1, e2, e3, e4, l, r⟩, b, hb => by
    subst e2
    rcases List.mem_cons.mp hb with e | hb
    · subst e
      exact ⟨e4, _, e3, trivial⟩
    · exact RFl.own fs _ p r b hb
theorem RFl.own {G : Gx} {F H : Hp} : ∀ (s : List S) (o : List (Option V)) (fp : List Addr), RFl G F H s o fp → ∀ a ∈ fp, F a = none ∧ ∃ u, H a = some u ∧ Owd u
  | [], _, _, ⟨_, e⟩, a, ha => by subst e; simp at ha
  | s :: r, _, _, ⟨o, os', a, b, e1, e2, q1, q2⟩, c, hc => by
    subst e2
    rcases List.mem_append.mp hc with hc | hc
    · exact RF.own s o a q1 c hc
    · exact RFl.own r os' b q2 c hc
end
/-- a list of slots -/
abbrev Stk := List (Option V × S)
def RL (G : Gx) (F H : Hp) : Stk → List Addr → Prop
  | [], fp => fp = []
  | (o, s) :: r, fp => ∃ a b, fp = a ++ b ∧ RF G F H s o a ∧ RL G F H r b
theorem RL.keep {G : Gx} {F F' H H' : Hp} (h : Le F F') : ∀ (L : Stk) (fp : List Addr), RL G F H L fp → (∀ a ∈ fp, H' a = H a ∧ F' a = none) → RL G F' H' L fp
  | [], _, r, _ => r
  | (o, s) :: r, _, ⟨a, b, e, q1, q2⟩, k => by
    subst e
    exact ⟨a, b, rfl, RF.keep h s o a q1 fun c hc => k c (List.mem_append_left _ hc), RL.keep h r b q2 fun c hc => k c (List.mem_append_right _ hc)⟩
theorem RL.own {G : Gx} {F H : Hp} : ∀ (L : Stk) (fp : List Addr), RL G F H L fp → ∀ a ∈ fp, F a = none ∧ ∃ u, H a = some u ∧ Owd u
  | [], _, e, a, ha => by
    have e' : _ = [] := e
    subst e'
    simp at ha
  | (o, s) :: r, _, ⟨a, b, e, q1, q2⟩, c, hc => by
    subst e
    rcases List.mem_append.mp hc with hc | hc
    · exact RF.own s o a q1 c hc
    · exact RL.own r b q2 c hc
theorem RL.app {G : Gx} {F H : Hp} : ∀ (A B : Stk) (fp : List Addr), RL G F H (A ++ B) fp ↔ ∃ a b, fp = a ++ b ∧ RL G F H A a ∧ RL G F H B b
  | [], B, fp => ⟨fun h => ⟨[], fp, rfl, rfl, h⟩, fun ⟨a, b, e, h1, h2⟩ => by
      have h1' : a = [] := h1
      subst h1' e
      exact h2⟩
  | (o, s) :: r, B, fp => ⟨fun ⟨a, b, e, q1, q2⟩ => by
      obtain ⟨c, d, e2, q3, q4⟩ := (RL.app r B b).mp q2
      exact ⟨a ++ c, d, by rw [e, e2, List.append_assoc], ⟨a, c, rfl, q1, q3⟩, q4⟩, fun ⟨a, b, e, ⟨c, d, e2, q1, q2⟩, q3⟩ =>
      ⟨c, d ++ b, by rw [e, e2, List.append_assoc], q1, (RL.app r B _).mpr ⟨d, b, rfl, q2, q3⟩⟩⟩
theorem RL.perm {G : Gx} {F H : Hp} {A B : Stk} (p : A.Perm B) : ∀ fp, RL G F H A fp → ∃ fp', RL G F H B fp' ∧ fp'.Perm fp := by
  induction p with
  | nil => exact fun fp h => ⟨fp, h, .refl _⟩
  | cons x _ ih =>
    rintro fp ⟨a, b, e, q1, q2⟩
    obtain ⟨b', h1, h2⟩ := ih b q2
    exact ⟨a ++ b', ⟨a, b', rfl, q1, h1⟩, by rw [e]; exact h2.append_left a⟩
  | swap x y l =>
    rintro fp ⟨a, b, e, q1, c, d, e2, q2, q3⟩
    refine ⟨c ++ (a ++ d), ⟨c, _, rfl, q2, a, d, rfl, q1, q3⟩, ?_⟩
    rw [e, e2]
    exact List.perm_append_comm_assoc c a d
  | trans _ _ ih1 ih2 =>
    intro fp h
    obtain ⟨f1, h1, p1⟩ := ih1 fp h
    obtain ⟨f2, h2, p2⟩ := ih2 f1 h1
    exact ⟨f2, h2, p2.trans p1⟩
/-- THE STATE: the slots and what stands behind them, all told apart -/
structure Hs (G : Gx) (N : Pn) (H : Hp) (σ : L2.St) (ρ : List S) (st : Stk) : Prop where
  len : σ.length = ρ.length
  ex : ∃ F fp, Sub F H ∧ RL G F H (st ++ σ.zip ρ) fp ∧ fp.Nodup
  tb : Tb G H
  pin : ∀ j ∈ N.J, σ[j]? = N.s0[j]?
section
variable {G : Gx} {N : Pn} {H H' : Hp} {σ : L2.St} {ρ : List S} {st st' : Stk}
theorem Hs.perm (h : Hs G N H σ ρ st) (p : st.Perm st') : Hs G N H σ ρ st' := by
  obtain ⟨F, fp, s, r, n⟩ := h.ex
  obtain ⟨fp', r', p'⟩ := RL.perm (p.append_right _) fp r
  exact ⟨h.len, ⟨F, fp', s, r', (p'.nodup_iff).mpr n⟩, h.tb, h.pin⟩
theorem Hs.drop {x : Option V × S} (h : Hs G N H σ ρ (x :: st)) : Hs G N H σ ρ st := by
  obtain ⟨F, fp, s, ⟨a, b, e, _, r⟩, n⟩ := h.ex
  subst e
  exact ⟨h.len, ⟨F, b, s, r, (List.nodup_append.mp n).2.1⟩, h.tb, h.pin⟩
theorem Hs.drops : ∀ {A : Stk}, Hs G N H σ ρ (A ++ st) → Hs G N H σ ρ st
  | [], h => h
  | _ :: _, h => Hs.drops (Hs.drop h)
/-- the heap grew (tables may have, too) -/
def Grow (G : Gx) (H H' : Hp) : Prop := LamX.ExtN H H' ∧ Tb G H'
theorem Sub.grow {F : Hp} (s : Sub F H) (e : LamX.ExtN H H') : Sub F H' := fun a o q => by
  obtain ⟨nt, h⟩ := s a o q
  refine ⟨nt, ?_⟩
  rcases h with h | ⟨nf, ob, h⟩
  · exact .inl (e _ _ h nt)
  · exact .inr ⟨nf, ob, e _ _ h fun ps z => by cases z⟩
theorem mut_tbl {u : HO} (m : Owd u) : ∀ ps, u ≠ .tbl ps := fun ps z => by subst z; exact m
theorem Hs.grow (h : Hs G N H σ ρ st) (g : Grow G H H') : Hs G N H' σ ρ st := by
  obtain ⟨F, fp, s, r, n⟩ := h.ex
  refine ⟨h.len, ⟨F, fp, s.grow g.1, ?_, n⟩, g.2, h.pin⟩
  refine RL.keep (Le.refl F) _ fp r fun a ha => ?_
  obtain ⟨f1, u, q, m⟩ := RL.own _ fp r a ha
  exact ⟨(g.1 a u q (mut_tbl m)).trans q.symm, f1⟩
theorem Grow.of (t : Tb G H) (e : ∀ b o, H b = some o → H' b = some o) : Grow G H H' := ⟨LamX.ExtN.of e, t.ext e⟩
theorem Grow.refl (t : Tb G H) : Grow G H H := ⟨LamX.ExtN.refl H, t⟩
theorem keep_upd {p : Addr} {o : HO} (hp : H p = none) : ∀ b u, H b = some u → upd H p o b = some u := fun b u e => by
  rw [upd_ne (ne_of_none e hp)]
  exact e
theorem Grow.upd {p : Addr} {o : HO} (t : Tb G H) (hp : H p = none) : Grow G H (upd H p o) := Grow.of t (keep_upd hp)
/-- opened: the first ones and the rest, apart -/
theorem Hs.opens {A : Stk} (h : Hs G N H σ ρ (A ++ st)) : ∃ F fa fr, Sub F H ∧ RL G F H A fa ∧ RL G F H (st ++ σ.zip ρ) fr ∧ (fa ++ fr).Nodup := by
  obtain ⟨F, fp, s, r, n⟩ := h.ex
  rw [List.append_assoc] at r
  obtain ⟨a, b, e, r1, r2⟩ := (RL.app A _ fp).mp r
  subst e
  exact ⟨F, a, b, s, r1, r2, n⟩
/-- .. and closed again: F' and H' hold the new first ones; the rest was let alone -/
theorem Hs.close {A : Stk} {F F' : Hp} {fa fr : List Addr} (h0 : Hs G N H σ ρ st') (s : Sub F' H') (t : Tb G H') (le : Le F F') (ra : RL G F' H' A fa) (r : RL G F H (st ++ σ.zip ρ) fr)
    (k : ∀ a ∈ fr, H' a = H a ∧ F' a = none) (n : (fa ++ fr).Nodup) : Hs G N H' σ ρ (A ++ st) := by
  refine ⟨h0.len, ⟨F', fa ++ fr, s, ?_, n⟩, t, h0.pin⟩
  rw [List.append_assoc]
  exact (RL.app A _ _).mpr ⟨fa, fr, rfl, ra, RL.keep le _ fr r k⟩
/-- a heap that grew keeps what is owned -/
theorem own_grow {F : Hp} {L : Stk} {fr : List Addr} (r : RL G F H L fr) (e : LamX.ExtN H H') : ∀ a ∈ fr, H' a = H a ∧ F a = none := fun a ha => by
  obtain ⟨f1, u, q, m⟩ := RL.own _ fr r a ha
  exact ⟨(e a u q (mut_tbl m)).trans q.symm, f1⟩
theorem fp_ne {F : Hp} {L : Stk} {fr : List Addr} {p : Addr} (r : RL G F H L fr) (hp : H p = none) : p ∉ fr := fun hm => by
  obtain ⟨_, u, q, _⟩ := RL.own _ fr r p hm
  rw [hp] at q
  cases q
theorem zip_set {α β : Type} : ∀ (xs : List α) (ys : List β) (i : Nat) (a : α) (b : β), (xs.set i a).zip (ys.set i b) = (xs.zip ys).set i (a, b)
  | [], _, _, _, _ => by simp
  | _ :: _, [], _, _, _ => by simp
  | _ :: _, _ :: _, 0, _, _ => rfl
  | _ :: xs, _ :: ys, i + 1, a, b => by simp [zip_set xs ys i a b]
theorem get_perm {α : Type} : ∀ {l : List α} {i : Nat} {x : α}, l[i]? = some x → l.Perm (x :: l.eraseIdx i)
  | [], _, _, h => by simp at h
  | a :: l, 0, x, h => by
    have e : a = x := Option.some.inj h
    subst e
    exact .refl _
  | a :: l, i + 1, x, h => by
    have ih := get_perm (l := l) (i := i) (x := x) (by simpa using h)
    exact (ih.cons a).trans (List.Perm.swap _ _ _)
theorem set_perm {α : Type} {l : List α} {i : Nat} (h : i < l.length) (x : α) : (l.set i x).Perm (x :: l.eraseIdx i) := by
  have e := get_perm (l := l.set i x) (i := i) (x := x) (by simp [h])
  rw [List.eraseIdx_set_eq] at e
  exact e
theorem set_same {α : Type} : ∀ {l : List α} {i : Nat} {x : α}, l[i]? = some x → l.set i x = l
  | [], _, _, h => by simp at h
  | a :: l, 0, x, h => by
    have e : a = x := Option.some.inj h
    subst e
    rfl
  | a :: l, i + 1, x, h => by
    have ih := set_same (l := l) (i := i) (x := x) (by simpa using h)
    show a :: l.set i x = a :: l
    rw [ih]
theorem zip_get {α β : Type} {xs : List α} {ys : List β} {i : Nat} {a : α} {b : β} (h1 : xs[i]? = some a) (h2 : ys[i]? = some b) : (xs.zip ys)[i]? = some (a, b) := by
  rw [List.getElem?_zip_eq_some]
  exact ⟨h1, h2⟩
theorem RL.gone {F : Hp} {L : Stk} {fp : List Addr} {o : Option V} (r : RL G F H L fp) : RL G F H ((o, .gone) :: L) fp := ⟨[], fp, rfl, rfl, r⟩
theorem RL.ungone {F : Hp} {L : Stk} {fp : List Addr} {o : Option V} (r : RL G F H ((o, .gone) :: L) fp) : RL G F H L fp := by
  obtain ⟨a, b, e, q, r⟩ := r
  have q' : a = [] := q
  subst q' e
  exact r
theorem Hs.get (h : Hs G N H σ ρ st) {i : Nat} {s : S} (e : ρ[i]? = some s) : ∃ o, σ[i]? = some o := by
  have := (List.getElem?_eq_some_iff.mp e).1
  exact ⟨σ[i]'(by rw [h.len]; exact this), by simp⟩
/-- a slot's holding is moved to the stack -/
theorem Hs.pull (h : Hs G N H σ ρ st) {i : Nat} {s : S} {o : Option V} (e : ρ[i]? = some s) (eo : σ[i]? = some o) : Hs G N H σ (ρ.set i .gone) ((o, s) :: st) := by
  obtain ⟨F, fp, sb, r, n⟩ := h.ex
  have ez := zip_get eo e
  have hi : i < (σ.zip ρ).length := (List.getElem?_eq_some_iff.mp ez).1
  have es : σ.zip (ρ.set i .gone) = (σ.zip ρ).set i (o, .gone) := by
    rw [← zip_set]
    congr 1
    exact (set_same eo).symm
  have p1 : (st ++ σ.zip ρ).Perm ((o, s) :: (st ++ (σ.zip ρ).eraseIdx i)) := by
    exact ((get_perm ez).append_left st).trans List.perm_middle
  have p2 : ((o, S.gone) :: (o, s) :: (st ++ (σ.zip ρ).eraseIdx i)).Perm ((o, s) :: (st ++ σ.zip (ρ.set i .gone))) := by
    rw [es]
    refine (List.Perm.swap _ _ _).trans (List.Perm.cons _ ?_)
    exact (List.perm_middle.symm.trans ((set_perm hi _).symm.append_left st))
  obtain ⟨f1, r1, q1⟩ := RL.perm p1 fp r
  obtain ⟨f2, r2, q2⟩ := RL.perm p2 f1 r1.gone
  exact ⟨by rw [List.length_set]; exact h.len, ⟨F, f2, sb, r2, ((q2.trans q1).nodup_iff).mpr n⟩, h.tb, h.pin⟩
/-- a holding on the stack is laid into a slot -/
theorem Hs.put (h : Hs G N H σ ρ ((o, s) :: st)) {i : Nat} {t : S} (e : ρ[i]? = some t) (eo : σ[i]? = some o) : Hs G N H σ (ρ.set i s) st := by
  obtain ⟨F, fp, sb, r, n⟩ := h.ex
  have ez := zip_get eo e
  have hi : i < (σ.zip ρ).length := (List.getElem?_eq_some_iff.mp ez).1
  have es : σ.zip (ρ.set i s) = (σ.zip ρ).set i (o, s) := by
    rw [← zip_set]
    congr 1
    exact (set_same eo).symm
  have p1 : ((o, s) :: st ++ σ.zip ρ).Perm ((o, t) :: ((o, s) :: (st ++ (σ.zip ρ).eraseIdx i))) := by
    exact (List.Perm.cons _ (((get_perm ez).append_left st).trans List.perm_middle)).trans (List.Perm.swap _ _ _)
  obtain ⟨f1, ⟨a, b, ef, _, r1⟩, q1⟩ := RL.perm p1 fp r
  have p2 : ((o, s) :: (st ++ (σ.zip ρ).eraseIdx i)).Perm (st ++ σ.zip (ρ.set i s)) := by
    rw [es]
    exact (List.perm_middle.symm.trans ((set_perm hi _).symm.append_left st))
  obtain ⟨f2, r2, q2⟩ := RL.perm p2 b r1
  have nb : b.Nodup := by
    have := (q1.nodup_iff).mpr n
    rw [ef] at this
    exact (List.nodup_append.mp this).2.1
  exact ⟨by rw [List.length_set]; exact h.len, ⟨F, f2, sb, r2, (q2.nodup_iff).mpr nb⟩, h.tb, h.pin⟩
/-- a name is stored -/
theorem Hs.assign {v : V} {s : S} (h : Hs G N H σ ρ ((some v, s) :: st)) {i : Nat} (hi : i < ρ.length) (hj : i ∉ N.J) : Hs G N H (σ.set i (some v)) (ρ.set i s) st := by
  obtain ⟨F, fp, sb, r, n⟩ := h.ex
  have hiσ : i < σ.length := by rw [h.len]; exact hi
  have ez : (σ.zip ρ)[i]? = some (σ[i], ρ[i]) := zip_get (by simp [hiσ]) (by simp [hi])
  have hiz : i < (σ.zip ρ).length := (List.getElem?_eq_some_iff.mp ez).1
  have p1 : ((some v, s) :: st ++ σ.zip ρ).Perm ((σ[i], ρ[i]) :: ((some v, s) :: (st ++ (σ.zip ρ).eraseIdx i))) :=
    (List.Perm.cons _ (((get_perm ez).append_left st).trans List.perm_middle)).trans (List.Perm.swap _ _ _)
  obtain ⟨f1, ⟨a, b, ef, _, r1⟩, q1⟩ := RL.perm p1 fp r
  have p2 : ((some v, s) :: (st ++ (σ.zip ρ).eraseIdx i)).Perm (st ++ (σ.set i (some v)).zip (ρ.set i s)) := by
    rw [zip_set]
    exact (List.perm_middle.symm.trans ((set_perm hiz _).symm.append_left st))
  obtain ⟨f2, r2, q2⟩ := RL.perm p2 b r1
  have nb : b.Nodup := by
    have := (q1.nodup_iff).mpr n
    rw [ef] at this
    exact (List.nodup_append.mp this).2.1
  refine ⟨by rw [List.length_set, List.length_set]; exact h.len, ⟨F, f2, sb, r2, (q2.nodup_iff).mpr nb⟩, h.tb, fun j hm => ?_⟩
  rw [List.getElem?_set_ne (fun z => hj (by rw [z]; exact hm))]
  exact h.pin j hm
/-- a slot is forgotten -/
theorem Hs.forget (h : Hs G N H σ ρ st) (i : Nat) : Hs G N H σ (ρ.set i .gone) st := by
  cases e : ρ[i]? with
  | none =>
    have : ρ.length ≤ i := List.getElem?_eq_none_iff.mp e
    rw [List.set_eq_of_length_le this]
    exact h
  | some s =>
    obtain ⟨o, eo⟩ := h.get e
    exact (h.pull e eo).drop
/-- a settled slot is read -/
theorem Hs.copy (h : Hs G N H σ ρ st) {i : Nat} {x : D} (e : ρ[i]? = some (.d x)) : ∃ v, σ[i]? = some (some v) ∧ Hs G N H σ ρ ((some v, .d x) :: st) := by
  obtain ⟨o, eo⟩ := h.get e
  have h1 := h.pull e eo
  obtain ⟨F, fp, sb, ⟨a, b, ef, q, r⟩, n⟩ := h1.ex
  obtain ⟨ea, v, ev, q⟩ := q
  subst ea ev
  have h2 : Hs G N H σ (ρ.set i .gone) ((some v, .d x) :: (some v, .d x) :: st) := ⟨h1.len, ⟨F, fp, sb, ⟨[], b, ef, ⟨rfl, v, rfl, q⟩, [], b, rfl, ⟨rfl, v, rfl, q⟩, r⟩, n⟩, h1.tb, h1.pin⟩
  have h3 := h2.put (i := i) (t := .gone) (by simp [(List.getElem?_eq_some_iff.mp e).1]) eo
  rw [List.set_set] at h3
  rw [set_same e] at h3
  exact ⟨v, eo, h3⟩
/-- a settled value on the stack, twice -/
theorem Hs.dup {o : Option V} {x : D} (h : Hs G N H σ ρ ((o, .d x) :: st)) : Hs G N H σ ρ ((o, .d x) :: (o, .d x) :: st) := by
  obtain ⟨F, fp, sb, ⟨a, b, ef, ⟨ea, v, ev, q⟩, r⟩, n⟩ := h.ex
  subst ea
  exact ⟨h.len, ⟨F, fp, sb, ⟨[], b, ef, ⟨rfl, v, ev, q⟩, [], b, rfl, ⟨rfl, v, ev, q⟩, r⟩, n⟩, h.tb, h.pin⟩
/-! ### settling -/
mutual
def S.frz : S → Option D
  | .gone => none
  | .d x => some x
  | .l xs => some (.lst xs)
  | .ls xs => (S.frzs xs).map D.lst
  | .m ks vs => some (.dic ks vs)
  | .o c fs => (S.frzs fs).map (D.obj c)
def S.frzs : List S → Option (List D)
  | [] => some []
  | s :: r => match S.frz s, S.frzs r with
    | some x, some xs => some (x :: xs)
    | _, _ => none
end
def mrg (F H : Hp) (fp : List Addr) : Hp := fun a => if a ∈ fp then H a else F a
theorem mrg_in {F : Hp} {fp : List Addr} {a : Addr} (h : a ∈ fp) : mrg F H fp a = H a := if_pos h
theorem mrg_out {F : Hp} {fp : List Addr} {a : Addr} (h : a ∉ fp) : mrg F H fp a = F a := if_neg h
theorem mrg_le {F : Hp} {fp : List Addr} (h : ∀ a ∈ fp, F a = none) : Le F (mrg F H fp) := fun a o e => by
  rw [mrg_out fun z => by rw [h a z] at e; cases e]
  exact e
theorem map_some_inj {α : Type} : ∀ {a b : List α}, a.map some = b.map some → a = b
  | [], [], _ => rfl
  | [], _ :: _, h => by simp at h
  | _ :: _, [], h => by simp at h
  | x :: a, y :: b, h => by
    simp only [List.map_cons, List.cons.injEq, Option.some.injEq] at h
    rw [h.1, map_some_inj h.2]
mutual
theorem RF.frz {F : Hp} {fq : List Addr} (le : Le F (mrg F H fq)) : ∀ (s : S) (o : Option V) (fp : List Addr) (x : D), RF G F H s o fp → (∀ a ∈ fp, a ∈ fq) → S.frz s = some x → ∃ v, o = some v ∧ RD G (mrg F H fq) x v
  | .gone, _, _, _, _, _, e => by simp [S.frz] at e
  | .d x, _, _, y, ⟨_, v, q, r⟩, _, e => by
    simp only [S.frz, Option.some.injEq] at e
    subst e
    exact ⟨v, q, RD.le le x v r⟩
  | .l xs, _, _, y, ⟨a, vs, e1, e2, e3, e4, r⟩, k, e => by
    simp only [S.frz, Option.some.injEq] at e
    subst e e2
    exact ⟨_, e1, a, vs, rfl, .inl (.inl ((mrg_in (k a (by simp))).trans e3)), RDs.le le xs vs r⟩
  | .ls xs, _, _, y, ⟨a, vs, p, e1, e2, e3, e4, r⟩, k, e => by
    subst e2
    simp only [S.frz, Option.map_eq_some_iff] at e
    obtain ⟨ys, h1, h2⟩ := e
    subst h2
    obtain ⟨ws, h3, h4⟩ := RFl.frz le xs _ p ys r (fun b hb => k b (List.mem_cons_of_mem _ hb)) h1
    have h5 : vs = ws := map_some_inj h3
    subst h5
    exact ⟨_, e1, a, vs, rfl, .inl (.inl ((mrg_in (k a (by simp))).trans e3)), h4⟩
  | .m ks vs, _, _, y, ⟨a, e1, e2, e4, r⟩, k, e => by
    simp only [S.frz, Option.some.injEq] at e
    subst e e2
    have q : mrg F H fq a = H a := mrg_in (k a (by simp))
    refine ⟨_, e1, a, rfl, ?_⟩
    rcases r with ⟨kk, ws, e5, e6, e7, r⟩ | ⟨kk, ws, e5, e6, e7, r⟩
    · exact .inl ⟨kk, ws, q.trans e5, e6, e7, RDs.le le vs ws r⟩
    · exact .inr ⟨kk, ws, q.trans e5, e6, e7, RDs.le le vs ws r⟩
  | .o c fs, _, _, y, ⟨a, dx, vs, p, e1, e2, e3, e4, l, r⟩, k, e => by
    subst e2
    simp only [S.frz, Option.map_eq_some_iff] at e
    obtain ⟨ys, h1, h2⟩ := e
    subst h2
    obtain ⟨ws, h3, h4⟩ := RFl.frz le fs _ p ys r (fun b hb => k b (List.mem_cons_of_mem _ hb)) h1
    have h5 : vs = ws := map_some_inj h3
    subst h5
    exact ⟨_, e1, a, dx, vs, rfl, (mrg_in (k a (by simp))).trans e3, l, h4⟩
theorem RFl.frz {F : Hp} {fq : List Addr} (le : Le F (mrg F H fq)) : ∀ (s : List S) (o : List (Option V)) (fp : List Addr) (x : List D), RFl G F H s o fp → (∀ a ∈ fp, a ∈ fq) → S.frzs s = some x → ∃ vs : List V, o = vs.map some ∧ RDs G (mrg F H fq) x vs
  | [], _, _, x, ⟨e1, _⟩, _, e => by
    simp only [S.frzs, Option.some.injEq] at e
    subst e e1
    exact ⟨[], rfl, rfl⟩
  | s :: r, _, _, x, ⟨o, os', a, b, e1, e2, q1, q2⟩, k, e => by
    subst e1 e2
    cases h1 : S.frz s with
    | none => simp [S.frzs, h1] at e
    | some y =>
      cases h2 : S.frzs r with
      | none => simp [S.frzs, h1, h2] at e
      | some ys =>
        simp only [S.frzs, h1, h2, Option.some.injEq] at e
        subst e
        obtain ⟨v, e3, q3⟩ := RF.frz le s o a y q1 (fun c hc => k c (List.mem_append_left _ hc)) h1
        obtain ⟨vs, e4, q4⟩ := RFl.frz le r os' b ys q2 (fun c hc => k c (List.mem_append_right _ hc)) h2
        subst e3 e4
        exact ⟨v :: vs, rfl, v, vs, rfl, q3, q4⟩
end
/-- what is owned is settled -/
theorem Hs.freeze {o : Option V} {s : S} {x : D} (h : Hs G N H σ ρ ((o, s) :: st)) (e : S.frz s = some x) : Hs G N H σ ρ ((o, .d x) :: st) := by
  obtain ⟨F, fp, sb, ⟨a, b, ef, q, r⟩, n⟩ := h.ex
  subst ef
  have ow := RF.own s o a q
  have le : Le F (mrg F H a) := mrg_le fun c hc => (ow c hc).1
  obtain ⟨v, ev, q2⟩ := RF.frz le s o a x q (fun _ z => z) e
  obtain ⟨n1, n2, n3⟩ := List.nodup_append.mp n
  refine ⟨h.len, ⟨mrg F H a, b, fun c u hc => ?_, ⟨[], b, rfl, ⟨rfl, v, ev, q2⟩, RL.keep le _ b r fun c hc => ⟨rfl, ?_⟩⟩, n2⟩, h.tb, h.pin⟩
  · by_cases hm : c ∈ a
    · rw [mrg_in hm] at hc
      obtain ⟨_, u', hu, mu⟩ := ow c hm
      rw [hu] at hc
      cases hc
      exact ⟨mut_tbl mu, .inl hu⟩
    · rw [mrg_out hm] at hc
      exact sb c u hc
  · rw [mrg_out fun z => n3 c z c hc rfl]
    exact (RL.own _ b r c hc).1
/-! ### several on the stack -/
def zs (vs : List V) (xs : List S) : Stk := (vs.map some).zip xs
theorem RDs.len {F : Hp} : ∀ {xs : List D} {vs : List V}, RDs G F xs vs → vs.length = xs.length
  | [], _, e => by
    have e' : _ = [] := e
    subst e'
    rfl
  | x :: xs, _, ⟨v, r, e, _, s⟩ => by
    subst e
    simp [RDs.len s]
/-- settled values on the stack -/
theorem RL.ds {F : Hp} : ∀ {vs : List V} {xs : List D} {fa : List Addr}, vs.length = xs.length → (RL G F H (zs vs (xs.map .d)) fa ↔ fa = [] ∧ RDs G F xs vs)
  | [], [], fa, _ => ⟨fun h => ⟨h, rfl⟩, fun h => h.1⟩
  | [], _ :: _, _, h => by simp at h
  | _ :: _, [], _, h => by simp at h
  | v :: vs, x :: xs, fa, h => by
    have ih := fun fb => RL.ds (F := F) (vs := vs) (xs := xs) (fa := fb) (by simpa using h)
    constructor
    · rintro ⟨a, b, e, ⟨ea, w, ew, q⟩, r⟩
      obtain ⟨eb, r2⟩ := (ih b).mp r
      cases ew
      subst ea eb
      exact ⟨by simpa using e, v, vs, rfl, q, r2⟩
    · rintro ⟨e, w, r, e2, q, s⟩
      cases e2
      exact ⟨[], [], by simpa using e, ⟨rfl, v, rfl, q⟩, (ih []).mpr ⟨rfl, s⟩⟩
end
end DL
/-! the data layer: what an expression does to the state -/
namespace DL
open PySem PySem.Spec PyProof.Rows L2
inductive Res (α : Type) where
  | ok (a : α) (ρ : List S) | exc (c : Nat) (p : D) (ρ : List S) | stuck
abbrev M (α : Type) := List S → Res α
def mpure {α : Type} (a : α) : M α := fun ρ => .ok a ρ
def mbind {α β : Type} (f : M α) (g : α → M β) : M β := fun ρ => match f ρ with
  | .ok a ρ' => g a ρ'
  | .exc c p ρ' => .exc c p ρ'
  | .stuck => .stuck
theorem mbind_ok {α β : Type} {f : M α} {g : α → M β} {ρ ρ' : List S} {a : α} (h : f ρ = .ok a ρ') : mbind f g ρ = g a ρ' := by unfold mbind; rw [h]
theorem mbind_exc {α β : Type} {f : M α} {g : α → M β} {ρ ρ' : List S} {c : Nat} {p : D} (h : f ρ = .exc c p ρ') : mbind f g ρ = .exc c p ρ' := by unfold mbind; rw [h]
theorem mbind_stuck {α β : Type} {f : M α} {g : α → M β} {ρ : List S} (h : f ρ = .stuck) : mbind f g ρ = .stuck := by unfold mbind; rw [h]
def mstuck {α : Type} : M α := fun _ => .stuck
inductive ORes where
  | ok (z : S) (outs : List S) | exc (c : Nat) (p : D) (outs : List S) | stuck
/-- an exception of the c-th class -/
def ExR (G : Gx) (H : Hp) (c : Nat) (p : D) (cls : Value) (d : Option Addr) : Prop :=
  cls = .ref (G.cl c) ∧ (match p with
    | .int i => ∃ dx, d = some dx ∧ H dx = some (.xd [("row", .int i)])
    | _ => d = none)
/-- what is wanted of an outcome -/
def pst {α : Type} (G : Gx) (N : Pn) (W : WX) (σ : L2.St) (st : Stk) (K : α → List S → Prop) (r : Res α) : Prop := match r with
  | .ok a ρ' => K a ρ'
  | .exc c p ρ' => ∀ cls d H', ExR G H' c p cls d → Hs G N H' σ ρ' st → W cls d σ H'
  | .stuck => False
/-- the meaning of an expression, of a test -/
def sE (X : Cx) (e : Expr) : TE := fun σ H Q => ∀ (pins : List (Addr × Obj)) (s : Shared), Inv X pins σ H s → wpAny (model X.prog X.w) X.A (eval e X.env) (EP X pins σ Q) X.xe s
def sT (X : Cx) (e : Expr) : TT := fun σ H Q => ∀ (pins : List (Addr × Obj)) (s : Shared), Inv X pins σ H s → wpAny (model X.prog X.w) X.A (isTrue e X.env (eval e X.env)) (TP X pins σ Q) X.xe s
theorem pe_sem {X : Cx} {e : Expr} : PE X e (sE X e) := ⟨fun pins s _ _ _ I h => h pins s I⟩
theorem pt_sem {X : Cx} {e : Expr} : PT X e (sT X e) := ⟨fun pins s _ _ _ I h => h pins s I⟩
theorem sE_of {X : Cx} {e : Expr} {t : TE} (p : PE X e t) {σ : L2.St} {H : Hp} {Q : VK} (h : t σ H Q) : sE X e σ H Q := fun pins s I => p.run pins s σ H Q I h
theorem sT_of {X : Cx} {e : Expr} {t : TT} (p : PT X e t) {σ : L2.St} {H : Hp} {Q : Bool → Hp → Prop} (h : t σ H Q) : sT X e σ H Q := fun pins s I => p.run pins s σ H Q I h
/-- several, from the left -/
def sAs (X : Cx) : List Expr → TA
  | [] => fun _ H Q => Q [] H
  | e :: es => fun σ H Q => sE X e σ H fun v H1 => sAs X es σ H1 fun vs H2 => Q (v :: vs) H2
def EX (G : Gx) (N : Pn) (X : Cx) (W : WX) (e : Expr) (f : M S) : Prop := ∀ (σ : L2.St) (ρ : List S) (st : Stk) (H : Hp) (Q : VK), Hs G N H σ ρ st →
  pst G N W σ st (fun s ρ' => ∀ v H', Hs G N H' σ ρ' ((some v, s) :: st) → Q v H') (f ρ) → sE X e σ H Q
def TX (G : Gx) (N : Pn) (X : Cx) (W : WX) (e : Expr) (f : M Bool) : Prop := ∀ (σ : L2.St) (ρ : List S) (st : Stk) (H : Hp) (Q : Bool → Hp → Prop), Hs G N H σ ρ st →
  pst G N W σ st (fun b ρ' => ∀ H', Hs G N H' σ ρ' st → Q b H') (f ρ) → sT X e σ H Q
/-! ### arguments: a value on the stack, or what a slot holds -/
inductive Arg where
  | v (f : M S) | b (i : Nat)
inductive AV where
  | s (x : S) | n (i : Nat)
def mArgs : List Arg → M (List AV)
  | [] => mpure []
  | .v f :: r => mbind f fun s => mbind (mArgs r) fun avs => mpure (.s s :: avs)
  | .b i :: r => fun ρ => match ρ[i]? with
    | none => .stuck
    | some .gone => .stuck
    | some _ => mbind (mArgs r) (fun avs => mpure (.n i :: avs)) ρ
def AVR (σ : L2.St) : List AV → List V → Prop
  | [], vs => vs = []
  | .s _ :: r, vs => ∃ v ws, vs = v :: ws ∧ AVR σ r ws
  | .n i :: r, vs => ∃ v ws, vs = v :: ws ∧ σ[i]? = some (some v) ∧ AVR σ r ws
def stkA : List AV → List V → Stk
  | .s x :: r, v :: vs => (some v, x) :: stkA r vs
  | .n _ :: r, _ :: vs => stkA r vs
  | _, _ => []
def grab : List S → List AV → Option (List S × List S)
  | ρ, [] => some ([], ρ)
  | ρ, .s x :: r => (grab ρ r).map fun p => (x :: p.1, p.2)
  | ρ, .n i :: r => match ρ[i]? with
    | none => none
    | some .gone => none
    | some (.d x) => (grab ρ r).map fun p => (.d x :: p.1, p.2)
    | some s => (grab (ρ.set i .gone) r).map fun p => (s :: p.1, p.2)
def isD : S → Bool
  | .d _ => true
  | _ => false
def lay : List S → List AV → List S → List S → List S
  | ρ, .n i :: r, x :: xs, y :: ys => if isD x then lay ρ r xs ys else (lay ρ r xs ys).set i y
  | ρ, .s _ :: r, _ :: xs, _ :: ys => lay ρ r xs ys
  | ρ, _, _, _ => ρ
def AX (G : Gx) (N : Pn) (X : Cx) (W : WX) (es : List Expr) (as : List Arg) : Prop := ∀ (σ : L2.St) (ρ : List S) (st : Stk) (H : Hp) (Q : List V → Hp → Prop), Hs G N H σ ρ st →
  pst G N W σ st (fun avs ρ' => ∀ vs H', AVR σ avs vs → Hs G N H' σ ρ' (stkA avs vs ++ st) → Q vs H') (mArgs as ρ) → sAs X es σ H Q
section
variable {G : Gx} {N : Pn} {X : Cx} {W : WX} {H H' : Hp} {σ : L2.St} {ρ ρ' : List S} {st st' : Stk} {e : Expr} {es : List Expr} {f : M S} {as : List Arg}
theorem pst.mono {α : Type} {K K' : α → List S → Prop} {r : Res α} (h : pst G N W σ st K r) (k : ∀ a ρ, K a ρ → K' a ρ) (d : ∀ H ρ, Hs G N H σ ρ st' → Hs G N H σ ρ st) : pst G N W σ st' K' r := by
  cases r with
  | ok a ρ => exact k a ρ h
  | exc c p ρ => exact fun cls dd H' x hs => h cls dd H' x (d _ _ hs)
  | stuck => exact h
theorem ax_nil : AX G N X W [] [] := fun σ ρ st H Q h p => p [] H rfl h
theorem ax_v (ha : EX G N X W e f) (hr : AX G N X W es as) : AX G N X W (e :: es) (.v f :: as) := fun σ ρ st H Q h p => by
  have p' : pst G N W σ st (fun avs ρ' => ∀ vs H', AVR σ avs vs → Hs G N H' σ ρ' (stkA avs vs ++ st) → Q vs H') (mbind f (fun s => mbind (mArgs as) fun avs => mpure (.s s :: avs)) ρ) := p
  refine ha σ ρ st H _ h ?_
  cases hf : f ρ with
  | ok s ρ1 =>
    rw [mbind_ok hf] at p'
    intro v H1 h1
    refine hr σ ρ1 _ H1 _ h1 ?_
    cases hm : mArgs as ρ1 with
    | ok avs ρ2 =>
      rw [mbind_ok hm] at p'
      intro vs H2 r2 h2
      exact p' (v :: vs) H2 ⟨v, vs, rfl, r2⟩ (h2.perm List.perm_middle)
    | exc c p ρ2 =>
      rw [mbind_exc hm] at p'
      exact fun cls d H2 x h2 => p' cls d H2 x h2.drop
    | stuck =>
      rw [mbind_stuck hm] at p'
      exact p'
  | exc c p ρ1 =>
    rw [mbind_exc hf] at p'
    exact p'
  | stuck =>
    rw [mbind_stuck hf] at p'
    exact p'
theorem Hs.val {i : Nat} {s : S} (h : Hs G N H σ ρ st) (e : ρ[i]? = some s) (n : s ≠ .gone) : ∃ v, σ[i]? = some (some v) := by
  obtain ⟨o, eo⟩ := h.get e
  obtain ⟨F, fp, sb, ⟨a, b, ef, q, r⟩, nn⟩ := (h.pull e eo).ex
  cases s with
  | gone => exact absurd rfl n
  | d x =>
    obtain ⟨_, v, ev, _⟩ := q
    exact ⟨v, by rw [eo, ev]⟩
  | l xs =>
    obtain ⟨a', vs, ev, _⟩ := q
    exact ⟨_, by rw [eo, ev]⟩
  | ls xs =>
    obtain ⟨a', vs, r', ev, _⟩ := q
    exact ⟨_, by rw [eo, ev]⟩
  | m ks vs =>
    obtain ⟨a', ev, _⟩ := q
    exact ⟨_, by rw [eo, ev]⟩
  | o c fs =>
    obtain ⟨a', dx, vs, r', ev, _⟩ := q
    exact ⟨_, by rw [eo, ev]⟩
theorem ax_b {i : Nat} {x : Str} {pos : Pos} (hr : AX G N X W es as) (hN : X.N[i]? = some x) (hv : Vis X.env.scope x) (hd : (x == ("__debug__" : Str)) = false := by decide) (hcd : (x == ("__classdict__" : Str)) = false := by decide) :
    AX G N X W (.Name x pos :: es) (.b i :: as) := fun σ ρ st H Q h p => by
  unfold mArgs at p
  cases ei : ρ[i]? with
  | none =>
    simp only [ei] at p
    exact p.elim
  | some s =>
    have ns : s ≠ .gone := fun z => by
      subst z
      simp only [ei] at p
      exact p.elim
    obtain ⟨v, ev⟩ := h.val ei ns
    have p' : pst G N W σ st (fun avs ρ' => ∀ vs H', AVR σ avs vs → Hs G N H' σ ρ' (stkA avs vs ++ st) → Q vs H') (mbind (mArgs as) (fun avs => mpure (.n i :: avs)) ρ) := by
      simp only [ei] at p
      cases s with
      | gone => exact absurd rfl ns
      | _ => exact p
    refine sE_of (pe_var hN hv hd hcd) ⟨v, ev, ?_⟩
    refine hr σ ρ st H _ h ?_
    cases hm : mArgs as ρ with
    | ok avs ρ2 =>
      rw [mbind_ok hm] at p'
      exact fun vs H2 r2 h2 => p' (v :: vs) H2 ⟨v, vs, rfl, ev, r2⟩ h2
    | exc c p ρ2 =>
      rw [mbind_exc hm] at p'
      exact p'
    | stuck =>
      rw [mbind_stuck hm] at p'
      exact p'
/-- what the arguments hold, gathered on the stack -/
theorem grab_ok : ∀ {avs : List AV} {vs : List V} {ρ : List S} {st : Stk} {xs ρ' : List S}, AVR σ avs vs → Hs G N H σ ρ (stkA avs vs ++ st) → grab ρ avs = some (xs, ρ') → vs.length = xs.length ∧ Hs G N H σ ρ' (zs vs xs ++ st)
  | [], vs, ρ, st, xs, ρ', r, h, e => by
    have e2 : vs = [] := r
    subst e2
    simp only [grab, Option.some.injEq, Prod.mk.injEq] at e
    obtain ⟨e1, e2⟩ := e
    subst e1 e2
    exact ⟨rfl, h⟩
  | .s x :: avs, _, ρ, st, xs, ρ', ⟨v, ws, ev, r⟩, h, e => by
    subst ev
    simp only [grab, Option.map_eq_some_iff] at e
    obtain ⟨p, e1, e2⟩ := e
    cases e2
    have h2 : Hs G N H σ ρ (stkA avs ws ++ ((some v, x) :: st)) := h.perm List.perm_middle.symm
    obtain ⟨l, q⟩ := grab_ok r h2 (xs := p.1) (ρ' := p.2) e1
    exact ⟨by simp [l], q.perm List.perm_middle⟩
  | .n i :: avs, _, ρ, st, xs, ρ', ⟨v, ws, ev, es, r⟩, h, e => by
    subst ev
    unfold grab at e
    cases ei : ρ[i]? with
    | none => simp [ei] at e
    | some s =>
      have go : ∀ (ρ1 : List S), Hs G N H σ ρ1 ((some v, s) :: (stkA avs ws ++ st)) → (grab ρ1 avs).map (fun p => (s :: p.1, p.2)) = some (xs, ρ') → (v :: ws).length = xs.length ∧ Hs G N H σ ρ' (zs (v :: ws) xs ++ st) := fun ρ1 h1 e1 => by
        simp only [Option.map_eq_some_iff] at e1
        obtain ⟨p, e1, e2⟩ := e1
        cases e2
        have h2 : Hs G N H σ ρ1 (stkA avs ws ++ ((some v, s) :: st)) := h1.perm List.perm_middle.symm
        obtain ⟨l, q⟩ := grab_ok r h2 (xs := p.1) (ρ' := p.2) e1
        exact ⟨by simp [l], q.perm List.perm_middle⟩
      cases s with
      | gone => simp [ei] at e
      | d x =>
        simp only [ei] at e
        obtain ⟨v', ev', h1⟩ := h.copy ei
        rw [es] at ev'
        cases ev'
        exact go ρ h1 e
      | l ys =>
        simp only [ei] at e
        exact go _ (h.pull ei es) e
      | ls ys =>
        simp only [ei] at e
        exact go _ (h.pull ei es) e
      | m ks ys =>
        simp only [ei] at e
        exact go _ (h.pull ei es) e
      | o c ys =>
        simp only [ei] at e
        exact go _ (h.pull ei es) e
theorem lay_len : ∀ (avs : List AV) (ρ xs ys : List S), (lay ρ avs xs ys).length = ρ.length
  | .n i :: r, ρ, x :: xs, y :: ys => by
    unfold lay
    split
    · exact lay_len r ρ xs ys
    · rw [List.length_set]
      exact lay_len r ρ xs ys
  | .s _ :: r, ρ, _ :: xs, _ :: ys => by
    unfold lay
    exact lay_len r ρ xs ys
  | [], ρ, xs, ys => by unfold lay; rfl
  | .n _ :: _, ρ, [], ys => by unfold lay; rfl
  | .n _ :: _, ρ, _ :: _, [] => by unfold lay; rfl
  | .s _ :: _, ρ, [], ys => by unfold lay; rfl
  | .s _ :: _, ρ, _ :: _, [] => by unfold lay; rfl
theorem lay_ok : ∀ {avs : List AV} {vs : List V} {ρ : List S} {st : Stk} {xs ys : List S}, AVR σ avs vs → xs.length = vs.length → ys.length = vs.length → Hs G N H σ ρ (zs vs ys ++ st) → Hs G N H σ (lay ρ avs xs ys) st
  | [], vs, ρ, st, xs, ys, r, l1, l2, h => by
    have e2 : vs = [] := r
    subst e2
    have e1 : xs = [] := List.length_eq_zero_iff.mp l1
    have e3 : ys = [] := List.length_eq_zero_iff.mp l2
    subst e1 e3
    exact h
  | .s x :: avs, _, ρ, st, x' :: xs, y :: ys, ⟨v, ws, ev, r⟩, l1, l2, h => by
    subst ev
    exact lay_ok (avs := avs) (vs := ws) r (by simpa using l1) (by simpa using l2) (Hs.drop h)
  | .s x :: avs, _, ρ, st, [], _, ⟨v, ws, ev, r⟩, l1, _, h => by subst ev; simp at l1
  | .s x :: avs, _, ρ, st, _ :: _, [], ⟨v, ws, ev, r⟩, _, l2, h => by subst ev; simp at l2
  | .n i :: avs, _, ρ, st, [], _, ⟨v, ws, ev, _, r⟩, l1, _, h => by subst ev; simp at l1
  | .n i :: avs, _, ρ, st, _ :: _, [], ⟨v, ws, ev, _, r⟩, _, l2, h => by subst ev; simp at l2
  | .n i :: avs, _, ρ, st, x :: xs, y :: ys, ⟨v, ws, ev, es, r⟩, l1, l2, h => by
    subst ev
    unfold lay
    split
    · exact lay_ok (avs := avs) (vs := ws) r (by simpa using l1) (by simpa using l2) (Hs.drop h)
    · have h1 : Hs G N H σ ρ (zs ws ys ++ ((some v, y) :: st)) := h.perm List.perm_middle.symm
      have h2 := lay_ok (avs := avs) (vs := ws) (xs := xs) r (by simpa using l1) (by simpa using l2) h1
      have hi : i < (lay ρ avs xs ys).length := by
        rw [lay_len, ← h.len]
        exact (List.getElem?_eq_some_iff.mp es).1
      exact h2.put (t := (lay ρ avs xs ys)[i]) (by simp [hi]) es
end
/-! ### operations -/
/-- r: the reading of an operation on values; op: what it does to what they hold -/
def OpS (G : Gx) (N : Pn) (W : WX) (r : L2.St → List V → Hp → VK → Prop) (op : List S → ORes) : Prop := ∀ (σ : L2.St) (ρ : List S) (st : Stk) (H : Hp) (vs : List V) (xs : List S) (Q : VK), vs.length = xs.length → Hs G N H σ ρ (zs vs xs ++ st) →
  (match op xs with
    | .ok z outs => outs.length = xs.length ∧ ∀ w H', Hs G N H' σ ρ ((some w, z) :: (zs vs outs ++ st)) → Q w H'
    | .exc c p outs => outs.length = xs.length ∧ ∀ cls d H', ExR G H' c p cls d → Hs G N H' σ ρ (zs vs outs ++ st) → W cls d σ H'
    | .stuck => False) → r σ vs H Q
def mFin (op : List S → ORes) (avs : List AV) : M S := fun ρ => match grab ρ avs with
  | none => .stuck
  | some p => match op p.1 with
    | .ok z outs => if outs.length = p.1.length then .ok z (lay p.2 avs p.1 outs) else .stuck
    | .exc c q outs => if outs.length = p.1.length then .exc c q (lay p.2 avs p.1 outs) else .stuck
    | .stuck => .stuck
def mOp (op : List S → ORes) (as : List Arg) : M S := mbind (mArgs as) (mFin op)
theorem fin_ok {G : Gx} {N : Pn} {W : WX} {σ : L2.St} {ρ : List S} {st : Stk} {H : Hp} {Q : VK} {avs : List AV} {vs : List V} {op : List S → ORes} {r : L2.St → List V → Hp → VK → Prop} (r1 : AVR σ avs vs) (h1 : Hs G N H σ ρ (stkA avs vs ++ st))
    (p : pst G N W σ st (fun s ρ' => ∀ v H', Hs G N H' σ ρ' ((some v, s) :: st) → Q v H') (mFin op avs ρ)) (ho : OpS G N W r op) : r σ vs H Q := by
  unfold mFin at p
  cases hg : grab ρ avs with
  | none =>
    rw [hg] at p
    exact p.elim
  | some q =>
    obtain ⟨xs, ρ2⟩ := q
    rw [hg] at p
    simp only at p
    obtain ⟨l, h2⟩ := grab_ok r1 h1 hg
    refine ho σ ρ2 st H vs xs Q l h2 ?_
    cases hop : op xs with
    | stuck =>
      rw [hop] at p
      exact p
    | ok z outs =>
      rw [hop] at p
      simp only at p
      by_cases hl : outs.length = xs.length
      · rw [if_pos hl] at p
        refine ⟨hl, fun w H' h3 => p w H' ?_⟩
        have h4 : Hs G N H' σ ρ2 (zs vs outs ++ ((some w, z) :: st)) := h3.perm List.perm_middle.symm
        exact lay_ok r1 l.symm (by rw [hl, l]) h4
      · rw [if_neg hl] at p
        exact p.elim
    | exc c pp outs =>
      rw [hop] at p
      simp only at p
      by_cases hl : outs.length = xs.length
      · rw [if_pos hl] at p
        exact ⟨hl, fun cls d H' x h3 => p cls d H' x (lay_ok r1 l.symm (by rw [hl, l]) h3)⟩
      · rw [if_neg hl] at p
        exact p.elim
theorem ex_op {G : Gx} {N : Pn} {X : Cx} {W : WX} {e : Expr} {es : List Expr} {as : List Arg} {op : List S → ORes} {r : L2.St → List V → Hp → VK → Prop} (hs : ∀ σ H Q, sAs X es σ H (fun vs H1 => r σ vs H1 Q) → sE X e σ H Q)
    (ha : AX G N X W es as) (ho : OpS G N W r op) : EX G N X W e (mOp op as) := fun σ ρ st H Q h p => by
  refine hs σ H Q (ha σ ρ st H _ h ?_)
  unfold mOp at p
  cases hm : mArgs as ρ with
  | exc c q ρ1 =>
    rw [mbind_exc hm] at p
    exact p
  | stuck =>
    rw [mbind_stuck hm] at p
    exact p
  | ok avs ρ1 =>
    rw [mbind_ok hm] at p
    exact fun vs H1 r1 h1 => fin_ok r1 h1 p ho
/-- a test that is an operation's answer -/
def mT (f : M S) : M Bool := mbind f fun s ρ => match s with
  | .d (.bl b) => .ok b ρ
  | _ => .stuck
theorem Hs.at_ {G : Gx} {N : Pn} {σ : L2.St} {ρ : List S} {st : Stk} {H : Hp} {v : V} {x : D} (h : Hs G N H σ ρ ((some v, .d x) :: st)) : ∃ F, Sub F H ∧ RD G F x v := by
  obtain ⟨F, fp, sb, ⟨a, b, ef, ⟨_, w, ew, q⟩, r⟩, n⟩ := h.ex
  cases ew
  exact ⟨F, sb, q⟩
theorem Hs.int {G : Gx} {N : Pn} {σ : L2.St} {ρ : List S} {st : Stk} {H : Hp} {v : V} {i : Int} (h : Hs G N H σ ρ ((some v, .d (.int i)) :: st)) : v = .int i := let ⟨_, _, q⟩ := h.at_; q
theorem Hs.bl {G : Gx} {N : Pn} {σ : L2.St} {ρ : List S} {st : Stk} {H : Hp} {v : V} {i : Bool} (h : Hs G N H σ ρ ((some v, .d (.bl i)) :: st)) : v = .bl i := let ⟨_, _, q⟩ := h.at_; q
theorem Hs.str {G : Gx} {N : Pn} {σ : L2.St} {ρ : List S} {st : Stk} {H : Hp} {v : V} {i : Str} (h : Hs G N H σ ρ ((some v, .d (.str i)) :: st)) : v = .str i := let ⟨_, _, q⟩ := h.at_; q
theorem Hs.non {G : Gx} {N : Pn} {σ : L2.St} {ρ : List S} {st : Stk} {H : Hp} {v : V} (h : Hs G N H σ ρ ((some v, .d .non) :: st)) : v = .non := let ⟨_, _, q⟩ := h.at_; q
theorem EX.bind {G : Gx} {N : Pn} {X : Cx} {W : WX} {e : Expr} {f : M S} {σ : L2.St} {ρ : List S} {st st0 : Stk} {H : Hp} {β : Type} {K : β → List S → Prop} {g : S → M β} {R : VK} (ha : EX G N X W e f) (h : Hs G N H σ ρ st)
    (p : pst G N W σ st0 K (mbind f g ρ)) (k : ∀ s ρ1 v H1, Hs G N H1 σ ρ1 ((some v, s) :: st) → pst G N W σ st0 K (g s ρ1) → R v H1)
    (d : ∀ H ρ, Hs G N H σ ρ st → Hs G N H σ ρ st0 := by exact fun _ _ q => q) : sE X e σ H R := by
  refine ha σ ρ st H _ h ?_
  cases hf : f ρ with
  | ok s ρ1 =>
    rw [mbind_ok hf] at p
    exact fun v H1 h1 => k s ρ1 v H1 h1 p
  | exc c q ρ1 =>
    rw [mbind_exc hf] at p
    exact fun cls dd H' x h' => p cls dd H' x (d _ _ h')
  | stuck =>
    rw [mbind_stuck hf] at p
    exact p
theorem TX.bind {G : Gx} {N : Pn} {X : Cx} {W : WX} {e : Expr} {f : M Bool} {σ : L2.St} {ρ : List S} {st st0 : Stk} {H : Hp} {β : Type} {K : β → List S → Prop} {g : Bool → M β} {R : Bool → Hp → Prop} (ha : TX G N X W e f) (h : Hs G N H σ ρ st)
    (p : pst G N W σ st0 K (mbind f g ρ)) (k : ∀ b ρ1 H1, Hs G N H1 σ ρ1 st → pst G N W σ st0 K (g b ρ1) → R b H1)
    (d : ∀ H ρ, Hs G N H σ ρ st → Hs G N H σ ρ st0 := by exact fun _ _ q => q) : sT X e σ H R := by
  refine ha σ ρ st H _ h ?_
  cases hf : f ρ with
  | ok s ρ1 =>
    rw [mbind_ok hf] at p
    exact fun H1 h1 => k s ρ1 H1 h1 p
  | exc c q ρ1 =>
    rw [mbind_exc hf] at p
    exact fun cls dd H' x h' => p cls dd H' x (d _ _ h')
  | stuck =>
    rw [mbind_stuck hf] at p
    exact p
theorem AX.bind {G : Gx} {N : Pn} {X : Cx} {W : WX} {es : List Expr} {as : List Arg} {σ : L2.St} {ρ : List S} {st st0 : Stk} {H : Hp} {β : Type} {K : β → List S → Prop} {g : List AV → M β} {R : List V → Hp → Prop} (ha : AX G N X W es as) (h : Hs G N H σ ρ st)
    (p : pst G N W σ st0 K (mbind (mArgs as) g ρ)) (k : ∀ avs ρ1 vs H1, AVR σ avs vs → Hs G N H1 σ ρ1 (stkA avs vs ++ st) → pst G N W σ st0 K (g avs ρ1) → R vs H1)
    (d : ∀ H ρ, Hs G N H σ ρ st → Hs G N H σ ρ st0 := by exact fun _ _ q => q) : sAs X es σ H R := by
  refine ha σ ρ st H _ h ?_
  cases hf : mArgs as ρ with
  | ok s ρ1 =>
    rw [mbind_ok hf] at p
    exact fun v H1 r1 h1 => k s ρ1 v H1 r1 h1 p
  | exc c q ρ1 =>
    rw [mbind_exc hf] at p
    exact fun cls dd H' x h' => p cls dd H' x (d _ _ h')
  | stuck =>
    rw [mbind_stuck hf] at p
    exact p
theorem pst.deep {G : Gx} {N : Pn} {W : WX} {σ : L2.St} {st : Stk} {α : Type} {x : Option V × S} {K K' : α → List S → Prop} {r : Res α} (h : pst G N W σ st K r) (k : ∀ a ρ, K a ρ → K' a ρ) : pst G N W σ (x :: st) K' r :=
  pst.mono h k fun _ _ q => q.drop
end DL
/-! the data layer: the forms of expressions -/
namespace DL
open PySem PySem.Spec PyProof.Rows L2
theorem sE.mono {X : Cx} {e : Expr} {σ : L2.St} {H : Hp} {Q Q' : VK} (h : sE X e σ H Q) (k : ∀ v H', Q v H' → Q' v H') : sE X e σ H Q' := fun pins s I =>
  thn (h pins s I) fun _ _ ⟨v, H', I', r, q⟩ => ⟨v, H', I', r, k v H' q⟩
theorem sT.mono {X : Cx} {e : Expr} {σ : L2.St} {H : Hp} {Q Q' : Bool → Hp → Prop} (h : sT X e σ H Q) (k : ∀ v H', Q v H' → Q' v H') : sT X e σ H Q' := fun pins s I =>
  thn (h pins s I) fun _ _ ⟨H', I', q⟩ => ⟨H', I', k _ H' q⟩
theorem sAs.mono {X : Cx} : ∀ {es : List Expr} {σ : L2.St} {H : Hp} {Q Q' : List V → Hp → Prop}, sAs X es σ H Q → (∀ v H', Q v H' → Q' v H') → sAs X es σ H Q'
  | [], _, _, _, _, h, k => k _ _ h
  | _ :: es, _, _, _, _, h, k => sE.mono h fun _ _ q => sAs.mono q fun _ _ q => k _ _ q
theorem pa_c {X : Cx} {e : Expr} {es : List Expr} (hr : PA X es (sAs X es)) (hs : starEach (e :: es) X.env = (false, eval e X.env) :: starEach es X.env := by rfl) : PA X (e :: es) (sAs X (e :: es)) := pa_cons pe_sem hr hs
theorem pa_n {X : Cx} : PA X [] (sAs X []) := pa_nil
section
variable {G : Gx} {N : Pn} {X : Cx} {W : WX} {H H' : Hp} {σ : L2.St} {ρ ρ' : List S} {st st' : Stk} {e a b c : Expr} {es : List Expr} {f fa fb fc : M S} {as : List Arg} {pos : Pos}
/-! ### constants, names -/
def mCon (x : D) : M S := mpure (.d x)
theorem ex_con {x : D} {v : V} (p : PE X e (tC v)) (hx : ∀ F : Hp, RD G F x v) : EX G N X W e (mCon x) := fun σ ρ st H Q h q =>
  sE_of p (q v H (by
    obtain ⟨F, fp, sb, r, n⟩ := h.ex
    exact ⟨h.len, ⟨F, fp, sb, ⟨[], fp, rfl, ⟨rfl, v, rfl, hx F⟩, r⟩, n⟩, h.tb, h.pin⟩))
theorem ex_int {i : Int} {j : Nat} : EX G N X W (.Constant (.int i) j pos) (mCon (.int i)) := ex_con pe_int fun _ => rfl
theorem ex_str {x : Str} {j : Nat} : EX G N X W (.Constant (.str x) j pos) (mCon (.str x)) := ex_con pe_str fun _ => rfl
theorem ex_bl {x : Bool} {j : Nat} : EX G N X W (.Constant (.bool x) j pos) (mCon (.bl x)) := ex_con pe_bl fun _ => rfl
theorem ex_non {j : Nat} : EX G N X W (.Constant .none j pos) (mCon .non) := ex_con pe_non fun _ => rfl
/-- a settled slot -/
def mVar (i : Nat) : M S := fun ρ => match ρ[i]? with
  | some (.d x) => .ok (.d x) ρ
  | _ => .stuck
theorem mVar_d {i : Nat} {x : D} (h : ρ[i]? = some (.d x)) : mVar i ρ = .ok (.d x) ρ := by unfold mVar; rw [h]
theorem ex_var (i : Nat) {x : Str} (hN : X.N[i]? = some x := by rfl) (hv : Vis X.env.scope x := by first | exact Or.inl rfl | exact Or.inr (Or.inl rfl) | exact Or.inr (Or.inr rfl)) (hd : (x == ("__debug__" : Str)) = false := by decide)
    (hcd : (x == ("__classdict__" : Str)) = false := by decide) : EX G N X W (.Name x pos) (mVar i) := fun σ ρ st H Q h q => by
  unfold mVar at q
  split at q
  · rename_i y e
    obtain ⟨v, ev, h1⟩ := h.copy e
    exact sE_of (pe_var hN hv hd hcd) ⟨v, ev, q v H h1⟩
  · exact q.elim
/-- a slot is settled, then read -/
def mFrz (i : Nat) : M S := fun ρ => match ρ[i]? with
  | some s => match s.frz with
    | some x => .ok (.d x) (ρ.set i (.d x))
    | none => .stuck
  | none => .stuck
theorem Hs.frzAt {i : Nat} {s : S} {x : D} (h : Hs G N H σ ρ st) (e : ρ[i]? = some s) (ex : s.frz = some x) : Hs G N H σ (ρ.set i (.d x)) st := by
  obtain ⟨o, eo⟩ := h.get e
  have h1 := (h.pull e eo).freeze ex
  have h2 := h1.put (i := i) (t := .gone) (by simp [(List.getElem?_eq_some_iff.mp e).1]) eo
  rw [List.set_set] at h2
  exact h2
theorem ex_frz (i : Nat) {x : Str} (hN : X.N[i]? = some x := by rfl) (hv : Vis X.env.scope x := by first | exact Or.inl rfl | exact Or.inr (Or.inl rfl) | exact Or.inr (Or.inr rfl)) (hd : (x == ("__debug__" : Str)) = false := by decide)
    (hcd : (x == ("__classdict__" : Str)) = false := by decide) : EX G N X W (.Name x pos) (mFrz i) := fun σ ρ st H Q h q => by
  unfold mFrz at q
  split at q
  · rename_i s e
    split at q
    · rename_i y ey
      have h1 := h.frzAt e ey
      obtain ⟨v, ev, h2⟩ := h1.copy (i := i) (x := y) (by simp [(List.getElem?_eq_some_iff.mp e).1])
      exact sE_of (pe_var hN hv hd hcd) ⟨v, ev, q v H h2⟩
    · exact q.elim
  · exact q.elim
/-- what a slot holds is handed on -/
def mMov (i : Nat) : M S := fun ρ => match ρ[i]? with
  | some .gone => .stuck
  | some s => .ok s (ρ.set i .gone)
  | none => .stuck
theorem ex_mov (i : Nat) {x : Str} (hN : X.N[i]? = some x := by rfl) (hv : Vis X.env.scope x := by first | exact Or.inl rfl | exact Or.inr (Or.inl rfl) | exact Or.inr (Or.inr rfl)) (hd : (x == ("__debug__" : Str)) = false := by decide)
    (hcd : (x == ("__classdict__" : Str)) = false := by decide) : EX G N X W (.Name x pos) (mMov i) := fun σ ρ st H Q h q => by
  unfold mMov at q
  split at q
  · exact q.elim
  · rename_i s ns e
    obtain ⟨v, ev⟩ := h.val e (fun z => ns z)
    exact sE_of (pe_var hN hv hd hcd) ⟨v, ev, q v H (h.pull e ev)⟩
  · exact q.elim
/-! ### operators -/
def r1L (r : V → Hp → VK → Prop) : L2.St → List V → Hp → VK → Prop := fun _ vs H Q => match vs with
  | [x] => r x H Q
  | _ => False
def r2L (r : R2) : L2.St → List V → Hp → VK → Prop := fun _ vs H Q => match vs with
  | [x, y] => r x y H Q
  | _ => False
def rL (r : List V → Hp → VK → Prop) : L2.St → List V → Hp → VK → Prop := fun _ vs H Q => r vs H Q
theorem ex_bin {op : Operator} {r : R2} {g : List S → ORes} (ho : OpR X (binaryOp op) r) (hg : OpS G N W (r2L r) g) (ha : AX G N X W [a, b] as) : EX G N X W (.BinOp a op b pos) (mOp g as) :=
  ex_op (es := [a, b]) (r := r2L r) (fun σ H Q h => sE_of (pe_op ho pe_sem pe_sem) h) ha hg
theorem ex_un {op : UnaryOp} {r : V → Hp → VK → Prop} {g : List S → ORes} (ho : UnR X (unaryOp op) r) (hg : OpS G N W (r1L r) g) (ha : AX G N X W [a] as) : EX G N X W (.UnaryOp op a pos) (mOp g as) :=
  ex_op (es := [a]) (r := r1L r) (fun σ H Q h => sE_of (pe_un ho pe_sem) h) ha hg
theorem ex_cmp {op : CmpOp} {r : R2} {g : List S → ORes} (ho : OpR X (compareOp op) r) (hg : OpS G N W (r2L r) g) (ha : AX G N X W [a, b] as) (hm : behindInMarks op b = false := by first | exact nomark _ | rfl) : EX G N X W (.Compare a [op] [b] pos) (mOp g as) :=
  ex_op (es := [a, b]) (r := r2L r) (fun σ H Q h => sE_of (pe_cmpR ho pe_sem pe_sem hm) h) ha hg
theorem ex_ix {r : R2} {g : List S → ORes} (ho : IxR X r) (hg : OpS G N W (r2L r) g) (ha : AX G N X W [a, b] as) (hs : PlainIx b := by exact fun _ _ => rfl) : EX G N X W (.Subscript a b pos) (mOp g as) :=
  ex_op (es := [a, b]) (r := r2L r) (fun σ H Q h => sE_of (pe_ix ho pe_sem pe_sem hs) h) ha hg
theorem ex_callB {x : Str} {id : String} {r : List V → Hp → VK → Prop} {g : List S → ORes} {p : Pos} (hc : CallR X (.builtin id) r) (hg : OpS G N W (rL r) g) (hm : X.mg x = none) (hb : bootBuiltins x = some (.builtin id)) (ha : AX G N X W (e :: es) as) (hp : PA X (e :: es) (sAs X (e :: es))) (hgl : Gl X x := by rfl) (hn : x ≠ "__name__" := by decide) (hdb : (x == ("__debug__" : Str)) = false := by decide)
    (he : starEach (e :: es) X.env = (false, eval e X.env) :: starEach es X.env := by rfl) (hpl : (backTo pos (starEach es X.env)).any (·.1) = false := by rfl) : EX G N X W (.Call (.Name x p) (e :: es) [] pos) (mOp g as) :=
  ex_op (r := rL r) (fun σ H Q h => sE_of (pe_callB hc hgl hm hb hp hn hdb he hpl) h) ha hg
theorem ex_callT {x : Str} {T : String} {r : List V → Hp → VK → Prop} {g : List S → ORes} {p : Pos} (hc : CallR X (.type T) r) (hg : OpS G N W (rL r) g) (hm : X.mg x = none) (hb : bootBuiltins x = some (.type T)) (ha : AX G N X W (e :: es) as) (hp : PA X (e :: es) (sAs X (e :: es))) (hgl : Gl X x := by rfl) (hn : x ≠ "__name__" := by decide) (hdb : (x == ("__debug__" : Str)) = false := by decide)
    (he : starEach (e :: es) X.env = (false, eval e X.env) :: starEach es X.env := by rfl) (hpl : (backTo pos (starEach es X.env)).any (·.1) = false := by rfl) : EX G N X W (.Call (.Name x p) (e :: es) [] pos) (mOp g as) :=
  ex_op (r := rL r) (fun σ H Q h => sE_of (pe_callTy hc hgl hm hb hp hn hdb he hpl) h) ha hg
/-- a tuple, a list, written -/
theorem ex_tup {k : Nat} {g : List S → ORes} (hg : OpS G N W (rL fun vs H Q => vs.length ≤ sizeLine ∧ ∀ p, H p = none → Q (.ref p) (upd H p (.tup vs))) g) (ha : AX G N X W es as) (hp : PA X es (sAs X es)) : EX G N X W (.Tuple es k pos) (mOp g as) :=
  ex_op (r := rL _) (fun σ H Q h => sE_of (pe_tup hp) h) ha hg
theorem ex_lst {g : List S → ORes} (hg : OpS G N W (rL fun vs H Q => vs.length ≤ sizeLine ∧ ∀ p, H p = none → Q (.ref p) (upd H p (.lst vs))) g) (ha : AX G N X W es as) (hp : PA X es (sAs X es)) : EX G N X W (.List es pos) (mOp g as) :=
  ex_op (r := rL _) (fun σ H Q h => sE_of (pe_lst hp) h) ha hg
/-- e.f -/
theorem ex_fld {x : Str} {g : List S → ORes} (hg : OpS G N W (r1L fun v H Q => ∃ a C dx fs w, v = .ref a ∧ H a = some (.ins C dx fs) ∧ Cls X.K C ∧ NoAttr X.K C x ∧ fs.lookup x = some w ∧ Q w H) g) (ha : AX G N X W [a] as) (hb : attributeBase a x X.env (eval a X.env) = eval a X.env := by rfl) :
    EX G N X W (.Attribute a x pos) (mOp g as) :=
  ex_op (es := [a]) (r := r1L _) (fun σ H Q h => sE_of (pe_fld pe_sem hb) h) ha hg
/-! ### calls of the text's own -/
def spD (G : Gx) (op : List S → ORes) : Sp := fun vs H Q E => ∃ (N : Pn) (σ : L2.St) (ρ : List S) (st : Stk) (xs : List S), vs.length = xs.length ∧ Hs G N H σ ρ (zs vs xs ++ st) ∧
  (match op xs with
    | .ok z outs => outs.length = xs.length ∧ ∀ w H', Hs G N H' σ ρ ((some w, z) :: (zs vs outs ++ st)) → Q w H'
    | .exc c p outs => outs.length = xs.length ∧ ∀ cls d H', ExR G H' c p cls d → Hs G N H' σ ρ (zs vs outs ++ st) → E cls d H'
    | .stuck => False)
theorem ops_own {op : List S → ORes} : OpS G N W (fun σ vs H Q => spD G op vs H Q (WE W σ)) op := fun σ ρ st H vs xs Q l h p => ⟨N, σ, ρ, st, xs, l, h, p⟩
/-- a def of the text, called by its name -/
structure CalF (P : Program) (w : World) (K : PySem.W.Frag) (mg : Str → Option Value) (base : Heap) (G : Gx) (k : Nat) (x : Str) (op : List S → ORes) : Prop where
  ex : ∃ f fd ps, FnOk P w K mg base (L2.CX P w) k f fd ps (spD G op) ∧ mg x = some (.ref f) ∧ PySem.W.keepIn K (.ref f) = true ∧ Binds K fd ps []
theorem ex_call {k : Nat} {x : Str} {g : List S → ORes} {p : Pos} (F : CalF X.prog X.w X.K X.mg X.base G k x g) (hr : Room k X.A) (tk : Takes X W) (ha : AX G N X W (e :: es) as) (hp : PA X (e :: es) (sAs X (e :: es))) (hgl : Gl X x := by rfl) (hdb : (x == ("__debug__" : Str)) = false := by decide)
    (he : starEach (e :: es) X.env = (false, eval e X.env) :: starEach es X.env := by rfl) (hpl : (backTo pos (starEach es X.env)).any (·.1) = false := by rfl) : EX G N X W (.Call (.Name x p) (e :: es) [] pos) (mOp g as) := by
  obtain ⟨f, fd, ps, hf, hm, hk, hb⟩ := F.ex
  refine ex_op (r := fun σ vs H Q => spD G g vs H Q (WE W σ)) (fun σ H Q h => sE_of (pe_callSD (E := WE W) hf hr hgl hm hk hb .nil (fun σ => passAt tk σ) hp hdb he hpl) ?_) ha ops_own
  exact sAs.mono h fun vs H' q => by
    rw [List.append_nil]
    exact q
/-- f() -/
theorem ex_call0 {k : Nat} {x : Str} {g : List S → ORes} {p : Pos} (F : CalF X.prog X.w X.K X.mg X.base G k x g) (hr : Room k X.A) (tk : Takes X W) (hgl : Gl X x := by rfl) (hdb : (x == ("__debug__" : Str)) = false := by decide) : EX G N X W (.Call (.Name x p) [] [] pos) (mOp g []) := by
  obtain ⟨f, fd, ps, hf, hm, hk, hb⟩ := F.ex
  refine ex_op (es := []) (r := fun σ vs H Q => spD G g vs H Q (WE W σ)) (fun σ H Q h pins s I => ?_) ax_nil ops_own
  refine wpAny_Call_Name_kw (ld_glob I hgl hm ?_ hdb)
  exact PySem.W.callWith_K0 I.kIn hk (run_fnSD (us := []) (E := WE W) (vs := []) hf hr hb .nil (passAt tk σ) I .nil h)
/-- an own class, made -/
structure CalC (P : Program) (w : World) (K : PySem.W.Frag) (mg : Str → Option Value) (base : Heap) (G : Gx) (k : Nat) (x : Str) (c : Nat) (op : List S → ORes) : Prop where
  ex : ∃ f fd ps, FnOk P w K mg base (L2.CX P w) k f fd ps (spD G op) ∧ mg x = some (.ref (G.cl c)) ∧ Mk K (G.cl c) f ∧ Binds K fd ps []
theorem run_makeS {CX : CXT} {k : Nat} {f C : Addr} {fd : FuncData} {ps : List Str} {sp : Sp} {E : XK} {pins : List (Addr × Obj)} {s : Shared} {Q : VK} {us : List Value} {vs : List V} (M : Mk X.K C f) (F : FnOk X.prog X.w X.K X.mg X.base CX k f fd ps sp) (hr : Room (k + 1) X.A) (hb : Binds X.K fd ps [])
    (hx : PassesAt CX X σ E) (I : Inv X pins σ H s) (r : Vals vs us)
    (h : ∀ x dx, H x = none → H dx = none → dx ≠ x → sp (.ref x :: vs) (upd (upd H dx (.own x)) x (.ins C dx [])) (fun v H2 => v = .non ∧ Q (.ref x) H2) E) :
    wpAny (model X.prog X.w) X.A (call (.ref C) us) (EP X pins σ Q) X.xe s := by
  have hq := h (s.heap.objs.size + 1) s.heap.objs.size (I.hok.fresh (Nat.le_succ _)) (I.hok.fresh (Nat.le_refl _)) (Nat.ne_of_lt (Nat.lt_succ_self _))
  have I2 := Inv.made (C := C) I
  have r2 : Vals (V.ref (s.heap.objs.size + 1) :: vs) (Value.ref (s.heap.objs.size + 1) :: us) := .cons rfl r
  have hl : ((Value.ref (s.heap.objs.size + 1) :: us) ++ []).length = ps.length := by
    have e := r2.length
    rw [F.len _ _ _ _ hq] at e
    rw [List.append_nil]
    exact e.symm
  have hbb := hb { s with heap := (s.heap.push PySem.W.emptyDict).push (PySem.W.instObj C s.heap.objs.size) } (Value.ref (s.heap.objs.size + 1) :: us) I2.kIn hl
  rw [List.append_nil] at hbb
  refine wpAny_call (make_map (f := f) I.kIn M.makes M.init (beq_iff_eq.mp M.fn) (codeAny_mono (F.run _ X.stack _ _ ⟨Value.ref (s.heap.objs.size + 1) :: us, []⟩ (Value.ref (s.heap.objs.size + 1) :: us) _ _ E (hr.make C us [])
    (I2.env0.make C us []) hbb r2 hq) fun r s' hq' => ?_))
  cases r with
  | error e => exact hx pins _ _ e s' I2 hq'
  | ok fl =>
    cases fl with
    | ret u =>
      obtain ⟨v, H', I3, rv, ev, q3⟩ := I2.after hq'
      subst ev
      exact ⟨rv, ⟨V.ref (s.heap.objs.size + 1), H', I3, rfl, q3⟩⟩
    | next => exact False.elim hq'
    | brk => exact False.elim hq'
    | cont => exact False.elim hq'
/-- C(..) by its __init__ op -/
def mkOp (c : Nat) (op : List S → ORes) : List S → ORes := fun xs => match op (.o c [] :: xs) with
  | .ok (.d .non) (z :: outs) => .ok z outs
  | .exc k p (_ :: outs) => .exc k p outs
  | _ => .stuck
theorem ops_make {c : Nat} {op : List S → ORes} : OpS G N W (fun σ vs H Q => ∀ x dx, H x = none → H dx = none → dx ≠ x → spD G op (.ref x :: vs) (upd (upd H dx (.own x)) x (.ins (G.cl c) dx [])) (fun v H2 => v = .non ∧ Q (.ref x) H2) (WE W σ)) (mkOp c op) := fun σ ρ st H vs xs Q l h p x dx hx hd hne => by
  have ha : Hs G N (upd (upd H dx (.own x)) x (.ins (G.cl c) dx [])) σ ρ (zs (.ref x :: vs) (.o c [] :: xs) ++ st) := by
    obtain ⟨F, fp, sb, r, n⟩ := h.ex
    have e : ∀ b o, H b = some o → upd (upd H dx (.own x)) x (.ins (G.cl c) dx []) b = some o := fun b o q => by
      rw [upd_ne (ne_of_none q hx), upd_ne (ne_of_none q hd)]
      exact q
    have g : Grow G H (upd (upd H dx (.own x)) x (.ins (G.cl c) dx [])) := Grow.of h.tb e
    have kp := own_grow r g.1
    refine ⟨h.len, ⟨F, x :: fp, sb.grow g.1, ⟨[x], fp, rfl, ⟨x, dx, [], [], rfl, rfl, ?_, sb.none hx, Nat.zero_le _, rfl, rfl⟩, RL.keep (Le.refl F) _ fp r kp⟩, List.nodup_cons.mpr ⟨fp_ne r hx, n⟩⟩, g.2, h.pin⟩
    rw [upd_same]
    simp
  refine ⟨N, σ, ρ, st, .o c [] :: xs, by simp [l], ha, ?_⟩
  unfold mkOp at p
  cases ho : op (.o c [] :: xs) with
  | stuck =>
    rw [ho] at p
    exact p
  | exc k q outs =>
    rw [ho] at p
    cases outs with
    | nil => exact p.elim
    | cons z outs =>
      exact ⟨by simpa using p.1, fun cls d H' x' h2 => p.2 cls d H' x' h2.drop⟩
  | ok z outs =>
    rw [ho] at p
    split at p
    · rename_i z' outs' outs2 heq
      split at heq
      · rename_i z2 outs3 heq2
        cases heq
        cases heq2
        refine ⟨by simpa using p.1, fun w H' h2 => ?_⟩
        have ew : w = .non := by
          obtain ⟨F, fp, sb, ⟨a, b, ef, ⟨_, v, ev, q⟩, r⟩, n⟩ := h2.ex
          cases ev
          exact q
        exact ⟨ew, p.2 (.ref x) H' h2.drop⟩
      · rename_i heq2
        cases heq2
      · cases heq
    · rename_i heq
      split at heq
      · cases heq
      · rename_i heq2
        cases heq2
      · cases heq
    · exact p.elim
theorem ex_make {k c : Nat} {x : Str} {g : List S → ORes} {p : Pos} (F : CalC X.prog X.w X.K X.mg X.base G k x c g) (hr : Room (k + 1) X.A) (tk : Takes X W) (ha : AX G N X W (e :: es) as) (hp : PA X (e :: es) (sAs X (e :: es))) (hgl : Gl X x := by rfl) (hdb : (x == ("__debug__" : Str)) = false := by decide)
    (he : starEach (e :: es) X.env = (false, eval e X.env) :: starEach es X.env := by rfl) (hpl : (backTo pos (starEach es X.env)).any (·.1) = false := by rfl) : EX G N X W (.Call (.Name x p) (e :: es) [] pos) (mOp (mkOp c g) as) := by
  obtain ⟨f, fd, ps, hf, hm, hk, hb⟩ := F.ex
  refine ex_op (r := fun σ vs H Q => ∀ x dx, H x = none → H dx = none → dx ≠ x → spD G g (.ref x :: vs) (upd (upd H dx (.own x)) x (.ins (G.cl c) dx [])) (fun v H2 => v = .non ∧ Q (.ref x) H2) (WE W σ)) (fun σ H Q h pins s I => ?_) ha ops_make
  refine wpAny_Call_Name_kw (ld_glob I hgl hm ?_ hdb)
  refine PySem.W.callWith_K (h₀ := X.base) I.ok.mod.kin hk.kp (thn (hp.run pos pins s σ H _ I h) fun us s1 ⟨vs, H1, I1, r, q⟩ => ⟨I1.kIn, ?_⟩) he hpl
  exact run_makeS hk hf hr hb (passAt tk σ) I1 r q
theorem ex_make0 {k c : Nat} {x : Str} {g : List S → ORes} {p : Pos} (F : CalC X.prog X.w X.K X.mg X.base G k x c g) (hr : Room (k + 1) X.A) (tk : Takes X W) (hgl : Gl X x := by rfl) (hdb : (x == ("__debug__" : Str)) = false := by decide) : EX G N X W (.Call (.Name x p) [] [] pos) (mOp (mkOp c g) []) := by
  obtain ⟨f, fd, ps, hf, hm, hk, hb⟩ := F.ex
  refine ex_op (es := []) (r := fun σ vs H Q => ∀ x dx, H x = none → H dx = none → dx ≠ x → spD G g (.ref x :: vs) (upd (upd H dx (.own x)) x (.ins (G.cl c) dx [])) (fun v H2 => v = .non ∧ Q (.ref x) H2) (WE W σ)) (fun σ H Q h pins s I => ?_) ax_nil ops_make
  refine wpAny_Call_Name_kw (ld_glob I hgl hm ?_ hdb)
  exact PySem.W.callWith_K0 I.kIn hk.kp (run_makeS (us := []) hk hf hr hb (passAt tk σ) I .nil h)
end
end DL
/-! the data layer: tests, and, or, chains, methods -/
namespace DL
open PySem PySem.Spec PyProof.Rows L2
section
variable {G : Gx} {N : Pn} {X : Cx} {W : WX} {H H' : Hp} {σ : L2.St} {ρ ρ' : List S} {st st' : Stk} {e a b c : Expr} {es rest : List Expr} {f fa fb fc : M S} {t u : M Bool} {as : List Arg} {pos : Pos}
theorem tx_val (ha : EX G N X W a f) (he : ∀ whole, isTrue a X.env whole = (do let v ← whole; standAt a.pos; holding [v] (truthy v)) := by intro _; rfl) : TX G N X W a (mT f) := fun σ ρ st H Q h p =>
  sT_of (pt_val pe_sem he) (ha.bind h p fun s ρ1 v H1 h1 p1 => by
    split at p1
    · exact ⟨_, h1.bl, p1 H1 h1.drop⟩
    · exact p1.elim)
theorem tx_cmp {op : CmpOp} {r : R2} {g : List S → ORes} (ho : OpR X (compareOp op) r) (hg : OpS G N W (r2L r) g) (ha : AX G N X W [a, b] as) (hm : behindInMarks op b = false := by first | exact nomark _ | rfl) : TX G N X W (.Compare a [op] [b] pos) (mT (mOp g as)) := fun σ ρ st H Q h p => by
  refine sT_of (pt_cmpR ho pe_sem pe_sem hm) ?_
  have p' : pst G N W σ st (fun b ρ' => ∀ H', Hs G N H' σ ρ' st → Q b H') (mbind (mArgs as) (fun avs => mT (mFin g avs)) ρ) := by
    have e : mT (mOp g as) ρ = mbind (mArgs as) (fun avs => mT (mFin g avs)) ρ := by
      unfold mT mOp
      cases hm : mArgs as ρ with
      | ok s ρ1 => rw [mbind_ok hm]; unfold mbind; rw [hm]
      | exc c q ρ1 => rw [mbind_exc hm, mbind_exc (mbind_exc hm)]
      | stuck => rw [mbind_stuck hm, mbind_stuck (mbind_stuck hm)]
    rw [← e]
    exact p
  show sAs X [a, b] σ H fun vs H2 => r2L r σ vs H2 fun x H' => ∃ k, x = .bl k ∧ Q k H'
  refine ha.bind h p' fun avs ρ1 vs H1 r1 h1 p1 => ?_
  refine fin_ok r1 h1 ?_ hg
  unfold mT at p1
  cases hf : mFin g avs ρ1 with
  | ok s ρ2 =>
    rw [mbind_ok hf] at p1
    intro v H2 h2
    split at p1
    · exact ⟨_, h2.bl, p1 H2 h2.drop⟩
    · exact p1.elim
  | exc c q ρ2 =>
    rw [mbind_exc hf] at p1
    exact p1
  | stuck =>
    rw [mbind_stuck hf] at p1
    exact p1
/-! ### and, or, not -/
def sW (X : Cx) (e : Expr) : TT := fun σ H Q => ∀ (whole : Sem Value) (pins : List (Addr × Obj)) (s : Shared), Inv X pins σ H s → wpAny (model X.prog X.w) X.A (isTrue e X.env whole) (TP X pins σ Q) X.xe s
theorem pw_sem : PW X e (sW X e) := ⟨fun wh pins s _ _ _ I h => h wh pins s I⟩
theorem sW_of {tt : TT} (p : PW X e tt) {σ : L2.St} {H : Hp} {Q : Bool → Hp → Prop} (h : tt σ H Q) : sW X e σ H Q := fun wh pins s I => p.run wh pins s σ H Q I h
def TW (G : Gx) (N : Pn) (X : Cx) (W : WX) (e : Expr) (f : M Bool) : Prop := ∀ (σ : L2.St) (ρ : List S) (st : Stk) (H : Hp) (Q : Bool → Hp → Prop), Hs G N H σ ρ st →
  pst G N W σ st (fun b ρ' => ∀ H', Hs G N H' σ ρ' st → Q b H') (f ρ) → sW X e σ H Q
theorem TW.tx (h : TW G N X W e t) : TX G N X W e t := fun σ ρ st H Q hs p => sT_of pw_sem.pt (h σ ρ st H Q hs p)
def mAnd (t u : M Bool) : M Bool := mbind t fun b => if b then u else mpure false
def mOr (t u : M Bool) : M Bool := mbind t fun b => if b then mpure true else u
def mNot (t : M Bool) : M Bool := mbind t fun b => mpure (!b)
theorem tw_and1 (ha : TX G N X W a t) : TW G N X W (.BoolOp .And [a] pos) t := fun σ ρ st H Q h p => sW_of (pw_and1 pt_sem) (ha σ ρ st H Q h p)
theorem tw_or1 (ha : TX G N X W a t) : TW G N X W (.BoolOp .Or [a] pos) t := fun σ ρ st H Q h p => sW_of (pw_or1 pt_sem) (ha σ ρ st H Q h p)
theorem tw_and (ha : TX G N X W a t) (hb : TW G N X W (.BoolOp .And (b :: rest) pos) u) : TW G N X W (.BoolOp .And (a :: b :: rest) pos) (mAnd t u) := fun σ ρ st H Q h p =>
  sW_of (pw_and pt_sem pw_sem) (ha.bind h p fun k ρ1 H1 h1 p1 => by
    cases k with
    | true => exact iteT (hb σ ρ1 st H1 Q h1 p1)
    | false => exact iteF (p1 H1 h1))
theorem tw_or (ha : TX G N X W a t) (hb : TW G N X W (.BoolOp .Or (b :: rest) pos) u) : TW G N X W (.BoolOp .Or (a :: b :: rest) pos) (mOr t u) := fun σ ρ st H Q h p =>
  sW_of (pw_or pt_sem pw_sem) (ha.bind h p fun k ρ1 H1 h1 p1 => by
    cases k with
    | true => exact iteT (p1 H1 h1)
    | false => exact iteF (hb σ ρ1 st H1 Q h1 p1))
theorem tx_not (ha : TX G N X W a t) : TX G N X W (.UnaryOp .Not a pos) (mNot t) := fun σ ρ st H Q h p =>
  sT_of (pt_not pt_sem) (ha.bind h p fun k ρ1 H1 h1 p1 => p1 H1 h1)
/-- as values -/
def mB (t : M Bool) : M S := mbind t fun b => mpure (.d (.bl b))
def mAndV (f g : M S) : M S := mbind f fun s => match s with
  | .d (.bl b) => if b then g else mpure (.d (.bl false))
  | _ => mstuck
def mOrV (f g : M S) : M S := mbind f fun s => match s with
  | .d (.bl b) => if b then mpure (.d (.bl true)) else g
  | _ => mstuck
def mNotV (f : M S) : M S := mbind f fun s => match s with
  | .d (.bl b) => mpure (.d (.bl (!b)))
  | _ => mstuck
theorem ex_one {op} (ha : EX G N X W a f) : EX G N X W (.BoolOp op [a] pos) f := fun σ ρ st H Q h p => sE_of (pe_one pe_sem) (ha σ ρ st H Q h p)
theorem ex_and (ha : EX G N X W a fa) (hb : EX G N X W (.BoolOp .And (b :: rest) pos) fb) : EX G N X W (.BoolOp .And (a :: b :: rest) pos) (mAndV fa fb) := fun σ ρ st H Q h p =>
  sE_of (pe_and pe_sem pe_sem) (ha.bind h p fun s ρ1 v H1 h1 p1 => by
    split at p1
    · rename_i k
      refine ⟨k, h1.bl, ?_⟩
      cases k with
      | true => exact iteT (hb σ ρ1 st H1 Q h1.drop p1)
      | false => exact iteF (p1 (.bl false) H1 (by have := h1.bl; subst this; exact h1))
    · exact p1.elim)
theorem ex_or (ha : EX G N X W a fa) (hb : EX G N X W (.BoolOp .Or (b :: rest) pos) fb) : EX G N X W (.BoolOp .Or (a :: b :: rest) pos) (mOrV fa fb) := fun σ ρ st H Q h p =>
  sE_of (pe_or pe_sem pe_sem) (ha.bind h p fun s ρ1 v H1 h1 p1 => by
    split at p1
    · rename_i k
      refine ⟨k, h1.bl, ?_⟩
      cases k with
      | true => exact iteT (p1 (.bl true) H1 (by have := h1.bl; subst this; exact h1))
      | false => exact iteF (hb σ ρ1 st H1 Q h1.drop p1)
    · exact p1.elim)
theorem Hs.setBl {v : V} {i j : Bool} (h : Hs G N H σ ρ ((some v, .d (.bl i)) :: st)) : Hs G N H σ ρ ((some (.bl j), .d (.bl j)) :: st) := by
  obtain ⟨F, fp, sb, ⟨a, b, ef, ⟨ea, w, ew, q⟩, r⟩, n⟩ := h.ex
  exact ⟨h.len, ⟨F, fp, sb, ⟨a, b, ef, ⟨ea, .bl j, rfl, rfl⟩, r⟩, n⟩, h.tb, h.pin⟩
theorem ex_not (ha : EX G N X W a fa) : EX G N X W (.UnaryOp .Not a pos) (mNotV fa) := fun σ ρ st H Q h p =>
  sE_of (pe_not pe_sem) (ha.bind h p fun s ρ1 v H1 h1 p1 => by
    split at p1
    · rename_i k
      exact ⟨k, h1.bl, p1 (.bl (!k)) H1 h1.setBl⟩
    · exact p1.elim)
/-- a if t else b -/
def mIf {α : Type} (t : M Bool) (f g : M α) : M α := mbind t fun b => if b then f else g
theorem ex_if (hc : TX G N X W c t) (ha : EX G N X W a fa) (hb : EX G N X W b fb) : EX G N X W (.IfExp c a b pos) (mIf t fa fb) := fun σ ρ st H Q h p =>
  sE_of (pe_ifExp pt_sem pe_sem pe_sem) (hc.bind h p fun k ρ1 H1 h1 p1 => by
    cases k with
    | true => exact iteT (ha σ ρ1 st H1 Q h1 p1)
    | false => exact iteF (hb σ ρ1 st H1 Q h1 p1))
/-! ### chains of comparisons of ints -/
def mChain (p q : Int → Int → Bool) (fa fb fc : M S) : M S := mbind fa fun x => mbind fb fun y => match x, y with
  | .d (.int i), .d (.int j) => if p i j then mbind fc fun z => match z with
      | .d (.int k) => mpure (.d (.bl (q j k)))
      | _ => mstuck
    else mpure (.d (.bl false))
  | _, _ => mstuck
def CmpI (X : Cx) (op : CmpOp) (p : Int → Int → Bool) : Prop := OpR X (compareOp op) (rI0 fun i j => .bl (p i j))
theorem ci_lt : CmpI X .Lt (fun i j => decide (i < j)) := op_lt
theorem ci_le : CmpI X .LtE (fun i j => decide (i ≤ j)) := op_le
theorem ci_gt : CmpI X .Gt (fun i j => decide (j < i)) := op_gt
theorem ci_ge : CmpI X .GtE (fun i j => decide (j ≤ i)) := op_ge
theorem Hs.new (h : Hs G N H σ ρ st) {v : V} {x : D} (hx : ∀ F : Hp, RD G F x v) : Hs G N H σ ρ ((some v, .d x) :: st) := by
  obtain ⟨F, fp, sb, r, n⟩ := h.ex
  exact ⟨h.len, ⟨F, fp, sb, ⟨[], fp, rfl, ⟨rfl, v, rfl, hx F⟩, r⟩, n⟩, h.tb, h.pin⟩
theorem chain_core {op op' : CmpOp} {p q : Int → Int → Bool} (ha : EX G N X W a fa) (hb : EX G N X W b fb) (hc : EX G N X W c fc) (h : Hs G N H σ ρ st) {Q : VK}
    (pp : pst G N W σ st (fun s ρ' => ∀ v H', Hs G N H' σ ρ' ((some v, s) :: st) → Q v H') (mChain p q fa fb fc ρ)) : tChain (rI0 fun i j => .bl (p i j)) (rI0 fun i j => .bl (q i j)) (sE X a) (sE X b) (sE X c) σ H Q := by
  refine ha.bind h pp fun x ρ1 v H1 h1 p1 => ?_
  refine hb.bind h1 (p1.deep fun _ _ q => q) fun y ρ2 w H2 h2 p2 => ?_
  split at p2
  · rename_i i j
    have e2 := h2.int
    have e1 := h2.drop.int
    subst e1 e2
    refine ⟨i, j, rfl, rfl, _, rfl, ?_⟩
    by_cases hp : p i j = true
    · rw [if_pos hp]
      rw [if_pos hp] at p2
      refine hc.bind h2 (p2.deep fun _ _ q => q) fun z ρ3 w3 H3 h3 p3 => ?_
      split at p3
      · have e3 := h3.int
        subst e3
        exact ⟨_, _, rfl, rfl, p3 _ H3 (h3.drop.drop.drop.new fun _ => rfl)⟩
      · exact p3.elim
    · rw [if_neg hp]
      rw [if_neg hp] at p2
      exact p2 _ H2 (h2.drop.drop.new fun _ => rfl)
  · exact p2.elim
theorem ex_chain {op op' : CmpOp} {p q : Int → Int → Bool} (ho : CmpI X op p) (ho' : CmpI X op' q) (ha : EX G N X W a fa) (hb : EX G N X W b fb) (hc : EX G N X W c fc) (hm : lastMarks [op, op'] [b, c] = false := by with_unfolding_all rfl) :
    EX G N X W (.Compare a [op, op'] [b, c] pos) (mChain p q fa fb fc) := fun σ ρ st H Q h pp => sE_of (pe_chain ho ho' pe_sem pe_sem pe_sem hm) (chain_core (op := op) (op' := op') ha hb hc h pp)
theorem tx_chain {op op' : CmpOp} {p q : Int → Int → Bool} (ho : CmpI X op p) (ho' : CmpI X op' q) (ha : EX G N X W a fa) (hb : EX G N X W b fb) (hc : EX G N X W c fc) (hm : lastMarks [op, op'] [b, c] = false := by with_unfolding_all rfl) :
    TX G N X W (.Compare a [op, op'] [b, c] pos) (mT (mChain p q fa fb fc)) := fun σ ρ st H Q h pp => sT_of (pt_chain ho ho' pe_sem pe_sem pe_sem hm) (chain_core (op := op) (op' := op') ha hb hc h (by
  unfold mT at pp
  cases hf : mChain p q fa fb fc ρ with
  | ok s ρ2 =>
    rw [mbind_ok hf] at pp
    intro v H2 h2
    split at pp
    · exact ⟨_, h2.bl, pp H2 h2.drop⟩
    · exact pp.elim
  | exc c q ρ2 =>
    rw [mbind_exc hf] at pp
    exact pp
  | stuck =>
    rw [mbind_stuck hf] at pp
    exact pp))
/-! ### methods -/
def clsS : S → Option Nat
  | .o c _ => some c
  | .d (.obj c _) => some c
  | _ => none
def clsA (ρ : List S) : List AV → Option Nat
  | [.s x] => clsS x
  | [.n i] => (ρ[i]?).bind clsS
  | _ => none
/-- o.m(..) of an instance of the c-th class -/
def mMeth (c : Nat) (g : List S → ORes) (a : Arg) (as : List Arg) : M S := mbind (mArgs [a]) fun av ρ => if clsA ρ av = some c then mbind (mArgs as) (fun avs => mFin g (av ++ avs)) ρ else .stuck
/-- an owned or settled instance stands -/
theorem Hs.ins {o : Option V} {s : S} {c : Nat} (h : Hs G N H σ ρ ((o, s) :: st)) (e : clsS s = some c) : ∃ a dx vs, o = some (.ref a) ∧ H a = some (.ins (G.cl c) dx ((G.fn c).zip vs)) := by
  obtain ⟨F, fp, sb, ⟨a, b, ef, q, r⟩, n⟩ := h.ex
  cases s with
  | gone => cases e
  | l xs => cases e
  | ls xs => cases e
  | m ks vs => cases e
  | o c' fs =>
    cases e
    obtain ⟨a, dx, vs, r', e1, _, e3, _⟩ := q
    exact ⟨a, dx, vs, e1, e3⟩
  | d x =>
    cases x with
    | obj c' xs =>
      cases e
      obtain ⟨_, v, ev, a, dx, vs, e1, e2, _⟩ := q
      refine ⟨a, dx, vs, by rw [ev, e1], ?_⟩
      rcases (sb _ _ e2).2 with z | ⟨z | z, _⟩
      · exact z
      · obtain ⟨_, z⟩ := z
        cases z
      · obtain ⟨_, z⟩ := z
        cases z
    | _ => cases e
theorem recv {av : List AV} {v : V} {c : Nat} (r : AVR σ av [v]) (h : Hs G N H σ ρ (stkA av [v] ++ st)) (e : clsA ρ av = some c) : ∃ a dx vs, v = .ref a ∧ H a = some (.ins (G.cl c) dx ((G.fn c).zip vs)) := by
  match av, r, h, e with
  | [.s x], _, h, e =>
    obtain ⟨a, dx, vs, e1, e2⟩ := Hs.ins (st := st) h e
    cases e1
    exact ⟨a, dx, vs, rfl, e2⟩
  | [.n i], r, h, e =>
    obtain ⟨_, _, q, es, _⟩ := r
    cases q
    have e' : (ρ[i]?).bind clsS = some c := e
    cases ei : ρ[i]? with
    | none => rw [ei] at e'; cases e'
    | some s =>
      rw [ei] at e'
      obtain ⟨a, dx, vs, e1, e2⟩ := Hs.ins (h.pull ei es) e'
      cases e1
      exact ⟨a, dx, vs, rfl, e2⟩
theorem AVR.app : ∀ {av bv : List AV} {vs ws : List V}, AVR σ av vs → AVR σ bv ws → AVR σ (av ++ bv) (vs ++ ws)
  | [], bv, vs, ws, h, k => by
    have e : vs = [] := h
    subst e
    exact k
  | .s x :: av, bv, _, ws, ⟨v, r, e, h⟩, k => by
    subst e
    exact ⟨v, r ++ ws, rfl, h.app k⟩
  | .n i :: av, bv, _, ws, ⟨v, r, e, es, h⟩, k => by
    subst e
    exact ⟨v, r ++ ws, rfl, es, h.app k⟩
theorem stkA_app : ∀ {av bv : List AV} {vs ws : List V}, AVR σ av vs → stkA (av ++ bv) (vs ++ ws) = stkA av vs ++ stkA bv ws
  | [], bv, vs, ws, h => by
    have e : vs = [] := h
    subst e
    rfl
  | .s x :: av, bv, _, ws, ⟨v, r, e, h⟩ => by
    subst e
    show _ :: stkA (av ++ bv) (r ++ ws) = _ :: (stkA av r ++ stkA bv ws)
    rw [stkA_app h]
  | .n i :: av, bv, _, ws, ⟨v, r, e, es, h⟩ => by
    subst e
    show stkA (av ++ bv) (r ++ ws) = stkA av r ++ stkA bv ws
    rw [stkA_app h]
structure CalM (P : Program) (w : World) (K : PySem.W.Frag) (mg : Str → Option Value) (base : Heap) (G : Gx) (k : Nat) (m : Str) (c : Nat) (op : List S → ORes) : Prop where
  ex : ∃ f fd ps, FnOk P w K mg base (L2.CX P w) k f fd ps (spD G op) ∧ Meth K (G.cl c) m f ∧ Cls K (G.cl c) ∧ Binds K fd ps []
  no : ∀ vs : List V, ((G.fn c).zip vs).lookup m = none
theorem ex_meth {k c : Nat} {m : Str} {o : Expr} {ao : Arg} {apos : Pos} {g : List S → ORes} {pl : Sem Bool} (F : CalM X.prog X.w X.K X.mg X.base G k m c g) (hr : Room k X.A) (tk : Takes X W) (ho : AX G N X W [o] [ao]) (ha : AX G N X W (e :: es) as) (hp : PA X (e :: es) (sAs X (e :: es)))
    (hst : starEach (e :: es) X.env = (false, eval e X.env) :: starEach es X.env := by rfl) (hpl : (backTo pos (starEach es X.env)).any (·.1) = false := by rfl)
    (ht : eval (.Call (.Attribute o m apos) (e :: es) [] pos) X.env = (do
      let ov ← eval o X.env
      standAt apos.atName
      let (f, first) ← holding [ov] (getMethod ov m pl)
      callWith pos f first (backTo pos (starEach (e :: es) X.env)) (backToKw pos (keywordEach [] X.env))) := by rfl) :
    EX G N X W (.Call (.Attribute o m apos) (e :: es) [] pos) (mMeth c g ao as) := fun σ ρ st H Q h p => by
  obtain ⟨f, fd, ps, hf, hm, hc, hb⟩ := F.ex
  have key : sE X o σ H fun x H1 => ∃ a dx fs, x = .ref a ∧ H1 a = some (.ins (G.cl c) dx fs) ∧ fs.lookup m = none ∧ sAs X (e :: es) σ H1 fun vs H2 => spD G g (x :: vs) H2 Q (WE W σ) := by
    have k1 : sAs X [o] σ H _ := ho.bind (R := fun vs H1 => ∀ x, vs = [x] → ∃ a dx fs, x = .ref a ∧ H1 a = some (.ins (G.cl c) dx fs) ∧ fs.lookup m = none ∧ sAs X (e :: es) σ H1 fun vs H2 => spD G g (x :: vs) H2 Q (WE W σ)) h p (fun av ρ1 vs1 H1 r1 h1 p1 x ex => by
      subst ex
      by_cases hcl : clsA ρ1 av = some c
      · rw [if_pos hcl] at p1
        obtain ⟨a, dx, ws, rfl, e2⟩ := recv r1 h1 hcl
        refine ⟨a, dx, _, rfl, e2, F.no ws, ?_⟩
        refine AX.bind (st0 := st) ha h1 p1 (fun avs ρ2 vs H2 r2 h2 p2 => ?_) fun _ _ q => q.drops
        have r3 := AVR.app r1 r2
        refine fin_ok (avs := av ++ avs) (vs := .ref a :: vs) r3 (by
          have e3 : stkA (av ++ avs) (V.ref a :: vs) = stkA av [V.ref a] ++ stkA avs vs := stkA_app (vs := [V.ref a]) (ws := vs) r1
          rw [e3]
          refine h2.perm ?_
          rw [← List.append_assoc]
          exact List.perm_append_comm.append_right st) p2 ops_own
      · rw [if_neg hcl] at p1
        exact p1.elim
    )
    exact sE.mono k1 fun v H' q => q v rfl
  intro pins s I
  refine PySem.W.methodCall_KW (pl := pl) (thn (key pins s I) fun u s1 ⟨x, H1, I1, rx, a, dx, fs, ex, ea, l, q⟩ => ?_) ht
  subst ex
  obtain rfl : u = Value.ref a := rx
  refine getmeth_ok I1 ea hc hm l ?_
  refine PySem.W.callWith_K (first := [.ref a]) (h₀ := X.base) I.ok.mod.kin hm.kp (thn (hp.run pos pins s1 σ H1 _ I1 q) fun us s2 ⟨vs, H2, I2, r, q2⟩ => ⟨I2.kIn, ?_⟩) hst hpl
  exact run_fnSD (us := .ref a :: us) (vs := .ref a :: vs) (E := WE W) hf hr hb .nil (passAt tk σ) I2 (.cons rfl r) (by rw [List.append_nil]; exact q2)
theorem ex_meth0 {k c : Nat} {m : Str} {o : Expr} {ao : Arg} {apos : Pos} {g : List S → ORes} {pl : Sem Bool} (F : CalM X.prog X.w X.K X.mg X.base G k m c g) (hr : Room k X.A) (tk : Takes X W) (ho : AX G N X W [o] [ao])
    (ht : eval (.Call (.Attribute o m apos) [] [] pos) X.env = (do
      let ov ← eval o X.env
      standAt apos.atName
      let (f, first) ← holding [ov] (getMethod ov m pl)
      callWith pos f first (backTo pos (starEach [] X.env)) (backToKw pos (keywordEach [] X.env))) := by rfl) :
    EX G N X W (.Call (.Attribute o m apos) [] [] pos) (mMeth c g ao []) := fun σ ρ st H Q h p => by
  obtain ⟨f, fd, ps, hf, hm, hc, hb⟩ := F.ex
  have key : sE X o σ H fun x H1 => ∃ a dx fs, x = .ref a ∧ H1 a = some (.ins (G.cl c) dx fs) ∧ fs.lookup m = none ∧ spD G g [x] H1 Q (WE W σ) := by
    have k1 : sAs X [o] σ H _ := ho.bind (R := fun vs H1 => ∀ x, vs = [x] → ∃ a dx fs, x = .ref a ∧ H1 a = some (.ins (G.cl c) dx fs) ∧ fs.lookup m = none ∧ spD G g [x] H1 Q (WE W σ)) h p (fun av ρ1 vs1 H1 r1 h1 p1 x ex => by
      subst ex
      by_cases hcl : clsA ρ1 av = some c
      · rw [if_pos hcl] at p1
        obtain ⟨a, dx, ws, rfl, e2⟩ := recv r1 h1 hcl
        refine ⟨a, dx, _, rfl, e2, F.no ws, ?_⟩
        have p2 : pst G N W σ st (fun s ρ' => ∀ v H', Hs G N H' σ ρ' ((some v, s) :: st) → Q v H') (mFin g av ρ1) := by
          have e4 : mbind (mArgs []) (fun avs => mFin g (av ++ avs)) ρ1 = mFin g (av ++ []) ρ1 := rfl
          rw [e4, List.append_nil] at p1
          exact p1
        exact fin_ok r1 h1 p2 ops_own
      · rw [if_neg hcl] at p1
        exact p1.elim
    )
    exact sE.mono k1 fun v H' q => q v rfl
  intro pins s I
  refine PySem.W.methodCall_KW (pl := pl) (thn (key pins s I) fun u s1 ⟨x, H1, I1, rx, a, dx, fs, ex, ea, l, q⟩ => ?_) ht
  subst ex
  obtain rfl : u = Value.ref a := rx
  refine getmeth_ok I1 ea hc hm l ?_
  exact PySem.W.callWith_K0 (first := [.ref a]) I1.kIn hm.kp (run_fnSD (us := [.ref a]) (vs := [.ref a]) (E := WE W) hf hr hb .nil (passAt tk σ) I1 (.cons rfl .nil) (by rw [List.append_nil]; exact q))
end
end DL
/-! the data layer: statements -/
namespace DL
open PySem PySem.Spec PyProof.Rows L2
inductive Fl where
  | nx (ρ : List S) | rt (s : S) (ρ : List S) | bk (ρ : List S) | ct (ρ : List S) | exc (c : Nat) (p : D) (ρ : List S) | stuck
abbrev B := List S → Fl
def fps (G : Gx) (N : Pn) (W : WX) (st : Stk) (D : Ends) (r : Fl) : Prop := match r with
  | .nx ρ => ∀ σ' H', Hs G N H' σ' ρ st → D.nx σ' H'
  | .rt s ρ => ∀ v σ' H', Hs G N H' σ' ρ ((some v, s) :: st) → D.rt v H'
  | .bk ρ => ∀ σ' H', Hs G N H' σ' ρ st → D.bk σ' H'
  | .ct ρ => ∀ σ' H', Hs G N H' σ' ρ st → D.ct σ' H'
  | .exc c p ρ => ∀ cls d σ' H', ExR G H' c p cls d → Hs G N H' σ' ρ st → W cls d σ' H'
  | .stuck => False
def sS (X : Cx) (s : Stmt) : TS := fun D σ H => ∀ (pins : List (Addr × Obj)) (sh : Shared), Inv X pins σ H sh → wpAny (model X.prog X.w) X.A (exec s X.env) (SP X pins D) X.xe sh
def sB (X : Cx) (s : List Stmt) : TS := fun D σ H => ∀ (pins : List (Addr × Obj)) (sh : Shared), Inv X pins σ H sh → wpAny (model X.prog X.w) X.A (execs s X.env) (SP X pins D) X.xe sh
theorem ps_sem {X : Cx} {s : Stmt} : PS X s (sS X s) := ⟨fun pins sh _ _ _ I h => h pins sh I⟩
theorem pss_sem {X : Cx} {s : List Stmt} : PSs X s (sB X s) := ⟨fun pins sh _ _ _ I h => h pins sh I⟩
theorem sS_of {X : Cx} {s : Stmt} {t : TS} (p : PS X s t) {D : Ends} {σ : L2.St} {H : Hp} (h : t D σ H) : sS X s D σ H := fun pins sh I => p.run pins sh σ H D I h
theorem sB_of {X : Cx} {s : List Stmt} {t : TS} (p : PSs X s t) {D : Ends} {σ : L2.St} {H : Hp} (h : t D σ H) : sB X s D σ H := fun pins sh I => p.run pins sh σ H D I h
def SX (G : Gx) (N : Pn) (X : Cx) (W : WX) (s : Stmt) (g : B) : Prop := ∀ (σ : L2.St) (ρ : List S) (st : Stk) (H : Hp) (D : Ends), Hs G N H σ ρ st → fps G N W st D (g ρ) → sS X s D σ H
def BX (G : Gx) (N : Pn) (X : Cx) (W : WX) (s : List Stmt) (g : B) : Prop := ∀ (σ : L2.St) (ρ : List S) (st : Stk) (H : Hp) (D : Ends), Hs G N H σ ρ st → fps G N W st D (g ρ) → sB X s D σ H
def bnx : B := fun ρ => .nx ρ
def bseq (g h : B) : B := fun ρ => match g ρ with
  | .nx ρ' => h ρ'
  | r => r
theorem bseq_nx {g h : B} {ρ ρ' : List S} (e : g ρ = .nx ρ') : bseq g h ρ = h ρ' := by unfold bseq; rw [e]
theorem bseq_rt {g h : B} {ρ ρ' : List S} {s : S} (e : g ρ = .rt s ρ') : bseq g h ρ = .rt s ρ' := by unfold bseq; rw [e]
/-- an expression, then what is done with its value -/
def bdo {α : Type} (f : M α) (k : α → B) : B := fun ρ => match f ρ with
  | .ok a ρ' => k a ρ'
  | .exc c p ρ' => .exc c p ρ'
  | .stuck => .stuck
theorem bdo_ok {α : Type} {f : M α} {k : α → B} {ρ ρ' : List S} {a : α} (e : f ρ = .ok a ρ') : bdo f k ρ = k a ρ' := by unfold bdo; rw [e]
theorem bdo_exc {α : Type} {f : M α} {k : α → B} {ρ ρ' : List S} {c : Nat} {p : D} (e : f ρ = .exc c p ρ') : bdo f k ρ = .exc c p ρ' := by unfold bdo; rw [e]
theorem bdo_stuck {α : Type} {f : M α} {k : α → B} {ρ : List S} (e : f ρ = .stuck) : bdo f k ρ = .stuck := by unfold bdo; rw [e]
section
variable {G : Gx} {N : Pn} {X : Cx} {W : WX} {H H' : Hp} {σ : L2.St} {ρ ρ' : List S} {st st' : Stk} {e a b c : Expr} {es rest : List Expr} {f fa fb fc : M S} {t u : M Bool} {as : List Arg} {pos : Pos} {s : Stmt} {ss : List Stmt} {g h : B} {En : Ends}
theorem bx_nil : BX G N X W [] bnx := fun σ ρ st H D h p => sB_of pss_nil (p σ H h)
theorem fps.mono {D D' : Ends} {r : Fl} (p : fps G N W st D r) (h1 : ∀ σ H, D.nx σ H → D'.nx σ H) (h2 : ∀ v H, D.rt v H → D'.rt v H) (h3 : ∀ σ H, D.bk σ H → D'.bk σ H) (h4 : ∀ σ H, D.ct σ H → D'.ct σ H) : fps G N W st D' r := by
  cases r with
  | nx ρ => exact fun σ H h => h1 _ _ (p σ H h)
  | rt s ρ => exact fun v σ H h => h2 _ _ (p v σ H h)
  | bk ρ => exact fun σ H h => h3 _ _ (p σ H h)
  | ct ρ => exact fun σ H h => h4 _ _ (p σ H h)
  | exc c q ρ => exact p
  | stuck => exact p
theorem bx_cons (h1 : SX G N X W s g) (h2 : BX G N X W ss h) : BX G N X W (s :: ss) (bseq g h) := fun σ ρ st H D hs p => by
  refine sB_of (pss_cons ps_sem pss_sem) ?_
  refine h1 σ ρ st H _ hs ?_
  unfold bseq at p
  cases hg : g ρ with
  | nx ρ1 =>
    rw [hg] at p
    exact fun σ1 H1 hs1 => h2 σ1 ρ1 st H1 D hs1 p
  | rt s ρ1 => rw [hg] at p; exact p
  | bk ρ1 => rw [hg] at p; exact p
  | ct ρ1 => rw [hg] at p; exact p
  | exc c q ρ1 => rw [hg] at p; exact p
  | stuck => rw [hg] at p; exact p
theorem bx_one (h1 : SX G N X W s g) : BX G N X W [s] g := fun σ ρ st H D hs p => sB_of (pss_one ps_sem) (h1 σ ρ st H D hs p)
theorem sx_pass : SX G N X W (.Pass pos) bnx := fun σ ρ st H D h p => sS_of ps_pass (p σ H h)
theorem sx_break : SX G N X W (.Break pos) (fun ρ => .bk ρ) := fun σ ρ st H D h p => sS_of ps_break (p σ H h)
theorem sx_continue : SX G N X W (.Continue pos) (fun ρ => .ct ρ) := fun σ ρ st H D h p => sS_of ps_continue (p σ H h)
/-- an expression in a statement -/
theorem EX.bdo {k : S → B} {R : VK} (ha : EX G N X W e f) (h : Hs G N H σ ρ st) (p : fps G N W st En (bdo f k ρ)) (q : ∀ s ρ1 v H1, Hs G N H1 σ ρ1 ((some v, s) :: st) → fps G N W st En (k s ρ1) → R v H1) : sE X e σ H R := by
  refine ha σ ρ st H _ h ?_
  cases hf : f ρ with
  | ok s ρ1 =>
    rw [bdo_ok hf] at p
    exact fun v H1 h1 => q s ρ1 v H1 h1 p
  | exc c x ρ1 =>
    rw [bdo_exc hf] at p
    exact fun cls d H' y h' => p cls d σ H' y h'
  | stuck =>
    rw [bdo_stuck hf] at p
    exact p
theorem TX.bdo {k : Bool → B} {R : Bool → Hp → Prop} (ha : TX G N X W e t) (h : Hs G N H σ ρ st) (p : fps G N W st En (bdo t k ρ)) (q : ∀ b ρ1 H1, Hs G N H1 σ ρ1 st → fps G N W st En (k b ρ1) → R b H1) : sT X e σ H R := by
  refine ha σ ρ st H _ h ?_
  cases hf : t ρ with
  | ok s ρ1 =>
    rw [bdo_ok hf] at p
    exact fun H1 h1 => q s ρ1 H1 h1 p
  | exc c x ρ1 =>
    rw [bdo_exc hf] at p
    exact fun cls d H' y h' => p cls d σ H' y h'
  | stuck =>
    rw [bdo_stuck hf] at p
    exact p
theorem AX.bdo {k : List AV → B} {R : List V → Hp → Prop} (ha : AX G N X W es as) (h : Hs G N H σ ρ st) (p : fps G N W st En (bdo (mArgs as) k ρ)) (q : ∀ avs ρ1 vs H1, AVR σ avs vs → Hs G N H1 σ ρ1 (stkA avs vs ++ st) → fps G N W st En (k avs ρ1) → R vs H1) : sAs X es σ H R := by
  refine ha σ ρ st H _ h ?_
  cases hf : mArgs as ρ with
  | ok s ρ1 =>
    rw [bdo_ok hf] at p
    exact fun v H1 r1 h1 => q s ρ1 v H1 r1 h1 p
  | exc c x ρ1 =>
    rw [bdo_exc hf] at p
    exact fun cls d H' y h' => p cls d σ H' y h'
  | stuck =>
    rw [bdo_stuck hf] at p
    exact p
/-! ### x = e -/
def bset (i : Nat) : S → B := fun s ρ => if i < ρ.length then .nx (ρ.set i s) else .stuck
def bAsg (i : Nat) (f : M S) : B := bdo f (bset i)
theorem sx_set (i : Nat) {x : Str} {p' : Pos} (he : EX G N X W e f) (hj : i ∉ N.J) (hN : X.N.Nodup) (hi : X.N[i]? = some x := by rfl) (hx : Loc X.env.scope x := by first | exact .inl rfl | exact .inr rfl) (hs : swapsWith e (some (.Name x p')) pos.line X.env = pure false := by rfl)
    (hf : X.fn x = true ∨ X.env.scope.names.lookup x = some .local := by first | exact .inl rfl | exact .inr rfl) : SX G N X W (.Assign [.Name x p'] e pos) (bAsg i f) := fun σ ρ st H D h p =>
  sS_of (ps_set hN hi hx pe_sem hs hf) (he.bdo h p fun s ρ1 v H1 h1 p1 => by
    unfold bset at p1
    split at p1
    · rename_i hl
      exact p1 _ H1 (h1.assign hl hj)
    · exact p1.elim)
/-! ### return, an expression alone -/
def bRet (f : M S) : B := bdo f fun s ρ => .rt s ρ
theorem sx_ret (he : EX G N X W e f) : SX G N X W (.Return (some e) pos) (bRet f) := fun σ ρ st H D h p =>
  sS_of (ps_ret pe_sem) (he.bdo h p fun s ρ1 v H1 h1 p1 => p1 v σ H1 h1)
theorem sx_retN : SX G N X W (.Return none pos) (fun ρ => .rt (.d .non) ρ) := fun σ ρ st H D h p => sS_of ps_retN (p .non σ H (h.new fun _ => rfl))
def bExp (f : M S) : B := bdo f fun _ ρ => .nx ρ
theorem sx_exp (he : EX G N X W e f) (hs : swapsWith e none pos.line X.env = pure false := by rfl) : SX G N X W (.Expr e pos) (bExp f) := fun σ ρ st H D h p =>
  sS_of (ps_expr pe_sem hs) (he.bdo h p fun s ρ1 v H1 h1 p1 => p1 σ H1 h1.drop)
/-! ### if -/
def bIf (t : M Bool) (g h : B) : B := bdo t fun b => if b then g else h
theorem sx_if {p q : List Stmt} (hc : TX G N X W c t) (ha : BX G N X W p g) (hb : BX G N X W q h) : SX G N X W (.If c p q pos) (bIf t g h) := fun σ ρ st H D hs p =>
  sS_of (ps_if pt_sem pss_sem pss_sem) (hc.bdo hs p fun k ρ1 H1 h1 p1 => by
    cases k with
    | true => exact iteT (ha σ ρ1 st H1 D h1 p1)
    | false => exact iteF (hb σ ρ1 st H1 D h1 p1))
/-! ### targets -/
inductive Tg where
  | n (i : Nat) | t (ts : List Tg)
mutual
def asgT : Tg → S → List S → Option (List S)
  | .n i, s, ρ => if i < ρ.length then some (ρ.set i s) else none
  | .t ts, .d (.tup xs), ρ => asgTs ts xs ρ
  | .t _, _, _ => none
def asgTs : List Tg → List D → List S → Option (List S)
  | [], [], ρ => some ρ
  | t :: ts, x :: xs, ρ => (asgT t (.d x) ρ).bind (asgTs ts xs)
  | _, _, _ => none
end
def sG (X : Cx) (tg : Expr) : TG := fun v σ H Q => ∀ (pins : List (Addr × Obj)) (s : Shared) (u : Value), Inv X pins σ H s → RelV v u → wpAny (model X.prog X.w) X.A (assign tg X.env u) (fun _ s' => ∃ σ' H', Inv X pins σ' H' s' ∧ Q σ' H') X.xe s
def sGs (X : Cx) (ts : List Expr) : TGs := fun vs σ H Q => ∀ (pins : List (Addr × Obj)) (s : Shared) (us : List Value), Inv X pins σ H s → Vals vs us → wpAny (model X.prog X.w) X.A (assignInOrder ((assignEach ts X.env).map (·.2)) us) (fun _ s' => ∃ σ' H', Inv X pins σ' H' s' ∧ Q σ' H') X.xe s
theorem pg_sem {tg : Expr} : PG X tg (sG X tg) := ⟨fun pins s _ _ _ u _ I r h => h pins s u I r⟩
theorem pgs_sem {ts : List Expr} : PGs X ts (sGs X ts) := ⟨fun pins s _ _ _ us _ I r h => h pins s us I r⟩
theorem sG_of {tg : Expr} {t : TG} (p : PG X tg t) {v : V} {Q : L2.St → Hp → Prop} (h : t v σ H Q) : sG X tg v σ H Q := fun pins s u I r => p.run pins s σ H v u Q I r h
theorem sGs_of {ts : List Expr} {t : TGs} (p : PGs X ts t) {vs : List V} {Q : L2.St → Hp → Prop} (h : t vs σ H Q) : sGs X ts vs σ H Q := fun pins s us I r => p.run pins s σ H vs us Q I r h
/-- σ' may differ from σ at the slots of L alone -/
def GX (G : Gx) (N : Pn) (X : Cx) (tg : Expr) (t : Tg) : Prop := ∀ (σ : L2.St) (ρ ρ' : List S) (st : Stk) (H : Hp) (v : V) (s : S) (Q : L2.St → Hp → Prop), Hs G N H σ ρ ((some v, s) :: st) → asgT t s ρ = some ρ' → (∀ σ' H', Hs G N H' σ' ρ' st → Q σ' H') → sG X tg v σ H Q
def GsX (G : Gx) (N : Pn) (X : Cx) (ts : List Expr) (t : List Tg) : Prop := ∀ (σ : L2.St) (ρ ρ' : List S) (st : Stk) (H : Hp) (vs : List V) (xs : List D) (Q : L2.St → Hp → Prop), vs.length = xs.length → Hs G N H σ ρ (zs vs (xs.map .d) ++ st) → asgTs t xs ρ = some ρ' → (∀ σ' H', Hs G N H' σ' ρ' st → Q σ' H') → sGs X ts vs σ H Q
theorem gx_name (i : Nat) {x : Str} (hj : i ∉ N.J) (hN : X.N.Nodup) (hi : X.N[i]? = some x := by rfl) (hx : Loc X.env.scope x := by first | exact .inl rfl | exact .inr rfl) (hf : X.fn x = true ∨ X.env.scope.names.lookup x = some .local := by first | exact .inl rfl | exact .inr rfl) : GX G N X (.Name x pos) (.n i) := fun σ ρ ρ' st H v s Q h e k => by
  unfold asgT at e
  split at e
  · rename_i hl
    cases e
    exact sG_of (pg_name hN hi hx hf) (k _ H (h.assign hl hj))
  · cases e
theorem gsx_nil : GsX G N X [] [] := fun σ ρ ρ' st H vs xs Q l h e k => by
  cases xs with
  | nil =>
    have e1 : vs = [] := List.length_eq_zero_iff.mp l
    subst e1
    simp only [asgTs, Option.some.injEq] at e
    subst e
    exact sGs_of pgs_nil ⟨rfl, k σ H h⟩
  | cons x xs => simp [asgTs] at e
theorem gsx_cons {tg : Expr} {tgs : List Expr} {t : Tg} {ts : List Tg} (h1 : GX G N X tg t) (h2 : GsX G N X tgs ts) (hs : (assignEach (tg :: tgs) X.env).map (·.2) = assign tg X.env :: (assignEach tgs X.env).map (·.2) := by rfl) : GsX G N X (tg :: tgs) (t :: ts) := fun σ ρ ρ' st H vs xs Q l h e k => by
  cases xs with
  | nil => simp [asgTs] at e
  | cons x xs =>
    cases vs with
    | nil => simp at l
    | cons v vs =>
      simp only [asgTs, Option.bind_eq_some_iff] at e
      obtain ⟨ρ1, e1, e2⟩ := e
      refine sGs_of (pgs_cons pg_sem pgs_sem hs) ⟨v, vs, rfl, ?_⟩
      exact h1 σ ρ ρ1 (zs vs (xs.map .d) ++ st) H v (.d x) _ h e1 fun σ1 H1 k1 => h2 σ1 ρ1 ρ' st H1 vs xs Q (by simpa using l) k1 e2 k
theorem Hs.tup {v : V} {xs : List D} (h : Hs G N H σ ρ ((some v, .d (.tup xs)) :: st)) : ∃ a vs, v = .ref a ∧ SqT G.K H a vs ∧ vs.length = xs.length ∧ Hs G N H σ ρ (zs vs (xs.map .d) ++ st) := by
  obtain ⟨F, fp, sb, ⟨a, b, ef, ⟨ea, w, ew, a', vs, e1, q, r⟩, r2⟩, n⟩ := h.ex
  cases ew
  subst ea
  refine ⟨a', vs, e1, sqT_sub sb q, r.len, h.len, ⟨F, fp, sb, ?_, n⟩, h.tb, h.pin⟩
  rw [List.append_assoc]
  exact (RL.app _ _ _).mpr ⟨[], b, ef, (RL.ds r.len).mpr ⟨rfl, r⟩, r2⟩
theorem gx_tup {tgs : List Expr} {k : Nat} {ts : List Tg} {n : Nat} (hK : X.K = G.K) (hc : X.calm = true) (h : GsX G N X tgs ts) (hl : ts.length = n := by rfl) (hn : (assignEach tgs X.env).length = n := by rfl) (hst : (assignEach tgs X.env).findIdx? (·.1) = none := by rfl) : GX G N X (.Tuple tgs k pos) (.t ts) := fun σ ρ ρ' st H v s Q hs e q => by
  have no : ∀ {P : Prop}, (none : Option (List S)) = some ρ' → P := fun e => by cases e
  cases s with
  | d x =>
    cases x with
    | tup xs =>
      have e : asgTs ts xs ρ = some ρ' := e
      obtain ⟨a, vs, ev, sq, l, h1⟩ := hs.tup
      have lx : ∀ (ts : List Tg) (xs : List D) (ρ ρ' : List S), asgTs ts xs ρ = some ρ' → xs.length = ts.length := by
        intro ts
        induction ts with
        | nil =>
          intro xs ρ ρ' e
          cases xs with
          | nil => rfl
          | cons x xs => simp [asgTs] at e
        | cons t ts ih =>
          intro xs ρ ρ' e
          cases xs with
          | nil => simp [asgTs] at e
          | cons x xs =>
            simp only [asgTs, Option.bind_eq_some_iff] at e
            obtain ⟨ρ1, _, e2⟩ := e
            simp [ih xs _ _ e2]
      refine sG_of (pg_tup hc pgs_sem hn hst) ⟨a, vs, ev, by rw [hK]; exact sq, by rw [l, lx _ _ _ _ e, hl], ?_⟩
      exact h σ ρ ρ' st H vs xs Q l h1 e q
    | _ => exact no e
  | _ => exact no e
end
end DL
/-! the data layer: raise, loops -/
namespace DL
open PySem PySem.Spec PyProof.Rows L2
section
variable {G : Gx} {N : Pn} {X : Cx} {W : WX} {H H' : Hp} {σ : L2.St} {ρ ρ' : List S} {st st' : Stk} {e a b c : Expr} {es rest : List Expr} {f fa fb fc : M S} {t u : M Bool} {as : List Arg} {pos : Pos} {s : Stmt} {ss : List Stmt} {g h : B} {En : Ends}
/-! ### raise -/
structure CalX (K : PySem.W.Frag) (mg : Str → Option Value) (G : Gx) (x : Str) (c : Nat) : Prop where
  ex : PySem.W.excIn K (G.cl c) [.type "ValueError", .type "Exception", .type "BaseException", .type "object"] "ValueError.__new__" = true
  mg : mg x = some (.ref (G.cl c))
  kp : PySem.W.keepIn K (.ref (G.cl c)) = true
  sb : PySem.W.subIn K (.ref (G.cl c)) (.type "BaseException") = some true
  ty : PySem.W.typeIn K (.ref (G.cl c)) = some (.type "type")
theorem sx_raise {x m : Str} {k : Nat} {j : Nat} {p p2 : Pos} (F : CalX X.K X.mg G x k) (hc : X.calm = true) (tk : Takes X W) (hg : Gl X x := by rfl) (hdb : (x == ("__debug__" : Str)) = false := by decide) :
    SX G N X W (.Raise (some (.Call (.Name x p) [.Constant (.str m) j p2] [] pos)) none pos') (fun ρ => .exc k .non ρ) := fun σ ρ st H D h q =>
  sS_of (ps_raise hc tk (pmk_own PySem.F.excBase_ValueError F.ex F.mg F.kp (raises_own F.sb F.ty) hg hdb)) (q _ _ σ H ⟨rfl, rfl⟩ h)
theorem sx_raise1 {x : Str} {k : Nat} {p : Pos} (F : CalX X.K X.mg G x k) (hc : X.calm = true) (tk : Takes X W) (he : EX G N X W e f) (hg : Gl X x := by rfl) (hs : starEach [e] X.env = (false, eval e X.env) :: starEach [] X.env := by rfl) (hdb : (x == ("__debug__" : Str)) = false := by decide) :
    SX G N X W (.Raise (some (.Call (.Name x p) [e] [] pos)) none pos') (bdo f fun _ ρ => .exc k .non ρ) := fun σ ρ st H D h q =>
  sS_of (ps_raise hc tk (SkE.pmk_own1 PySem.F.excBase_ValueError F.ex F.mg F.kp (raises_own F.sb F.ty) hg pe_sem hs hdb)) (he.bdo h q fun s ρ1 v H1 h1 p1 => p1 _ _ σ H1 ⟨rfl, rfl⟩ h1.drop)
/-! ### what is walked -/
def sI (X : Cx) (tg iter : Expr) : TI := fun σ H R => ∀ (pins : List (Addr × Obj)) (s : Shared), Inv X pins σ H s → wpAny (model X.prog X.w) X.A (eval iter X.env) (fun v s1 => wpAny (model X.prog X.w) X.A (pyIter v) (PIE X pins σ tg R) X.xe s1) X.xe s
theorem pi_sem {tg iter : Expr} : PI X tg iter (sI X tg iter) := ⟨fun pins s _ _ _ I h => h pins s I⟩
theorem sI_of {tg iter : Expr} {w : TI} (p : PI X tg iter w) {R : It → Hp → Prop} (h : w σ H R) : sI X tg iter σ H R := fun pins s I => p.run pins s σ H R I h
/-- the walk J, its source on the stack, gives these items -/
def IterOk (G : Gx) (J : It) (src : Stk) (items : List D) : Prop := ∃ (Gc : Hp → Prop) (Y : Nat → Hp → V → Hp → Prop), Walk J items.length Gc Y ∧
  (∀ (N : Pn) (σ : L2.St) (ρ : List S) (st : Stk) (H : Hp), Hs G N H σ ρ (src ++ st) → Gc H) ∧
  (∀ (N : Pn) (σ : L2.St) (ρ : List S) (st : Stk) (i : Nat) (x : V) (H H' : Hp), i < items.length → Hs G N H σ ρ (src ++ st) → Y i H x H' → ∃ d, items[i]? = some d ∧ Hs G N H' σ ρ ((some x, .d d) :: (src ++ st)))
/-- r: the reading of an iterable by the values that its parts have -/
def ItS (G : Gx) (r : List V → Hp → (It → Hp → Prop) → Prop) (io : List S → Option (List D)) : Prop := ∀ (N : Pn) (σ : L2.St) (ρ : List S) (st : Stk) (H : Hp) (vs : List V) (xs : List S) (items : List D) (R : It → Hp → Prop), vs.length = xs.length → Hs G N H σ ρ (zs vs xs ++ st) →
  io xs = some items → (∀ J H', IterOk G J (zs vs xs) items → Hs G N H' σ ρ (zs vs xs ++ st) → R J H') → r vs H R
/-- for: the parts are held until the loop ends; what a part held is not laid back -/
def forL (t : Tg) (body : B) : List D → B
  | [], ρ => .nx ρ
  | x :: xs, ρ => match asgT t (.d x) ρ with
    | none => .stuck
    | some ρ1 => match body ρ1 with
      | .nx ρ2 => forL t body xs ρ2
      | .ct ρ2 => forL t body xs ρ2
      | .bk ρ2 => .nx ρ2
      | r => r
def bFor (as : List Arg) (io : List S → Option (List D)) (t : Tg) (body : B) : B := bdo (mArgs as) fun avs ρ => match grab ρ avs with
  | none => .stuck
  | some p => match io p.1 with
    | none => .stuck
    | some items => forL t body items p.2
theorem fps.drops {A : Stk} {r : Fl} (p : fps G N W st En r) : fps G N W (A ++ st) En r := by
  cases r with
  | nx ρ => exact fun σ H h => p σ H h.drops
  | rt s ρ => exact fun v σ H h => p v σ H (by
      have h2 : Hs G N H σ ρ (A ++ ((some v, s) :: st)) := h.perm List.perm_middle.symm
      exact h2.drops)
  | bk ρ => exact fun σ H h => p σ H h.drops
  | ct ρ => exact fun σ H h => p σ H h.drops
  | exc c q ρ => exact fun cls d σ H x h => p cls d σ H x h.drops
  | stuck => exact p
theorem for_core {J : It} {src : Stk} {items : List D} {tg : Expr} {tgt : Tg} {ss : List Stmt} (hi : IterOk G J src items) (hg : GX G N X tg tgt) (hb : BX G N X W ss g) (h : Hs G N H σ ρ (src ++ st)) (p : fps G N W st En (forL tgt g items ρ)) :
    ∃ W : Nat → Nat → L2.St → Hp → Prop, (∃ m, W 0 m σ H) ∧ ∀ i m σ H, W i m σ H →
      (J.stop i H ∧ En.nx σ H) ∨ (J.go i H ∧ ∃ N : L2.St → Hp → Prop, (∀ σ' H', N σ' H' → ∃ m', m' < m ∧ W (i + 1) m' σ' H') ∧ ∀ x H', J.yld i H x H' → sG X tg x σ H' fun σ2 H2 => sB X ss { En with nx := N, ct := N, bk := En.nx } σ2 H2) := by
  obtain ⟨Gc, Y, w, k1, k2⟩ := hi
  refine for_it w (D := En) (fun i σ H => ∃ ρ, Hs G N H σ ρ (src ++ st) ∧ fps G N W st En (forL tgt g (items.drop i) ρ)) ⟨ρ, h, p⟩ (fun i σ H _ ⟨ρ, h, _⟩ => k1 N σ ρ st H h) ?_ ?_
  · rintro i x σ1 H1 H2 hi ⟨ρ1, h1, p1⟩ y
    obtain ⟨d, ed, h2⟩ := k2 N σ1 ρ1 st i x H1 H2 hi h1 y
    have e2 : items.drop i = d :: items.drop (i + 1) := by
      rw [List.drop_eq_getElem_cons hi]
      congr 1
      exact (List.getElem?_eq_some_iff.mp ed).2
    rw [e2] at p1
    unfold forL at p1
    cases ea : asgT tgt (.d d) ρ1 with
    | none =>
      rw [ea] at p1
      exact p1.elim
    | some ρ2 =>
      rw [ea] at p1
      simp only at p1
      refine hg σ1 ρ1 ρ2 (src ++ st) H2 x (.d d) _ h2 ea fun σ2 H3 h3 => ?_
      refine hb σ2 ρ2 (src ++ st) H3 _ h3 ?_
      cases hbd : g ρ2 with
      | nx ρ3 =>
        rw [hbd] at p1
        exact fun σ' H' h' => ⟨ρ3, h', p1⟩
      | ct ρ3 =>
        rw [hbd] at p1
        exact fun σ' H' h' => ⟨ρ3, h', p1⟩
      | bk ρ3 =>
        rw [hbd] at p1
        exact fun σ' H' h' => p1 σ' H' h'.drops
      | rt s ρ3 =>
        rw [hbd] at p1
        exact (fps.drops p1 : fps G N W (src ++ st) En (.rt s ρ3))
      | exc c q ρ3 =>
        rw [hbd] at p1
        exact (fps.drops p1 : fps G N W (src ++ st) En (.exc c q ρ3))
      | stuck =>
        rw [hbd] at p1
        exact p1.elim
  · rintro σ1 H1 ⟨ρ1, h1, p1⟩
    rw [List.drop_length] at p1
    exact p1 σ1 H1 h1.drops
theorem sx_for {tg iter : Expr} {tgt : Tg} {ss : List Stmt} {r : List V → Hp → (It → Hp → Prop) → Prop} {io : List S → Option (List D)} (hp : PassesOwn (model X.prog X.w) X.A X.env X.xe) (hc : X.calm = true) (hr : PI X tg iter (fun σ H R => sAs X es σ H fun vs H1 => r vs H1 R))
    (ha : AX G N X W es as) (hi : ItS G r io) (hg : GX G N X tg tgt) (hb : BX G N X W ss g) (hs : ∀ x, foldedSetIterable iter X.env x = pure x := by intro _; rfl) : SX G N X W (.For tg iter ss [] pos) (bFor as io tgt g) := fun σ ρ st H D h p => by
  refine sS_of (ps_for hp hc hr pg_sem pss_sem hs) ?_
  refine ha.bdo h p fun avs ρ1 vs H1 r1 h1 p1 => ?_
  cases eg : grab ρ1 avs with
  | none =>
    rw [eg] at p1
    exact p1.elim
  | some q =>
    obtain ⟨xs, ρ2⟩ := q
    rw [eg] at p1
    simp only at p1
    obtain ⟨l, h2⟩ := grab_ok r1 h1 eg
    cases ei : io xs with
    | none =>
      rw [ei] at p1
      exact p1.elim
    | some items =>
      rw [ei] at p1
      exact hi N σ ρ2 st H1 vs xs items _ l h2 ei fun J H2 ok h3 => for_core ok hg hb h3 p1
/-! ### while -/
def whileL (t : M Bool) (body : B) : Nat → B
  | 0, _ => .stuck
  | n + 1, ρ => match t ρ with
    | .ok b ρ1 => if b then (match body ρ1 with
      | .nx ρ2 => whileL t body n ρ2
      | .ct ρ2 => whileL t body n ρ2
      | .bk ρ2 => .nx ρ2
      | r => r) else .nx ρ1
    | .exc c p ρ1 => .exc c p ρ1
    | .stuck => .stuck
theorem sx_while {cx : Expr} {ss : List Stmt} (n : Nat) (hp : PassesOwn (model X.prog X.w) X.A X.env X.xe) (hc : TX G N X W cx t) (hb : BX G N X W ss g) : SX G N X W (.While cx ss [] pos) (whileL t g n) := fun σ ρ st H D h p => by
  refine sS_of (ps_while hp pt_sem pss_sem) ⟨fun m σ H => ∃ ρ, Hs G N H σ ρ st ∧ fps G N W st D (whileL t g m ρ), ⟨n, ρ, h, p⟩, ?_⟩
  rintro m σ1 H1 ⟨ρ1, h1, p1⟩
  cases m with
  | zero => exact p1.elim
  | succ m =>
    unfold whileL at p1
    refine hc σ1 ρ1 st H1 _ h1 ?_
    cases ht : t ρ1 with
    | exc c q ρ2 =>
      rw [ht] at p1
      exact fun cls d H' x h' => p1 cls d σ1 H' x h'
    | stuck =>
      rw [ht] at p1
      exact p1
    | ok k ρ2 =>
      rw [ht] at p1
      intro H2 h2
      simp only at p1
      cases k with
      | false => exact iteF (p1 σ1 H2 h2)
      | true =>
        refine iteT ⟨fun σ' H' => ∃ ρ', Hs G N H' σ' ρ' st ∧ fps G N W st D (whileL t g m ρ'), fun σ' H' q => ⟨m, Nat.lt_succ_self m, q⟩, ?_⟩
        refine hb σ1 ρ2 st H2 _ h2 ?_
        simp only [if_true] at p1
        cases hbd : g ρ2 with
        | nx ρ3 =>
          rw [hbd] at p1
          exact fun σ' H' h' => ⟨ρ3, h', p1⟩
        | ct ρ3 =>
          rw [hbd] at p1
          exact fun σ' H' h' => ⟨ρ3, h', p1⟩
        | bk ρ3 =>
          rw [hbd] at p1
          exact p1
        | rt s ρ3 =>
          rw [hbd] at p1
          exact p1
        | exc c q ρ3 =>
          rw [hbd] at p1
          exact p1
        | stuck =>
          rw [hbd] at p1
          exact p1
end
end DL
/-! the data layer: comprehensions -/
namespace DL
open PySem PySem.Spec PyProof.Rows L2
def clr : List Nat → List S → List S
  | [], ρ => ρ
  | v :: vs, ρ => (clr vs ρ).set v .gone
def rst : List Nat → List S → List S → List S
  | [], _, ρ => ρ
  | v :: vs, ρ0, ρ => rst vs ρ0 (ρ.set v ((clr vs ρ0)[v]?.getD .gone))
theorem clr_len : ∀ (vs : List Nat) (ρ : List S), (clr vs ρ).length = ρ.length
  | [], _ => rfl
  | v :: vs, ρ => by
    show ((clr vs ρ).set v .gone).length = _
    rw [List.length_set, clr_len vs ρ]
theorem clr_at : ∀ (vs : List Nat) (ρ : List S) (i : Nat) (s : S), (clr vs ρ)[i]? = some s → s ≠ .gone → i ∉ vs
  | [], _, _, _, _, _ => by simp
  | v :: vs, ρ, i, s, h, n => by
    have h' : ((clr vs ρ).set v .gone)[i]? = some s := h
    rw [List.getElem?_set] at h'
    split at h'
    · split at h'
      · cases h'
        exact absurd rfl n
      · cases h'
    · rename_i hne
      intro hm
      rcases List.mem_cons.mp hm with z | z
      · exact hne z.symm
      · exact clr_at vs ρ i s h' n z
def allD : List S → Option (List D)
  | [] => some []
  | .d x :: r => (allD r).map (x :: ·)
  | _ :: _ => none
def lsN (acc : List S) : S := match allD acc with
  | some xs => .l xs
  | none => .ls acc
theorem allD_eq : ∀ {acc : List S} {xs : List D}, allD acc = some xs → acc = xs.map .d
  | [], xs, h => by
    simp only [allD, Option.some.injEq] at h
    subst h
    rfl
  | .d x :: r, xs, h => by
    simp only [allD, Option.map_eq_some_iff] at h
    obtain ⟨ys, h1, h2⟩ := h
    subst h2
    rw [allD_eq h1]
    rfl
  | .gone :: _, _, h => by simp [allD] at h
  | .l _ :: _, _, h => by simp [allD] at h
  | .ls _ :: _, _, h => by simp [allD] at h
  | .m _ _ :: _, _, h => by simp [allD] at h
  | .o _ _ :: _, _, h => by simp [allD] at h
/-- a block's loop -/
def compL (vs : List Nat) (t : Tg) (c : M Bool) (f : M S) : List D → List S → M (List S)
  | [], acc, ρ => .ok acc ρ
  | x :: xs, acc, ρ => match asgT t (.d x) (clr vs ρ) with
    | none => .stuck
    | some ρ1 => match c ρ1 with
      | .ok b ρ2 => if b then (match f ρ2 with
        | .ok s ρ3 => compL vs t c f xs (acc ++ [s]) ρ3
        | _ => .stuck) else compL vs t c f xs acc ρ2
      | _ => .stuck
def mComp (vs : List Nat) (as : List Arg) (io : List S → Option (List D)) (t : Tg) (c : M Bool) (f : M S) : M S := mbind (mArgs as) fun avs ρ => match grab ρ avs with
  | none => .stuck
  | some p => match io p.1 with
    | none => .stuck
    | some items => if items.length ≤ 100000 then (match compL vs t c f items [] p.2 with
      | .ok acc ρ2 => .ok (lsN acc) (lay (rst vs p.2 (clr vs ρ2)) avs p.1 p.1)
      | _ => .stuck) else .stuck
section
variable {G : Gx} {N N' : Pn} {X : Cx} {W : WX} {H H' : Hp} {σ σ' : L2.St} {ρ ρ' : List S} {st st' : Stk}
/-- other values in slots of which nothing is known -/
theorem RL.resl {F : Hp} : ∀ {ρ : List S} {σ σ' : L2.St} {fp : List Addr}, σ.length = ρ.length → σ'.length = ρ.length → (∀ (i : Nat) s, ρ[i]? = some s → s ≠ .gone → σ'[i]? = σ[i]?) → RL G F H (σ.zip ρ) fp → RL G F H (σ'.zip ρ) fp
  | [], σ, σ', fp, l1, l2, _, h => by
    have e1 : σ = [] := List.length_eq_zero_iff.mp l1
    have e2 : σ' = [] := List.length_eq_zero_iff.mp l2
    subst e1 e2
    exact h
  | s :: ρ, o :: σ, o' :: σ', fp, l1, l2, k, ⟨a, b, e, q, r⟩ => by
    refine ⟨a, b, e, ?_, RL.resl (by simpa using l1) (by simpa using l2) (fun i s e1 e2 => by have := k (i + 1) s (by simpa using e1) e2; simpa using this) r⟩
    by_cases hg : s = .gone
    · subst hg
      exact q
    · have e3 := k 0 s rfl hg
      simp only [List.getElem?_cons_zero, Option.some.injEq] at e3
      rw [e3]
      exact q
  | _ :: _, [], _, _, l1, _, _, _ => by simp at l1
  | _ :: _, _ :: _, [], _, _, l2, _, _ => by simp at l2
theorem Hs.resl (h : Hs G N H σ ρ st) (l : σ'.length = σ.length) (k : ∀ (i : Nat) s, ρ[i]? = some s → s ≠ .gone → σ'[i]? = σ[i]?) (pn : ∀ j ∈ N'.J, σ'[j]? = N'.s0[j]?) : Hs G N' H σ' ρ st := by
  obtain ⟨F, fp, sb, r, n⟩ := h.ex
  obtain ⟨a, b, e, r1, r2⟩ := (RL.app _ _ _).mp r
  exact ⟨l.trans h.len, ⟨F, fp, sb, (RL.app _ _ _).mpr ⟨a, b, e, r1, RL.resl h.len (l.trans h.len) k r2⟩, n⟩, h.tb, pn⟩
def pulled : List Nat → L2.St → List S → Stk
  | [], _, _ => []
  | v :: vs, σ, ρ => ((σ[v]?.getD none), (clr vs ρ)[v]?.getD .gone) :: pulled vs σ ρ
theorem Hs.pulls : ∀ (vs : List Nat), Hs G N H σ ρ st → (∀ v ∈ vs, v < ρ.length) → Hs G N H σ (clr vs ρ) (pulled vs σ ρ ++ st)
  | [], h, _ => h
  | v :: vs, h, l => by
    have h1 := Hs.pulls vs h fun v hv => l v (List.mem_cons_of_mem _ hv)
    have lv : v < (clr vs ρ).length := by rw [clr_len]; exact l v List.mem_cons_self
    have lσ : v < σ.length := by rw [h1.len]; exact lv
    have h2 := h1.pull (i := v) (s := (clr vs ρ)[v]) (o := σ[v]) (by simp [lv]) (by simp [lσ])
    show Hs G N H σ ((clr vs ρ).set v .gone) (((σ[v]?.getD none), (clr vs ρ)[v]?.getD .gone) :: (pulled vs σ ρ ++ st))
    rw [List.getElem?_eq_getElem lσ, List.getElem?_eq_getElem lv]
    exact h2
theorem Hs.puts : ∀ (vs : List Nat) {ρ2 : List S}, Hs G N H σ ρ2 (pulled vs σ ρ ++ st) → ρ2.length = ρ.length → (∀ v ∈ vs, v < ρ.length) → Hs G N H σ (rst vs ρ ρ2) st
  | [], _, h, _, _ => h
  | v :: vs, ρ2, h, l2, l => by
    have lv : v < ρ.length := l v List.mem_cons_self
    have lσ : v < σ.length := by rw [h.len, l2]; exact lv
    have h1 : Hs G N H σ ρ2 ((σ[v], (clr vs ρ)[v]?.getD .gone) :: (pulled vs σ ρ ++ st)) := by
      have h2 : Hs G N H σ ρ2 (((σ[v]?.getD none), (clr vs ρ)[v]?.getD .gone) :: (pulled vs σ ρ ++ st)) := h
      rw [List.getElem?_eq_getElem lσ] at h2
      exact h2
    have h2 := h1.put (i := v) (t := ρ2[v]'(by omega)) (by simp [l2, lv]) (by simp [lσ])
    exact Hs.puts vs h2 (by rw [List.length_set]; exact l2) fun v hv => l v (List.mem_cons_of_mem _ hv)
theorem rst_len : ∀ (vs : List Nat) (ρ0 ρ : List S), (rst vs ρ0 ρ).length = ρ.length
  | [], _, _ => rfl
  | v :: vs, ρ0, ρ => by
    show (rst vs ρ0 (ρ.set v _)).length = _
    rw [rst_len vs, List.length_set]
theorem Hs.clrs : ∀ (vs : List Nat), Hs G N H σ ρ st → Hs G N H σ (clr vs ρ) st
  | [], h => h
  | v :: vs, h => (Hs.clrs vs h).forget v
/-- the pins of a block: all slots but its own -/
def blkP (vs : List Nat) (σ : L2.St) : Pn := ⟨(List.range σ.length).filter fun j => decide (j ∉ vs), wipe σ vs⟩
theorem blkP_out {vs : List Nat} {v : Nat} (h : v ∈ vs) : v ∉ (blkP vs σ).J := fun hm => by
  have := (List.mem_filter.mp hm).2
  simp [h] at this
theorem wipe_len (σ : L2.St) : ∀ vs : List Nat, (wipe σ vs).length = σ.length := fun vs => wipe_length σ vs
theorem wipe_at {i : Nat} (l : i < σ.length) : ∀ {vs : List Nat}, i ∈ vs → (wipe σ vs)[i]? = some none
  | [], h => by simp at h
  | v :: vs, h => by
    show ((wipe σ vs).set v none)[i]? = some none
    rw [List.getElem?_set]
    split
    · rw [if_pos (by rw [wipe_len]; subst_vars; exact l)]
    · rename_i hne
      rcases List.mem_cons.mp h with z | z
      · exact absurd z.symm hne
      · exact wipe_at l z
theorem wipe_eq {vs : List Nat} (l : σ'.length = σ.length) (k : ∀ j, j < σ.length → j ∉ vs → σ'[j]? = (wipe σ vs)[j]?) : wipe σ' vs = wipe σ vs := by
  apply List.ext_getElem?
  intro i
  by_cases hi : i < σ.length
  · by_cases hm : i ∈ vs
    · rw [wipe_at hi hm, wipe_at (by rw [l]; exact hi) hm]
    · rw [wipe_out hm, k i hi hm]
  · have e1 : (wipe σ' vs).length ≤ i := by rw [wipe_len, l]; omega
    have e2 : (wipe σ vs).length ≤ i := by rw [wipe_len]; omega
    rw [List.getElem?_eq_none_iff.mpr e1, List.getElem?_eq_none_iff.mpr e2]
theorem blk_pin {vs : List Nat} {j : Nat} (hj : j < σ.length) (hm : j ∉ vs) : j ∈ (blkP vs σ).J := List.mem_filter.mpr ⟨List.mem_range.mpr hj, by simp [hm]⟩
theorem blk_pin_of {vs : List Nat} {j : Nat} (h : j ∈ (blkP vs σ).J) : j < σ.length ∧ j ∉ vs := by
  obtain ⟨h1, h2⟩ := List.mem_filter.mp h
  exact ⟨List.mem_range.mp h1, by simpa using h2⟩
/-- into a block -/
theorem Hs.into {vs : List Nat} (h : Hs G N H σ (clr vs ρ) st) : Hs G (blkP vs σ) H (wipe σ vs) (clr vs ρ) st := h.resl (wipe_len σ vs) (fun i s e n => wipe_out (clr_at vs ρ i s e n)) fun j _ => rfl
/-- to the block's next turn -/
theorem Hs.next {vs : List Nat} (h : Hs G (blkP vs σ) H σ' ρ' st) (l : σ'.length = σ.length) : Hs G (blkP vs σ) H (wipe σ vs) (clr vs ρ') st := by
  refine (h.clrs vs).resl (by rw [wipe_len, l]) (fun i s e n => ?_) fun j _ => rfl
  have hm := clr_at vs ρ' i s e n
  have hi : i < σ.length := by
    have := (List.getElem?_eq_some_iff.mp e).1
    rw [clr_len, ← h.len, l] at this
    exact this
  exact (h.pin i (blk_pin hi hm)).symm
theorem Hs.keepW {vs : List Nat} (h : Hs G (blkP vs σ) H σ' ρ' st) (l : σ'.length = σ.length) : wipe σ' vs = wipe σ vs := wipe_eq l fun j hj hm => h.pin j (blk_pin hj hm)
/-- out of it -/
theorem Hs.out {vs : List Nat} (h : Hs G (blkP vs σ) H (wipe σ vs) (clr vs ρ') st) (h0 : Hs G N H' σ ρ st') : Hs G N H σ (clr vs ρ') st := by
  refine h.resl (wipe_len σ vs).symm (fun i s e n => (wipe_out (clr_at vs ρ' i s e n)).symm) h0.pin
mutual
theorem asgT_len : ∀ (t : Tg) (s : S) (ρ ρ' : List S), asgT t s ρ = some ρ' → ρ'.length = ρ.length
  | .n i, s, ρ, ρ', e => by
    unfold asgT at e
    split at e
    · cases e
      rw [List.length_set]
    · cases e
  | .t ts, s, ρ, ρ', e => by
    have no : ∀ {P : Prop}, (none : Option (List S)) = some ρ' → P := fun e => by cases e
    cases s with
    | d x =>
      cases x with
      | tup xs => exact asgTs_len ts xs ρ ρ' e
      | _ => exact no e
    | _ => exact no e
theorem asgTs_len : ∀ (t : List Tg) (xs : List D) (ρ ρ' : List S), asgTs t xs ρ = some ρ' → ρ'.length = ρ.length
  | [], [], ρ, ρ', e => by
    simp only [asgTs, Option.some.injEq] at e
    rw [e]
  | [], _ :: _, ρ, ρ', e => by simp [asgTs] at e
  | _ :: _, [], ρ, ρ', e => by simp [asgTs] at e
  | t :: ts, x :: xs, ρ, ρ', e => by
    simp only [asgTs, Option.bind_eq_some_iff] at e
    obtain ⟨ρ1, e1, e2⟩ := e
    rw [asgTs_len ts xs ρ1 ρ' e2, asgT_len t (.d x) ρ ρ1 e1]
end
theorem RFl.len {F : Hp} : ∀ {xs : List S} {os : List (Option V)} {fp : List Addr}, RFl G F H xs os fp → os.length = xs.length
  | [], _, _, ⟨e, _⟩ => by subst e; rfl
  | _ :: _, _, _, ⟨o, os', a, b, e1, _, _, q⟩ => by subst e1; simp [RFl.len q]
theorem RFl.app {F : Hp} : ∀ {xs : List S} {os : List (Option V)} {fp : List Addr} {s : S} {o : Option V} {fq : List Addr}, RFl G F H xs os fp → RF G F H s o fq → RFl G F H (xs ++ [s]) (os ++ [o]) (fp ++ fq)
  | [], _, _, s, o, fq, ⟨e1, e2⟩, q => by
    subst e1 e2
    exact ⟨o, [], fq, [], rfl, by simp, q, rfl, rfl⟩
  | x :: xs, _, _, s, o, fq, ⟨o', os', a, b, e1, e2, q1, q2⟩, q => by
    subst e1 e2
    exact ⟨o', os' ++ [o], a, b ++ fq, rfl, by rw [List.append_assoc], q1, RFl.app q2 q⟩
/-- a new empty list -/
theorem Hs.newLs (h : Hs G N H σ ρ st) {p : Addr} (hp : H p = none) : Hs G N (upd H p (.lst [])) σ ρ ((some (.ref p), .ls []) :: st) := by
  obtain ⟨F, fp, sb, r, n⟩ := h.ex
  have g : Grow G H (upd H p (.lst [])) := Grow.upd h.tb hp
  exact ⟨h.len, ⟨F, p :: fp, sb.grow g.1, ⟨[p], fp, rfl, ⟨p, [], [], rfl, rfl, upd_same, sb.none hp, rfl, rfl⟩, RL.keep (Le.refl F) _ fp r (own_grow r g.1)⟩, List.nodup_cons.mpr ⟨fp_ne r hp, n⟩⟩, g.2, h.pin⟩
theorem tabs_upd {p : Addr} {o u : HO} (t : Tb G H) (e : H p = some u) (hm : Owd u) : Tb G (upd H p o) := by
  have ne : ∀ (q : Addr) (x : HO), H q = some x → ¬ Owd x → q ≠ p := fun q x h1 h2 z => by
    rw [z, e] at h1
    cases h1
    exact h2 hm
  intro q hq
  obtain ⟨ps, e1, e2, e3⟩ := t q hq
  refine ⟨ps, by rw [upd_ne (ne _ _ e1 id)]; exact e1, e2, fun pos cv hc => ?_⟩
  obtain ⟨c, e4, e5⟩ := e3 pos cv hc
  exact ⟨c, e4, by rw [upd_ne (ne _ _ e5 id)]; exact e5⟩
/-- what is owned changes -/
theorem sub_upd {F : Hp} {p : Addr} {o : HO} (sb : Sub F H) (hp : F p = none) : Sub F (upd H p o) := fun a u e => by
  have ha : a ≠ p := fun z => by rw [z, hp] at e; cases e
  rw [upd_ne ha]
  exact sb a u e
theorem fr_upd {L : Stk} {F : Hp} {p : Addr} {o : HO} {fr : List Addr} (r : RL G F H L fr) (hp : p ∉ fr) : ∀ a ∈ fr, upd H p o a = H a ∧ F a = none := fun a ha => by
  rw [upd_ne fun z => hp (by rw [← z]; exact ha)]
  exact ⟨rfl, (RL.own _ fr r a ha).1⟩
/-- an item goes behind a list -/
theorem Hs.push {y : V} {s : S} {p : Addr} {acc : List S} (h : Hs G N H σ ρ ((some y, s) :: (some (.ref p), .ls acc) :: st)) : ∃ vs, H p = some (.lst vs) ∧ vs.length = acc.length ∧ Hs G N (upd H p (.lst (vs ++ [y]))) σ ρ ((some (.ref p), .ls (acc ++ [s])) :: st) := by
  obtain ⟨F, fp, sb, ⟨a1, b1, ef1, q1, a2, b2, ef2, ⟨a, vs, r0, ev, er, e3, e4, q2⟩, r⟩, n⟩ := h.ex
  cases ev
  subst ef1 ef2 er
  have lv := RFl.len q2
  rw [List.length_map] at lv
  refine ⟨vs, e3, lv, h.len, ⟨F, (p :: (r0 ++ a1)) ++ b2, sub_upd sb e4, ⟨p :: (r0 ++ a1), b2, rfl, ⟨p, vs ++ [y], r0 ++ a1, rfl, rfl, upd_same, e4, ?_⟩, ?_⟩, ?_⟩, tabs_upd h.tb e3 trivial, h.pin⟩
  · rw [List.map_append]
    have nr : ∀ b ∈ r0 ++ a1, upd H p (.lst (vs ++ [y])) b = H b ∧ F b = none := fun b hb => by
      have hne : b ≠ p := fun z => by
        subst z
        rcases List.mem_append.mp hb with hb | hb
        · have := (List.nodup_append.mp n).2.1
          have := (List.nodup_append.mp this).1
          exact (List.nodup_cons.mp this).1 hb
        · exact (List.nodup_append.mp n).2.2 b hb b (by simp) rfl
      rw [upd_ne hne]
      refine ⟨rfl, ?_⟩
      rcases List.mem_append.mp hb with hb | hb
      · exact (RFl.own _ _ r0 q2 b hb).1
      · exact (RF.own _ _ a1 q1 b hb).1
    exact RFl.app (RFl.keep (Le.refl F) _ _ r0 q2 fun b hb => nr b (List.mem_append_left _ hb)) (RF.keep (Le.refl F) _ _ a1 q1 fun b hb => nr b (List.mem_append_right _ hb))
  · refine RL.keep (Le.refl F) _ b2 r (fr_upd r fun hm => ?_)
    have := (List.nodup_append.mp n).2.1
    exact (List.nodup_append.mp this).2.2 p (by simp) p hm rfl
  · have p1 : (a1 ++ (p :: r0 ++ b2)).Perm (p :: (r0 ++ a1) ++ b2) := by
      rw [← List.append_assoc]
      refine List.Perm.append_right b2 ?_
      exact List.perm_append_comm
    exact (p1.nodup_iff).mp n
theorem Hs.toL {o : Option V} {xs : List D} (h : Hs G N H σ ρ ((o, .ls (xs.map .d)) :: st)) : Hs G N H σ ρ ((o, .l xs) :: st) := by
  obtain ⟨F, fp, sb, ⟨a, b, ef, ⟨p, vs, r0, ev, er, e3, e4, q⟩, r⟩, n⟩ := h.ex
  have key : ∀ (xs : List D) (vs : List V) (r0 : List Addr), RFl G F H (xs.map .d) (vs.map some) r0 → r0 = [] ∧ RDs G F xs vs := by
    intro xs
    induction xs with
    | nil =>
      rintro vs r0 ⟨e1, e2⟩
      have : vs = [] := by simpa using e1
      exact ⟨e2, this⟩
    | cons x xs ih =>
      rintro vs r0 ⟨o, os, a, b, e1, e2, ⟨ea, v, ev, q1⟩, q2⟩
      cases vs with
      | nil => simp at e1
      | cons w ws =>
        simp only [List.map_cons, List.cons.injEq] at e1
        obtain ⟨h1, h2⟩ := e1
        rw [← h2] at q2
        obtain ⟨eb, q3⟩ := ih ws b q2
        rw [ev] at h1
        have h1' : w = v := Option.some.inj h1
        subst h1' ea eb
        exact ⟨by simpa using e2, w, ws, rfl, q1, q3⟩
  obtain ⟨er0, q2⟩ := key xs vs r0 q
  subst er0 er
  exact ⟨h.len, ⟨F, fp, sb, ⟨_, b, ef, ⟨p, vs, ev, rfl, e3, e4, q2⟩, r⟩, n⟩, h.tb, h.pin⟩
theorem Hs.lsN {o : Option V} {acc : List S} (h : Hs G N H σ ρ ((o, .ls acc) :: st)) : Hs G N H σ ρ ((o, DL.lsN acc) :: st) := by
  unfold DL.lsN
  split
  · rename_i xs e
    have e2 := allD_eq e
    subst e2
    exact h.toL
  · exact h
/-! ### the rule -/
abbrev W0 : WX := fun _ _ _ _ => False
/-- what stands in a block, wherever it starts -/
def BlkA (X : Cx) (scope : Scope) (K : Cx → Prop) : Prop := ∀ (s : Shared) (H : Hp) (C : Addr) (cl : List (Str × Addr)) (fp : List Addr), K (X.blk s H scope (compEnvC scope cl C X.env) fp)
theorem pst0 {α : Type} {K : α → List S → Prop} {r : Res α} (h : ∀ a ρ, r = .ok a ρ → K a ρ) (he : (∃ a ρ, r = .ok a ρ)) : pst G N W σ st K r := by
  obtain ⟨a, ρ, e⟩ := he
  rw [e]
  exact h a ρ e
/-- a clause's tests, none or one -/
inductive Ifs (G : Gx) (N : Pn) (X : Cx) : List Expr → M Bool → Prop
  | nil : Ifs G N X [] (mpure true)
  | one {c : Expr} {t : M Bool} : TX G N X W0 c t → Ifs G N X [c] t
def sTs (X : Cx) : List Expr → TT
  | [] => tYes
  | [c] => sT X c
  | _ => fun _ _ _ => False
theorem pts_sem : ∀ {ifs : List Expr}, ifs.length ≤ 1 → PTs X ifs (sTs X ifs)
  | [], _ => pts_nil
  | [c], _ => pts_one pt_sem
  | _ :: _ :: _, h => by simp at h
theorem ifs_run {ifs : List Expr} {t : M Bool} (h : Ifs G N X ifs t) {Q : Bool → Hp → Prop} (hs : Hs G N H σ ρ st) {b : Bool} (e : t ρ = .ok b ρ') (k : ∀ H', Hs G N H' σ ρ' st → Q b H') : sTs X ifs σ H Q := by
  cases h with
  | nil =>
    have e' : Res.ok true ρ = Res.ok b ρ' := e
    cases e'
    exact k H hs
  | one hc =>
    refine hc σ ρ st H Q hs ?_
    rw [e]
    exact k
def gAll (X : Cx) (scope : Scope) (tg : Expr) : TG := fun v σ H Q => ∀ (s : Shared) (H0 : Hp) (C : Addr) (cl : List (Str × Addr)) (fp : List Addr), sG (X.blk s H0 scope (compEnvC scope cl C X.env) fp) tg v σ H Q
def tAllT (X : Cx) (scope : Scope) (ifs : List Expr) : TT := fun σ H Q => ∀ (s : Shared) (H0 : Hp) (C : Addr) (cl : List (Str × Addr)) (fp : List Addr), sTs (X.blk s H0 scope (compEnvC scope cl C X.env) fp) ifs σ H Q
def tAllE (X : Cx) (scope : Scope) (elt : Expr) : TE := fun σ H Q => ∀ (s : Shared) (H0 : Hp) (C : Addr) (cl : List (Str × Addr)) (fp : List Addr), sE (X.blk s H0 scope (compEnvC scope cl C X.env) fp) elt σ H Q
theorem gAll_ok {scope : Scope} {tg : Expr} (s : Shared) (H0 : Hp) (C : Addr) (cl : List (Str × Addr)) (fp : List Addr) : PG (X.blk s H0 scope (compEnvC scope cl C X.env) fp) tg (gAll X scope tg) := ⟨fun pins s' _ _ _ u _ I r q => q s H0 C cl fp pins s' u I r⟩
theorem tAllT_ok {scope : Scope} {ifs : List Expr} (hl : ifs.length ≤ 1) (s : Shared) (H0 : Hp) (C : Addr) (cl : List (Str × Addr)) (fp : List Addr) : PTs (X.blk s H0 scope (compEnvC scope cl C X.env) fp) ifs (tAllT X scope ifs) := ⟨fun pins s' σ' H' Q' I q => (pts_sem hl).run pins s' σ' H' Q' I (q s H0 C cl fp)⟩
theorem tAllE_ok {scope : Scope} {elt : Expr} (s : Shared) (H0 : Hp) (C : Addr) (cl : List (Str × Addr)) (fp : List Addr) : PE (X.blk s H0 scope (compEnvC scope cl C X.env) fp) elt (tAllE X scope elt) := ⟨fun pins s' _ _ _ I q => q s H0 C cl fp pins s' I⟩
/-- what a block's parts do, wherever it starts, whatever its pins (but for its own slots) -/
structure Parts (G : Gx) (X : Cx) (scope : Scope) (vs : List Nat) (tg : Expr) (ifs : List Expr) (elt : Expr) (t : Tg) (c : M Bool) (f : M S) : Prop where
  tg : ∀ N : Pn, (∀ v ∈ vs, v ∉ N.J) → BlkA X scope fun X' => GX G N X' tg t
  ifs : ∀ N : Pn, (∀ v ∈ vs, v ∉ N.J) → BlkA X scope fun X' => Ifs G N X' ifs c
  elt : ∀ N : Pn, (∀ v ∈ vs, v ∉ N.J) → BlkA X scope fun X' => EX G N X' W0 elt f
theorem compL_run {scope : Scope} {vs : List Nat} {tg elt : Expr} {ifs : List Expr} {t : Tg} {c : M Bool} {f : M S} {J : It} {src : Stk} {items : List D} {Q : VK} (P : Parts G X scope vs tg ifs elt t c f) (hi : IterOk G J src items) (hl : items.length ≤ 100000)
    {acc' : List S} {ρ1 : List S} (hv : ∀ v ∈ vs, v < ρ.length) (h : Hs G N H σ ρ (src ++ st)) (e : compL vs t c f items [] ρ = .ok acc' ρ1) {Dl : Addr} (hD : H Dl = none)
    (k : ∀ H', Hs G N H' σ (rst vs ρ (clr vs ρ1)) ((some (.ref Dl), lsN acc') :: (src ++ st)) → Q (.ref Dl) H') :
    ∃ W : Nat → Nat → Hp → Prop, (∃ m, W 0 m (upd H Dl (.lst []))) ∧ ∀ i m H, W i m H →
      (J.stop i H ∧ Q (.ref Dl) H) ∨ (J.go i H ∧ ∃ Nx : Hp → Prop, (∀ H', Nx H' → ∃ m', m' < m ∧ W (i + 1) m' H') ∧ ∀ x H', J.yld i H x H' →
        (gAll X scope tg) x (wipe σ vs) H' fun σ2 H2 => wipe σ2 vs = wipe σ vs ∧
          (tAllT X scope ifs) σ2 H2 fun b H3 =>
          if b = true then (tAllE X scope elt) σ2 H3 fun y H4 => ∃ acc, H4 Dl = some (.lst acc) ∧ acc.length < sizeLine ∧ Nx (upd H4 Dl (.lst (acc ++ [y]))) else Nx H3) := by
  obtain ⟨Gc, Y, w, k1, k2⟩ := hi
  have hlσ : σ.length = ρ.length := h.len
  have Np : ∀ v ∈ vs, v ∉ (blkP vs σ).J := fun v hv => blkP_out hv
  refine lc_it w (g := gAll X scope tg) (tt := tAllT X scope ifs) (te := tAllE X scope elt) (vs := vs) (σ := σ) (H1 := H) (D := Dl) (Qd := Q (.ref Dl)) (fun i H => ∃ ρ2 acc, ρ2.length = ρ.length ∧ acc.length ≤ i ∧ Hs G (blkP vs σ) H (wipe σ vs) (clr vs ρ2) (src ++ ((some (.ref Dl), .ls acc) :: (pulled vs σ ρ ++ st))) ∧ compL vs t c f (items.drop i) acc ρ2 = .ok acc' ρ1) ?_ ?_ ?_ ?_
  · refine ⟨ρ, [], rfl, Nat.le_refl _, ?_, e⟩
    have h1 := h.pulls vs hv
    have h2 := Hs.into h1
    have h3 := h2.newLs hD
    refine h3.perm ?_
    have e1 : (pulled vs σ ρ ++ (src ++ st)).Perm (src ++ (pulled vs σ ρ ++ st)) := by
      rw [← List.append_assoc, ← List.append_assoc]
      exact List.perm_append_comm.append_right st
    exact (e1.cons _).trans List.perm_middle.symm
  · rintro i H1 hi ⟨ρ2, acc, l2, la, h1, _⟩
    exact k1 _ _ _ _ _ h1
  · rintro i x H1 H2 hi ⟨ρ2, acc, l2, la, h1, e1⟩ y
    obtain ⟨d, ed, h2⟩ := k2 _ _ _ _ i x H1 H2 hi h1 y
    have e2 : items.drop i = d :: items.drop (i + 1) := by
      rw [List.drop_eq_getElem_cons hi]
      congr 1
      exact (List.getElem?_eq_some_iff.mp ed).2
    rw [e2] at e1
    unfold compL at e1
    cases ea : asgT t (.d d) (clr vs ρ2) with
    | none =>
      rw [ea] at e1
      cases e1
    | some ρ3 =>
      rw [ea] at e1
      simp only at e1
      intro s H0 C cl fp
      refine P.tg _ Np s H0 C cl fp _ _ _ _ _ _ _ _ h2 ea fun σ2 H3 h3 => ?_
      have l3 : σ2.length = σ.length := by rw [h3.len, asgT_len _ _ _ _ ea, clr_len, l2, hlσ]
      refine ⟨h3.keepW l3, ?_⟩
      intro s H0 C cl fp
      cases ec : c ρ3 with
      | exc a b r =>
        rw [ec] at e1
        cases e1
      | stuck =>
        rw [ec] at e1
        cases e1
      | ok b ρ4 =>
        rw [ec] at e1
        simp only at e1
        refine ifs_run (P.ifs _ Np s H0 C cl fp) h3 ec fun H4 h4 => ?_
        have l4 : ρ4.length = ρ.length := by rw [← h4.len, l3, hlσ]
        cases b with
        | false =>
          simp only [Bool.false_eq_true, if_false] at e1
          exact iteF ⟨ρ4, acc, l4, by omega, h4.next l3, e1⟩
        | true =>
          simp only [if_true] at e1
          cases ef : f ρ4 with
          | exc a b r =>
            rw [ef] at e1
            cases e1
          | stuck =>
            rw [ef] at e1
            cases e1
          | ok z ρ5 =>
            rw [ef] at e1
            simp only at e1
            refine iteT ?_
            intro s H0 C cl fp
            refine P.elt _ Np s H0 C cl fp _ _ _ _ _ h4 ?_
            rw [ef]
            intro yv H5 h5
            have l5 : ρ5.length = ρ.length := by rw [← h5.len, l3, hlσ]
            have h6 : Hs G (blkP vs σ) H5 σ2 ρ5 ((some yv, z) :: (some (.ref Dl), .ls acc) :: (src ++ (pulled vs σ ρ ++ st))) := h5.perm (List.Perm.cons _ List.perm_middle)
            obtain ⟨ws, ew, lw, h7⟩ := h6.push
            refine ⟨ws, ew, ?_, ρ5, acc ++ [z], l5, by simp; omega, ?_, e1⟩
            · rw [lw]
              exact Nat.lt_of_le_of_lt la (Nat.lt_of_lt_of_le hi (Nat.le_trans hl (by decide)))
            · exact (h7.next l3).perm List.perm_middle.symm
  · rintro H1 ⟨ρ2, acc, l2, la, h1, e1⟩
    rw [List.drop_length] at e1
    have e1' : Res.ok acc ρ2 = Res.ok acc' ρ1 := e1
    cases e1'
    refine k H1 ?_
    have h2 := h1.out h
    have h3 : Hs G N H1 σ (clr vs ρ1) (pulled vs σ ρ ++ ((some (.ref Dl), .ls acc') :: (src ++ st))) := by
      refine h2.perm ?_
      have e3 : (src ++ ((some (V.ref Dl), S.ls acc') :: (pulled vs σ ρ ++ st))).Perm ((some (V.ref Dl), S.ls acc') :: (pulled vs σ ρ ++ (src ++ st))) := by
        refine List.perm_middle.trans (List.Perm.cons _ ?_)
        rw [← List.append_assoc, ← List.append_assoc]
        exact List.perm_append_comm.append_right st
      exact e3.trans List.perm_middle.symm
    have h4 := h3.puts vs (by rw [clr_len, l2]) hv
    exact h4.lsN
theorem mComp_core {scope : Scope} {vs : List Nat} {tg elt : Expr} {ifs : List Expr} {t : Tg} {c : M Bool} {f : M S} {es : List Expr} {as : List Arg} {r : List V → Hp → (It → Hp → Prop) → Prop} {io : List S → Option (List D)} {Q : VK} (P : Parts G X scope vs tg ifs elt t c f) (ha : AX G N X W es as) (hi : ItS G r io)
    (hv : ∀ v ∈ vs, v < X.N.length) (hN : X.N.length = σ.length) (h : Hs G N H σ ρ st) (p : pst G N W σ st (fun s ρ' => ∀ v H', Hs G N H' σ ρ' ((some v, s) :: st) → Q v H') (mComp vs as io t c f ρ)) :
    tLc (fun σ H R => sAs X es σ H fun vs H1 => r vs H1 R) (gAll X scope tg)
      (tAllT X scope ifs)
      (tAllE X scope elt) vs σ H Q := by
  refine ha.bind h p fun avs ρ1 vs1 H1 r1 h1 p1 => ?_
  cases eg : grab ρ1 avs with
  | none =>
    rw [eg] at p1
    exact p1.elim
  | some q =>
    obtain ⟨xs, ρ2⟩ := q
    rw [eg] at p1
    simp only at p1
    obtain ⟨l, h2⟩ := grab_ok r1 h1 eg
    cases ei : io xs with
    | none =>
      rw [ei] at p1
      exact p1.elim
    | some items =>
      rw [ei] at p1
      simp only at p1
      by_cases hl : items.length ≤ 100000
      · rw [if_pos hl] at p1
        cases ec : compL vs t c f items [] ρ2 with
        | exc a b r =>
          rw [ec] at p1
          exact p1.elim
        | stuck =>
          rw [ec] at p1
          exact p1.elim
        | ok acc ρ3 =>
          rw [ec] at p1
          refine hi N σ ρ2 st H1 vs1 xs items _ l h2 ei fun J H2 ok h3 => ?_
          intro Dl hD
          refine compL_run P ok hl (fun v hm => by rw [← h3.len, ← hN]; exact hv v hm) h3 ec hD fun H4 h4 => ?_
          refine p1 _ H4 ?_
          have h5 : Hs G N H4 σ (rst vs ρ2 (clr vs ρ3)) (zs vs1 xs ++ ((some (.ref Dl), lsN acc) :: st)) := h4.perm List.perm_middle.symm
          exact lay_ok r1 l.symm l.symm h5
      · rw [if_neg hl] at p1
        exact p1.elim
theorem sE_len {e : Expr} {Q : VK} (h : X.N.length = σ.length → sE X e σ H Q) : sE X e σ H Q := fun pins s I => h I.len.symm pins s I
theorem ex_lc {scope : Scope} {own : List (Str × Nat)} {tg iter elt : Expr} {ifs : List Expr} {t : Tg} {c : M Bool} {f : M S} {es : List Expr} {as : List Arg} {r : List V → Hp → (It → Hp → Prop) → Prop} {io : List S → Option (List D)} {pos : Pos} (hc : X.calm = true) (hN : X.N.Nodup)
    (hr : PI X tg iter (fun σ H R => sAs X es σ H fun vs H1 => r vs H1 R)) (ok : BlkOk X.N X.env.scope scope own) (P : Parts G X scope (own.map (·.2)) tg ifs elt t c f) (ha : AX G N X W es as) (hi : ItS G r io) (hl : ifs.length ≤ 1 := by decide)
    (hs : ∀ x, foldedSetIterable iter X.env x = pure x := by intro _; rfl) : EX G N X W (.ListComp elt [⟨tg, iter, ifs, 0⟩] scope pos) (mComp (own.map (·.2)) as io t c f) := fun σ ρ st H Q h p => by
  refine sE_len fun hn => ?_
  refine sE_of (pe_lc (own := own) hc hN hr ok gAll_ok (tAllT_ok hl) tAllE_ok hs) ?_
  refine mComp_core P ha hi (fun v hv => ?_) hn h p
  obtain ⟨q, hq, e⟩ := List.mem_map.mp hv
  have := ok.ix q hq
  rw [e] at this
  exact (List.getElem?_eq_some_iff.mp this).1
/-- x = [..] on one line -/
theorem sx_setLc {scope : Scope} {own : List (Str × Nat)} {tg iter elt : Expr} {ifs : List Expr} {t : Tg} {c : M Bool} {f : M S} {es : List Expr} {as : List Arg} {r : List V → Hp → (It → Hp → Prop) → Prop} {io : List S → Option (List D)} {pos spos py : Pos} {y : Str} (i : Nat) (hc : X.calm = true) (hN : X.N.Nodup) (hj : i ∉ N.J)
    (hr : PI X tg iter (fun σ H R => sAs X es σ H fun vs H1 => r vs H1 R)) (ok : BlkOk X.N X.env.scope scope own) (P : Parts G X scope (own.map (·.2)) tg ifs elt t c f) (ha : AX G N X W es as) (hi : ItS G r io) (hsw : swapsWith (.ListComp elt [⟨tg, iter, ifs, 0⟩] scope pos) (some (.Name y py)) spos.line X.env = pure true) (hy : X.N[i]? = some y := by rfl) (hyl : X.env.scope.names.lookup y = some .local := by rfl) (hl : ifs.length ≤ 1 := by decide)
    (hs : ∀ x, foldedSetIterable iter X.env x = pure x := by intro _; rfl) : SX G N X W (.Assign [.Name y py] (.ListComp elt [⟨tg, iter, ifs, 0⟩] scope pos) spos) (bAsg i (mComp (own.map (·.2)) as io t c f)) := fun σ ρ st H D h p => by
  have key : ∀ hn : X.N.length = σ.length, tAsg (tLc (fun σ H R => sAs X es σ H fun vs H1 => r vs H1 R) (gAll X scope tg)
      (tAllT X scope ifs)
      (tAllE X scope elt) (own.map (·.2))) (gName i) D σ H := fun hn => by
    refine mComp_core (W := W) (st := st) P ha hi (fun v hv => ?_) hn h ?_
    · obtain ⟨q, hq, e⟩ := List.mem_map.mp hv
      have := ok.ix q hq
      rw [e] at this
      exact (List.getElem?_eq_some_iff.mp this).1
    · unfold bAsg at p
      cases hf : mComp (own.map (·.2)) as io t c f ρ with
      | exc a b r =>
        rw [bdo_exc hf] at p
        exact fun cls d H' x h' => p cls d σ H' x h'
      | stuck =>
        rw [bdo_stuck hf] at p
        exact p
      | ok s ρ1 =>
        rw [bdo_ok hf] at p
        intro v H1 h1
        unfold bset at p
        split at p
        · rename_i hlt
          exact p _ H1 (h1.assign hlt hj)
        · exact p.elim
  intro pins sh I
  exact (ps_setLc (own := own) hc hN hy hyl hsw hr ok gAll_ok (tAllT_ok hl) tAllE_ok hs).run pins sh σ H D I (key I.len.symm)
end
end DL
/-! the data layer: a def by its body; more statements -/
namespace DL
open PySem PySem.Spec PyProof.Rows L2
def outsF (J : List Nat) (ρ : List S) : Nat → Nat → List S
  | _, 0 => []
  | j, n + 1 => (if j ∈ J then ρ[j]?.getD .gone else .gone) :: outsF J ρ (j + 1) n
theorem outsF_len (J : List Nat) (ρ : List S) : ∀ n j, (outsF J ρ j n).length = n
  | 0, _ => rfl
  | n + 1, j => by
    show (outsF J ρ (j + 1) n).length + 1 = n + 1
    rw [outsF_len J ρ n]
/-- a def: np parameters, nl names in all, those at J keep what they were given -/
def fnOp (np nl : Nat) (J : List Nat) (g : B) : List S → ORes := fun xs => if xs.length = np then (match g (xs ++ List.replicate (nl - np) .gone) with
  | .nx ρ => .ok (.d .non) (outsF J ρ 0 np)
  | .rt s ρ => .ok s (outsF J ρ 0 np)
  | .exc c p ρ => .exc c p (outsF J ρ 0 np)
  | _ => .stuck) else .stuck
section
variable {G : Gx} {N N' : Pn} {X : Cx} {W : WX} {H H' : Hp} {σ σ' : L2.St} {ρ ρ' : List S} {st st' : Stk}
theorem RL.gones {F : Hp} : ∀ (n : Nat) {L : Stk} {fp : List Addr}, RL G F H L fp → RL G F H (((List.replicate n (none : Option V)).zip (List.replicate n S.gone)) ++ L) fp
  | 0, _, _, h => h
  | n + 1, L, fp, h => ⟨[], fp, rfl, rfl, RL.gones n h⟩
theorem frame_in {vs : List V} {xs : List S} {Nn : List Str} {J : List Nat} (l : vs.length = xs.length) (h : Hs G N H σ ρ (zs vs xs ++ st)) : Hs G ⟨J, start Nn vs⟩ H (start Nn vs) (xs ++ List.replicate (Nn.length - xs.length) .gone) (st ++ σ.zip ρ) := by
  obtain ⟨F, fp, sb, r, n⟩ := h.ex
  have e : (start Nn vs).zip (xs ++ List.replicate (Nn.length - xs.length) .gone) = zs vs xs ++ (List.replicate (Nn.length - xs.length) (none : Option V)).zip (List.replicate (Nn.length - xs.length) S.gone) := by
    unfold L2.start zs
    rw [l, List.zip_append (by simp [l])]
  have p1 : (((List.replicate (Nn.length - xs.length) (none : Option V)).zip (List.replicate (Nn.length - xs.length) S.gone)) ++ ((zs vs xs ++ st) ++ σ.zip ρ)).Perm ((st ++ σ.zip ρ) ++ (start Nn vs).zip (xs ++ List.replicate (Nn.length - xs.length) .gone)) := by
    rw [e]
    generalize (List.replicate (Nn.length - xs.length) (none : Option V)).zip (List.replicate (Nn.length - xs.length) S.gone) = A
    rw [List.append_assoc (zs vs xs) st]
    refine List.perm_append_comm.trans ?_
    rw [List.append_assoc]
    refine List.perm_append_comm.trans ?_
    rw [List.append_assoc]
    exact (List.Perm.append_left _ List.perm_append_comm)
  obtain ⟨f2, r2, q2⟩ := RL.perm p1 fp (RL.gones _ r)
  refine ⟨by unfold L2.start; simp [l], ⟨F, f2, sb, r2, (q2.nodup_iff).mpr n⟩, h.tb, fun j _ => rfl⟩
/-- weaker: some holdings forgotten -/
inductive Wk : Stk → Stk → Prop
  | nil {L : Stk} : Wk L []
  | keep {x : Option V × S} {L L' : Stk} : Wk L L' → Wk (x :: L) (x :: L')
  | gone {x : Option V × S} {o : Option V} {L L' : Stk} : Wk L L' → Wk (x :: L) ((o, .gone) :: L')
  | gone0 {o : Option V} {L' : Stk} : Wk [] L' → Wk [] ((o, .gone) :: L')
theorem RL.wk {F : Hp} {L L' : Stk} (w : Wk L L') : ∀ {fp : List Addr}, RL G F H L fp → ∃ fp', RL G F H L' fp' ∧ fp'.Sublist fp := by
  induction w with
  | nil => exact fun _ => ⟨[], rfl, List.nil_sublist _⟩
  | keep _ ih =>
    rintro fp ⟨a, b, e, q, r⟩
    obtain ⟨b', r', s⟩ := ih r
    exact ⟨a ++ b', ⟨a, b', rfl, q, r'⟩, by rw [e]; exact s.append_left a⟩
  | gone _ ih =>
    rintro fp ⟨a, b, e, q, r⟩
    obtain ⟨b', r', s⟩ := ih r
    exact ⟨b', ⟨[], b', rfl, rfl, r'⟩, by rw [e]; exact s.trans (List.sublist_append_right _ _)⟩
  | gone0 _ ih =>
    intro fp h
    obtain ⟨b', r', s⟩ := ih h
    exact ⟨b', ⟨[], b', rfl, rfl, r'⟩, s⟩
theorem wk_outs {J : List Nat} : ∀ (vs : List V) (j : Nat) (σ1 : L2.St) (ρ1 : List S), σ1.length = ρ1.length → (∀ i, ρ1[i]? = ρ'[j + i]?) → (∀ (i : Nat) v, vs[i]? = some v → j + i ∈ J → σ1[i]? = some (some v)) → Wk (σ1.zip ρ1) (zs vs (outsF J ρ' j vs.length))
  | [], j, _, _, _, _, _ => .nil
  | v :: vs, j, [], [], _, e, k => by
    show Wk [] ((some v, _) :: zs vs (outsF J ρ' (j + 1) vs.length))
    have e0 := e 0
    have hg : (if j ∈ J then ρ'[j]?.getD .gone else .gone) = S.gone := by
      split
      · rw [Nat.add_zero] at e0
        rw [← e0]
        rfl
      · rfl
    rw [hg]
    refine .gone0 (wk_outs vs (j + 1) [] [] rfl (fun i => by have := e (i + 1); simpa [Nat.add_assoc, Nat.add_comm 1] using this) fun i w e1 e2 => ?_)
    have := k (i + 1) w (by simpa using e1) (by rw [Nat.add_comm i 1, ← Nat.add_assoc]; exact e2)
    simp at this
  | v :: vs, j, o :: σ1, s :: ρ1, l, e, k => by
    show Wk ((o, s) :: σ1.zip ρ1) ((some v, _) :: zs vs (outsF J ρ' (j + 1) vs.length))
    have ih := wk_outs (J := J) vs (j + 1) σ1 ρ1 (by simpa using l) (fun i => by have := e (i + 1); simpa [Nat.add_assoc, Nat.add_comm 1] using this) fun i w e1 e2 => by
      have := k (i + 1) w (by simpa using e1) (by rw [Nat.add_comm i 1, ← Nat.add_assoc]; exact e2)
      simpa using this
    have e0 : some s = ρ'[j]? := by simpa using e 0
    by_cases hj : j ∈ J
    · rw [if_pos hj, ← e0]
      have k0 : some o = some (some v) := k 0 v rfl hj
      cases k0
      exact .keep ih
    · rw [if_neg hj]
      exact .gone ih
  | _ :: _, _, [], _ :: _, l, _, _ => by simp at l
  | _ :: _, _, _ :: _, [], l, _, _ => by simp at l
theorem frame_out {vs : List V} {Nn : List Str} {J : List Nat} {A : Stk} (h0 : Hs G N H σ ρ st') (h : Hs G ⟨J, start Nn vs⟩ H' σ' ρ' (A ++ (st ++ σ.zip ρ))) : Hs G N H' σ ρ (A ++ (zs vs (outsF J ρ' 0 vs.length) ++ st)) := by
  obtain ⟨F, fp, sb, r, n⟩ := h.ex
  have w : Wk (σ'.zip ρ') (zs vs (outsF J ρ' 0 vs.length)) := by
    refine wk_outs vs 0 σ' ρ' h.len (fun i => by rw [Nat.zero_add]) fun i v e1 e2 => ?_
    rw [Nat.zero_add] at e2
    have := h.pin i e2
    rw [this]
    have hi := (List.getElem?_eq_some_iff.mp e1).1
    show (start Nn vs)[i]? = _
    unfold L2.start
    rw [List.getElem?_append_left (by simpa using hi), List.getElem?_map, e1]
    rfl
  obtain ⟨a, b, e, r1, r2⟩ := (RL.app _ _ _).mp r
  obtain ⟨b', r3, s⟩ := RL.wk w r2
  have r4 : RL G F H' (A ++ (st ++ σ.zip ρ) ++ zs vs (outsF J ρ' 0 vs.length)) (a ++ b') := (RL.app _ _ _).mpr ⟨a, b', rfl, r1, r3⟩
  have n4 : (a ++ b').Nodup := by
    rw [e] at n
    exact n.sublist (s.append_left a)
  have p : (A ++ (st ++ σ.zip ρ) ++ zs vs (outsF J ρ' 0 vs.length)).Perm ((A ++ (zs vs (outsF J ρ' 0 vs.length) ++ st)) ++ σ.zip ρ) := by
    generalize zs vs (outsF J ρ' 0 vs.length) = Z
    rw [List.append_assoc, List.append_assoc, List.append_assoc A, List.append_assoc Z]
    refine List.Perm.append_left A ?_
    rw [← List.append_assoc]
    exact List.perm_append_comm
  obtain ⟨f2, r5, q⟩ := RL.perm p _ r4
  exact ⟨h0.len, ⟨F, f2, sb, r5, (q.nodup_iff).mpr n4⟩, h.tb, h0.pin⟩
theorem outs_of {J : List Nat} {np : Nat} {xs : List S} {vs : List V} (l : vs.length = xs.length) (hx : xs.length = np) : outsF J ρ 0 np = outsF J ρ 0 vs.length := by rw [l, hx]
/-- THE RULE for a def of the text -/
theorem fn_own {P : Program} {w : World} {K : PySem.W.Frag} {mg : Str → Option Value} {base : Heap} {x qual : Str} {stm : Stmt} {f : Addr} {fd : FuncData} {Nn ps : List Str} {k : Nat} {J : List Nat} {g : B} (F : Fun K x qual stm f fd) (S0 : FnScope Nn ps (defScope stm))
    (hb : ∀ (cdv : Value) (A : Around) (outer : List Env) (s : Shared) (H : Hp) (s0 : L2.St) (E : XK), Room k (A.deeper (envOfC qual (defScope stm) s.heap.objs.size f cdv)) →
      BX G ⟨J, s0⟩ (cxOf (L2.CX P w) P w K mg base Nn qual (defScope stm) f cdv A outer s H E) (fun cls d _ H => E cls d H) (defBody stm) g) :
    FnOk P w K mg base (L2.CX P w) (k + 1) f fd ps (spD G (fnOp ps.length Nn.length J g)) := by
  refine F.okX S0 (fun vs H Q E h => ?_) (fun cdv A outer s H vs Q E hr h => ?_)
  · obtain ⟨N, σ, ρ, st, xs, l, hs, p⟩ := h
    rw [l]
    unfold fnOp at p
    by_cases hx : xs.length = ps.length
    · exact hx
    · rw [if_neg hx] at p
      exact p.elim
  · obtain ⟨N, σ, ρ, st, xs, l, hs, p⟩ := h
    unfold fnOp at p
    by_cases hx : xs.length = ps.length
    · rw [if_pos hx] at p
      refine ⟨_, pss_sem, ?_⟩
      have h1 := frame_in (Nn := Nn) (J := J) l hs
      refine hb cdv A outer s H (start Nn vs) E hr _ _ _ _ _ h1 ?_
      rw [hx]
      cases hg : g (xs ++ List.replicate (Nn.length - ps.length) .gone) with
      | nx ρ1 =>
        rw [hg] at p
        intro σ1 H1 h2
        refine p.2 .non H1 ?_
        rw [outs_of l hx]
        exact frame_out (A := [(some .non, .d .non)]) hs (h2.new fun _ => rfl)
      | rt s1 ρ1 =>
        rw [hg] at p
        intro v σ1 H1 h2
        refine p.2 v H1 ?_
        rw [outs_of l hx]
        exact frame_out (A := [(some v, s1)]) hs h2
      | exc c q ρ1 =>
        rw [hg] at p
        intro cls d σ1 H1 ex h2
        refine p.2 cls d H1 ex ?_
        rw [outs_of l hx]
        exact frame_out (A := []) hs h2
      | bk ρ1 =>
        rw [hg] at p
        exact p.elim
      | ct ρ1 =>
        rw [hg] at p
        exact p.elim
      | stuck =>
        rw [hg] at p
        exact p.elim
    · rw [if_neg hx] at p
      exact p.elim
end
end DL
/-! the data layer: stores -/
namespace DL
open PySem PySem.Spec PyProof.Rows L2
/-- what a class of the text must have -/
structure COk (K : PySem.W.Frag) (G : Gx) (c : Nat) : Prop where
  cls : Cls K (G.cl c)
  no : ∀ f ∈ G.fn c, NoAttr K (G.cl c) f
  nd : (G.fn c).Nodup
  few : (G.fn c).length < 1000
theorem putF_set : ∀ {ns : List Str} {vs : List V} {k : Nat} {f : Str} {v : V}, ns.Nodup → ns[k]? = some f → k < vs.length → putF f v (ns.zip vs) = ns.zip (vs.set k v)
  | [], _, _, _, _, _, h, _ => by simp at h
  | n :: ns, [], _, _, _, _, _, h => by simp at h
  | n :: ns, w :: vs, 0, f, v, _, h, _ => by
    have e : n = f := Option.some.inj h
    subst e
    exact if_pos rfl
  | n :: ns, w :: vs, k + 1, f, v, nd, h, l => by
    have h' : ns[k]? = some f := by simpa using h
    have ne : ¬ n = f := fun e => (List.nodup_cons.mp nd).1 (by rw [e]; exact List.mem_of_getElem? h')
    show (if n = f then _ else (n, w) :: putF f v (ns.zip vs)) = (n, w) :: ns.zip (vs.set k v)
    rw [if_neg ne, putF_set (List.nodup_cons.mp nd).2 h' (by simpa using l)]
theorem putF_app : ∀ {ns : List Str} {vs : List V} {f : Str} {v : V}, ns.Nodup → ns[vs.length]? = some f → putF f v (ns.zip vs) = ns.zip (vs ++ [v])
  | [], _, _, _, _, h => by simp at h
  | n :: ns, [], f, v, _, h => by
    have e : n = f := Option.some.inj h
    subst e
    cases ns <;> rfl
  | n :: ns, w :: vs, f, v, nd, h => by
    have h' : ns[vs.length]? = some f := by simpa using h
    have ne : ¬ n = f := fun e => (List.nodup_cons.mp nd).1 (by rw [e]; exact List.mem_of_getElem? h')
    show (if n = f then _ else (n, w) :: putF f v (ns.zip vs)) = (n, w) :: ns.zip (vs ++ [v])
    rw [if_neg ne, putF_app (List.nodup_cons.mp nd).2 h']
theorem zip_take_len {ns : List Str} {vs : List V} (h : vs.length ≤ ns.length) : (ns.zip vs).length = vs.length := by
  rw [List.length_zip]
  omega
/-- the c-th class's k-th field of an owned object is stored -/
def setF (fs : List S) (k : Nat) (s : S) : Option (List S) := if k < fs.length then some (fs.set k s) else if k = fs.length then some (fs ++ [s]) else none
def bFld (i c k : Nat) (f : M S) : B := bdo f fun s ρ => match ρ[i]? with
  | some (.o c' fs) => if c' = c then (match setF fs k s with
    | some fs' => .nx (ρ.set i (.o c fs'))
    | none => .stuck) else .stuck
  | _ => .stuck
section
variable {G : Gx} {N N' : Pn} {X : Cx} {W : WX} {H H' : Hp} {σ σ' : L2.St} {ρ ρ' : List S} {st st' : Stk} {e a b c : Expr} {es rest : List Expr} {f fa fb fc : M S} {t u : M Bool} {as : List Arg} {pos : Pos} {s : Stmt} {ss : List Stmt} {g h : B}
theorem RFl.set {F : Hp} : ∀ {xs : List S} {os : List (Option V)} {fp : List Addr} {k : Nat} {s : S} {o : Option V} {fq : List Addr}, RFl G F H xs os fp → k < xs.length → RF G F H s o fq → ∃ fp' d, RFl G F H (xs.set k s) (os.set k o) fp' ∧ (fp' ++ d).Perm (fp ++ fq)
  | [], _, _, _, _, _, _, _, h, _ => by simp at h
  | x :: xs, _, _, 0, s, o, fq, ⟨o', os', a, b, e1, e2, q1, q2⟩, _, q => by
    subst e1 e2
    refine ⟨fq ++ b, a, ⟨o, os', fq, b, rfl, rfl, q, q2⟩, ?_⟩
    refine List.perm_append_comm.trans ?_
    rw [List.append_assoc]
    exact List.Perm.append_left a List.perm_append_comm
  | x :: xs, _, _, k + 1, s, o, fq, ⟨o', os', a, b, e1, e2, q1, q2⟩, l, q => by
    subst e1 e2
    obtain ⟨fp', d, r, p⟩ := RFl.set q2 (by simpa using l) q
    refine ⟨a ++ fp', d, ⟨o', _, a, fp', rfl, rfl, q1, r⟩, ?_⟩
    rw [List.append_assoc, List.append_assoc]
    exact List.Perm.append_left a p
/-- a field of an owned object stored -/
theorem Hs.setF {c k : Nat} {x : Str} {o : Option V} {y : V} {s : S} {fs fs' : List S} (C : COk X.K G c) (ex : (G.fn c)[k]? = some x) (e : DL.setF fs k s = some fs') (h : Hs G N H σ ρ ((o, .o c fs) :: (some y, s) :: st)) :
    ∃ a dx vs, o = some (.ref a) ∧ H a = some (.ins (G.cl c) dx vs) ∧ vs.length < 1000 ∧ Hs G N (upd H a (.ins (G.cl c) dx (putF x y vs))) σ ρ ((o, .o c fs') :: st) := by
  obtain ⟨F, fp, sb, ⟨a1, b1, ef1, ⟨a, dx, vs, r0, ev, er, e3, e4, lv, q1⟩, a2, b2, ef2, q2, r⟩, n⟩ := h.ex
  subst ef1 ef2 er
  have lf := RFl.len q1
  rw [List.length_map] at lf
  have fin : ∀ (vs' : List V) (fp' d : List Addr), putF x y ((G.fn c).zip vs) = (G.fn c).zip vs' → vs'.length ≤ (G.fn c).length → RFl G F H fs' (vs'.map some) fp' → (fp' ++ d).Perm (r0 ++ a2) → Hs G N (upd H a (.ins (G.cl c) dx (putF x y ((G.fn c).zip vs)))) σ ρ ((o, .o c fs') :: st) := fun vs' fp' d ep lv' q' pp => by
    have n2 : ((a :: (fp' ++ d)) ++ b2).Nodup := by
      have p1 : ((a :: (fp' ++ d)) ++ b2).Perm (a :: r0 ++ (a2 ++ b2)) := by
        have p2 := (pp.cons a).append_right b2
        refine p2.trans ?_
        rw [List.cons_append, List.cons_append, List.append_assoc]
      exact (p1.nodup_iff).mpr n
    have hd := List.nodup_append.mp n2
    have na : ∀ b ∈ fp', b ≠ a := fun b hb z => by
      have := (List.nodup_cons.mp hd.1).1
      exact this (List.mem_append_left _ (by rw [← z]; exact hb))
    have nb : a ∉ b2 := fun hm => hd.2.2 a (by simp) a hm rfl
    have ow := RFl.own _ _ fp' q'
    refine ⟨h.len, ⟨F, (a :: fp') ++ b2, sub_upd sb e4, ⟨a :: fp', b2, rfl, ⟨a, dx, vs', fp', ev, rfl, by rw [upd_same, ep], e4, lv', ?_⟩, RL.keep (Le.refl F) _ b2 r (fr_upd r nb)⟩, ?_⟩, tabs_upd h.tb e3 trivial, h.pin⟩
    · exact RFl.keep (Le.refl F) _ _ fp' q' fun b hb => ⟨upd_ne (na b hb), (ow b hb).1⟩
    · refine n2.sublist ?_
      exact (List.sublist_append_left _ _).cons_cons a |>.append_right b2
  refine ⟨a, dx, _, ev, e3, ?_, ?_⟩
  · rw [zip_take_len lv]
    exact Nat.lt_of_le_of_lt lv C.few
  · unfold DL.setF at e
    split at e
    · rename_i hk
      cases e
      obtain ⟨fp', d, q', pp⟩ := RFl.set q1 hk q2
      have e5 : (vs.map some).set k (some y) = (vs.set k y).map some := by rw [List.map_set]
      rw [e5] at q'
      exact fin (vs.set k y) fp' d (putF_set C.nd ex (by rw [lf]; exact hk)) (by rw [List.length_set]; exact lv) q' pp
    · split at e
      · rename_i hk
        cases e
        subst hk
        have q' := RFl.app q1 q2
        have e5 : vs.map some ++ [some y] = (vs ++ [y]).map some := by simp
        rw [e5] at q'
        refine fin (vs ++ [y]) (r0 ++ a2) [] (putF_app C.nd (by rw [lf]; exact ex)) ?_ q' (by simp)
        rw [List.length_append, lf]
        have := (List.getElem?_eq_some_iff.mp ex).1
        simp
        omega
      · cases e
theorem sx_fld (i c k : Nat) {x y : Str} {p p' : Pos} (hK : X.K = G.K) (C : COk X.K G c) (ex : (G.fn c)[k]? = some x) (he : EX G N X W e f) (hN : X.N[i]? = some y := by rfl) (hv : Vis X.env.scope y := by first | exact Or.inl rfl | exact Or.inr (Or.inl rfl) | exact Or.inr (Or.inr rfl)) (hd : (y == ("__debug__" : Str)) = false := by decide)
    (hcd : (y == ("__classdict__" : Str)) = false := by decide) (hs : swapsWith e (some (.Attribute (.Name y p) x p')) pos.line X.env = pure false := by rfl) : SX G N X W (.Assign [.Attribute (.Name y p) x p'] e pos) (bFld i c k f) := fun σ ρ st H D h pp =>
  sS_of (ps_fld (pe_var hN hv hd hcd) pe_sem hs) (he.bdo h pp fun s ρ1 v H1 h1 p1 => by
    cases ei : ρ1[i]? with
    | none =>
      rw [ei] at p1
      exact p1.elim
    | some s1 =>
      rw [ei] at p1
      cases s1 with
      | o c' fs =>
        simp only at p1
        split at p1
        · rename_i hc
          subst hc
          cases es : DL.setF fs k s with
          | none =>
            rw [es] at p1
            exact p1.elim
          | some fs' =>
            rw [es] at p1
            obtain ⟨o, eo⟩ := h1.get ei
            have h2 := h1.pull ei eo
            obtain ⟨a, dx, vs, ev, e3, hl, h3⟩ := Hs.setF (X := X) C ex es h2
            subst ev
            refine ⟨.ref a, eo, a, _, dx, vs, rfl, e3, C.cls, C.no x (List.mem_of_getElem? ex), hl, ?_⟩
            refine p1 σ _ ?_
            have h4 := h3.put (i := i) (t := .gone) (by simp [(List.getElem?_eq_some_iff.mp ei).1]) eo
            rw [List.set_set] at h4
            exact h4
        · exact p1.elim
      | _ => exact p1.elim)
/-! ### name op= e, ints -/
def bAugI (i : Nat) (op : Int → Int → Int) (f : M S) : B := fun ρ => match ρ[i]? with
  | some (.d (.int n)) => bdo f (fun s => match s with
    | .d (.int m) => bset i (.d (.int (op n m)))
    | _ => fun _ => .stuck) ρ
  | _ => .stuck
theorem sx_augI (i : Nat) {x : Str} {op : Operator} {p' : Pos} {g : Int → Int → Int} (ho : PIp X op (ipI g)) (he : EX G N X W e f) (hj : i ∉ N.J) (hN : X.N.Nodup) (hi : X.N[i]? = some x := by rfl) (hx : Loc X.env.scope x := by first | exact .inl rfl | exact .inr rfl) (hf : X.fn x = true ∨ X.env.scope.names.lookup x = some .local := by first | exact .inl rfl | exact .inr rfl) :
    SX G N X W (.AugAssign (.Name x p') op e pos) (bAugI i g f) := fun σ ρ st H D h pp => by
  unfold bAugI at pp
  split at pp
  · rename_i n en
    obtain ⟨v, ev, h1⟩ := h.copy en
    have e1 := h1.int
    subst e1
    refine sS_of (ps_aug hN hi hx pe_sem ho hf) ⟨.int n, ev, he.bdo h pp fun s ρ1 w H1 h2 p1 => ?_⟩
    split at p1
    · rename_i m
      have e2 := h2.int
      subst e2
      refine ⟨n, m, rfl, rfl, ?_⟩
      unfold bset at p1
      split at p1
      · rename_i hl
        exact p1 _ H1 ((h2.drop.new (v := .int (g n m)) (x := .int (g n m)) fun _ => rfl).assign hl hj)
      · exact p1.elim
    · exact p1.elim
  · exact pp.elim
/-! ### several names at once -/
def setAll : List Nat → List AV → List S → Option (List S)
  | [], [], ρ => some ρ
  | i :: is, .s x :: r, ρ => if i < ρ.length then setAll is r (ρ.set i x) else none
  | _, _, _ => none
def bPar (is : List Nat) (as : List Arg) : B := bdo (mArgs as) fun avs ρ => match setAll is avs ρ with
  | some ρ' => .nx ρ'
  | none => .stuck
theorem setAll_ok : ∀ {is : List Nat} {avs : List AV} {vs : List V} {ρ ρ' : List S} {σ : L2.St}, AVR σ' avs vs → setAll is avs ρ = some ρ' → (∀ i ∈ is, i ∉ N.J) → Hs G N H σ ρ (stkA avs vs ++ st) → vs.length = is.length ∧ Hs G N H ((is.zip vs).foldl (fun σ p => σ.set p.1 (some p.2)) σ) ρ' st
  | [], [], vs, ρ, ρ', σ, r, e, _, h => by
    have e2 : vs = [] := r
    subst e2
    simp only [setAll, Option.some.injEq] at e
    subst e
    exact ⟨rfl, h⟩
  | i :: is, .s x :: avs, _, ρ, ρ', σ, ⟨v, ws, ev, r⟩, e, k, h => by
    subst ev
    unfold setAll at e
    split at e
    · rename_i hl
      have h1 := Hs.assign (st := stkA avs ws ++ st) h hl (k i List.mem_cons_self)
      obtain ⟨l, h2⟩ := setAll_ok r e (fun j hj => k j (List.mem_cons_of_mem _ hj)) h1
      exact ⟨by simp [l], h2⟩
    · cases e
  | [], _ :: _, _, _, _, _, _, e, _, _ => by simp [setAll] at e
  | _ :: _, [], _, _, _, _, _, e, _, _ => by simp [setAll] at e
  | _ :: _, .n _ :: _, _, _, _, _, _, e, _, _ => by simp [setAll] at e
theorem sx_par2 (i j : Nat) {x y : Str} {px py pt : Pos} {kt k2 pt2} (ha : AX G N X W [a, b] as) (hp : PA X [a, b] (sAs X [a, b])) (hc : X.calm = true) (hi' : i ∉ N.J) (hj' : j ∉ N.J) (hN : X.N.Nodup) (hw : swappedStores [.Tuple [.Name x px, .Name y py] kt pt] (.Tuple [a, b] k2 pt2) X.env = pure (some [x, y])) (hi : X.N[i]? = some x := by rfl) (hj : X.N[j]? = some y := by rfl) (hij : i ≠ j := by decide)
    (hx : X.env.scope.names.lookup x = some .local := by rfl) (hy : X.env.scope.names.lookup y = some .local := by rfl) (hs : swapsWithSole [.Tuple [.Name x px, .Name y py] kt pt] (.Tuple [a, b] k2 pt2) pos.line X.env = pure false := by rfl) :
    SX G N X W (.Assign [.Tuple [.Name x px, .Name y py] kt pt] (.Tuple [a, b] k2 pt2) pos) (bPar [i, j] as) := fun σ ρ st H D h pp =>
  sS_of (ps_par hc hN hi hj hij hx hy hp hw hs) (ha.bdo h pp fun avs ρ1 vs H1 r1 h1 p1 => by
    cases es : setAll [i, j] avs ρ1 with
    | none =>
      rw [es] at p1
      exact p1.elim
    | some ρ2 =>
      rw [es] at p1
      obtain ⟨l, h2⟩ := setAll_ok r1 es (fun k hk => by rcases List.mem_cons.mp hk with z | z; rw [z]; exact hi'; have : k = j := by simpa using z
                                                        rw [this]; exact hj') h1
      match vs, l with
      | [v, w], _ => exact ⟨v, w, rfl, p1 _ H1 h2⟩)
theorem sx_par3 (i j l : Nat) {x y z : Str} {c : Expr} {px py pz pt : Pos} {kt k2 pt2} (ha : AX G N X W [a, b, c] as) (hp : PA X [a, b, c] (sAs X [a, b, c])) (hc : X.calm = true) (hi' : i ∉ N.J) (hj' : j ∉ N.J) (hl' : l ∉ N.J) (hN : X.N.Nodup) (hw : swappedStores [.Tuple [.Name x px, .Name y py, .Name z pz] kt pt] (.Tuple [a, b, c] k2 pt2) X.env = pure (some [x, y, z])) (hi : X.N[i]? = some x := by rfl) (hj : X.N[j]? = some y := by rfl) (hl : X.N[l]? = some z := by rfl) (hij : i ≠ j := by decide) (hil : i ≠ l := by decide) (hjl : j ≠ l := by decide)
    (hx : X.env.scope.names.lookup x = some .local := by rfl) (hy : X.env.scope.names.lookup y = some .local := by rfl) (hz : X.env.scope.names.lookup z = some .local := by rfl) (hs : swapsWithSole [.Tuple [.Name x px, .Name y py, .Name z pz] kt pt] (.Tuple [a, b, c] k2 pt2) pos.line X.env = pure false := by rfl) :
    SX G N X W (.Assign [.Tuple [.Name x px, .Name y py, .Name z pz] kt pt] (.Tuple [a, b, c] k2 pt2) pos) (bPar [i, j, l] as) := fun σ ρ st H D h pp =>
  sS_of (ps_par3 hc hN hi hj hl hij hil hjl hx hy hz hp hw hs) (ha.bdo h pp fun avs ρ1 vs H1 r1 h1 p1 => by
    cases es : setAll [i, j, l] avs ρ1 with
    | none =>
      rw [es] at p1
      exact p1.elim
    | some ρ2 =>
      rw [es] at p1
      obtain ⟨ll, h2⟩ := setAll_ok r1 es (fun k hk => by
        simp only [List.mem_cons, List.not_mem_nil, or_false] at hk
        rcases hk with z | z | z <;> (subst z; assumption)) h1
      match vs, ll with
      | [v, w, u], _ => exact ⟨v, w, u, rfl, p1 _ H1 h2⟩)
/-- names as targets, one after another -/
def gNs : List Nat → TGs
  | [] => gNil
  | i :: r => gCons (gName i) (gNs r)
theorem gNs_run : ∀ {is : List Nat} {vs : List V} {σ : L2.St} {H : Hp} {Q : L2.St → Hp → Prop}, vs.length = is.length → Q ((is.zip vs).foldl (fun σ p => σ.set p.1 (some p.2)) σ) H → gNs is vs σ H Q
  | [], [], _, _, _, _, q => ⟨rfl, q⟩
  | i :: is, v :: vs, σ, H, Q, l, q => ⟨v, vs, rfl, gNs_run (by simpa using l) q⟩
  | [], _ :: _, _, _, _, l, _ => by simp at l
  | _ :: _, [], _, _, _, l, _ => by simp at l
theorem sx_parN (is : List Nat) {tgs : List Expr} {kt k2 : Nat} {pt pt2 : Pos} {n : Nat} (hK : X.K = G.K) (ha : AX G N X W es as) (hp : PA X es (sAs X es)) (hc : X.calm = true) (hJ : ∀ i ∈ is, i ∉ N.J) (hg : PGs X tgs (gNs is)) (hl : is.length = n := by rfl) (hn : (assignEach tgs X.env).length = n := by rfl) (hst : (assignEach tgs X.env).findIdx? (·.1) = none := by rfl) (hsm : n ≤ 1000 := by decide)
    (hs : swapsWithSole [.Tuple tgs kt pt] (.Tuple es k2 pt2) pos.line X.env = pure false := by rfl) (hw : swappedStores [.Tuple tgs kt pt] (.Tuple es k2 pt2) X.env = pure none := by rfl) (h1 : (assignEach [.Tuple tgs kt pt] X.env).map (·.2) = [assign (.Tuple tgs kt pt) X.env] := by rfl) :
    SX G N X W (.Assign [.Tuple tgs kt pt] (.Tuple es k2 pt2) pos) (bPar is as) := fun σ ρ st H D h pp =>
  sS_of (ps_asg (pe_tup hp) (pg_tup hc hg hn hst) hs hw h1) (ha.bdo h pp fun avs ρ1 vs H1 r1 h1 p1 => by
    cases es : setAll is avs ρ1 with
    | none =>
      rw [es] at p1
      exact p1.elim
    | some ρ2 =>
      rw [es] at p1
      obtain ⟨l, _⟩ := setAll_ok r1 es hJ h1
      refine ⟨by rw [l, hl]; exact Nat.le_trans hsm (by decide), fun p hp => ⟨p, vs, rfl, SqT.of upd_same, by rw [l, hl], ?_⟩⟩
      obtain ⟨_, h2⟩ := setAll_ok r1 es hJ (h1.grow (Grow.upd h1.tb hp))
      exact gNs_run l (p1 _ _ h2))
/-! ### o[i] = e -/
def rSet (t : TSet) : L2.St → List V → Hp → VK → Prop := fun _ vs H Q => match vs with
  | [v, o, i] => t o i v H fun H' => Q .non H'
  | _ => False
theorem sx_sub {ts : TSet} {gs : List S → ORes} {o i : Expr} {p : Pos} (hs : PSet X ts) (hg : OpS G N W (rSet ts) gs) (ha : AX G N X W [e, o, i] as)
    (hav : ∀ v, assign (.Subscript o i p) X.env v = (do
      let ov ← holding [v] (eval o X.env)
      let iv ← holding [v, ov] (eval i X.env)
      standAt p
      holding [v, ov, iv] (setItem ov iv v)
      release [v, ov, iv] []) := by intro _; rfl)
    (h1 : swapsWithSole [.Subscript o i p] e pos.line X.env = pure false := by rfl) (hw : swappedStores [.Subscript o i p] e X.env = pure none := by rfl) (h2 : (assignEach [.Subscript o i p] X.env).map (·.2) = [assign (.Subscript o i p) X.env] := by rfl) :
    SX G N X W (.Assign [.Subscript o i p] e pos) (bExp (mOp gs as)) := fun σ ρ st H D h pp => by
  refine sS_of (ps_asg pe_sem (pg_sub pe_sem pe_sem hs hav) h1 hw h2) ?_
  show sAs X [e, o, i] σ H fun vs H1 => rSet ts σ vs H1 fun _ H' => D.nx σ H'
  have key : ∀ avs ρ1 vs H1, AVR σ avs vs → Hs G N H1 σ ρ1 (stkA avs vs ++ st) → fps G N W st D (bdo (mFin gs avs) (fun _ ρ => .nx ρ) ρ1) → rSet ts σ vs H1 fun _ H' => D.nx σ H' := fun avs ρ1 vs H1 r1 h1 p1 => by
    refine fin_ok (r := rSet ts) r1 h1 ?_ hg
    cases hf : mFin gs avs ρ1 with
    | ok s ρ2 =>
      rw [bdo_ok hf] at p1
      exact fun v H2 h2 => p1 σ H2 h2.drop
    | exc c q ρ2 =>
      rw [bdo_exc hf] at p1
      exact fun cls d H2 x h2 => p1 cls d σ H2 x h2
    | stuck =>
      rw [bdo_stuck hf] at p1
      exact p1
  refine ha.bdo (k := fun avs => bdo (mFin gs avs) fun _ ρ => .nx ρ) h ?_ key
  unfold bExp at pp
  cases hm : mArgs as ρ with
  | ok avs ρ1 =>
    rw [bdo_ok hm]
    have e2 : mOp gs as ρ = mFin gs avs ρ1 := mbind_ok hm
    unfold bdo at pp
    rw [e2] at pp
    unfold bdo
    exact pp
  | exc c q ρ1 =>
    have e3 : mOp gs as ρ = .exc c q ρ1 := mbind_exc hm
    rw [bdo_exc e3] at pp
    rw [bdo_exc hm]
    exact pp
  | stuck =>
    have e3 : mOp gs as ρ = .stuck := mbind_stuck hm
    rw [bdo_stuck e3] at pp
    rw [bdo_stuck hm]
    exact pp
end
end DL
/-! the data layer: generator expressions, the frame -/
namespace DL
open PySem PySem.Spec PyProof.Rows L2 GenW
/-- the context of a generator expression's frame ge, over X's -/
def gCx (X : Cx) (A : Around) (Ng : List Str) (s : Shared) (H : Hp) (ge : Env) (fp : List Addr) (pn : List (Addr × Obj)) : Cx where
  prog := X.prog
  w := X.w
  K := X.K
  mg := X.mg
  base := X.base
  A := A
  N := Ng
  s_0 := s
  H_0 := H
  env := ge
  outer := X.stack
  stack := ge :: X.stack
  ex := fp
  fn := fun _ => false
  calm := true
  pn := pn
  xe := fun _ _ => False
/-- the consumer's turn: its own objects at own may change, all else is kept -/
structure Slp (own : List Addr) (s s' : Shared) : Prop where
  os : s'.os = s.os
  bare : AllBare s'.gens
  keep : ∀ b o, b ∉ own → s.heap.get? b = some o → s'.heap.get? b = some o
  own : ∀ b ∈ own, ∃ o, s'.heap.get? b = some o ∧ ∀ v, o.data ≠ .cell v
/-- the pins ps are those of the addresses own -/
def PnOf (own : List Addr) (ps : List (Addr × Obj)) : Prop := (∀ b ∈ own, ∃ o, (b, o) ∈ ps) ∧ ∀ p ∈ ps, p.1 ∈ own
/-- own is out of the frame's reach -/
def OwnOk (X : Cx) (own : List Addr) : Prop := ∀ b ∈ own, (b ∈ X.ex ∨ X.s_0.heap.objs.size ≤ b) ∧ b ≠ X.env.locals ∧ (∀ x c, X.env.cells.lookup x = some c → c ≠ b) ∧ ∀ p ∈ X.pn, p.1 ≠ b
section
variable {X : Cx} {pins ps : List (Addr × Obj)} {σ : L2.St} {H : Hp} {s s' : Shared} {own : List Addr}
theorem Inv.woken (I : Inv X ps σ H s) (hp : PnOf own ps) (hA : OwnOk X own) (z : Slp own s s') : ∃ ps', PnOf own ps' ∧ Inv X ps' σ H s' := by
  have at_ : ∀ b ∈ own, ∃ o, s.heap.get? b = some o ∧ H b = none ∧ b ≠ X.env.locals ∧ b ∉ X.fs := fun b hb => by
    obtain ⟨o, ho⟩ := hp.1 b hb
    obtain ⟨h1, h2, h3, h4, _⟩ := I.pin (b, o) (List.mem_append_right _ ho)
    exact ⟨o, h1, h2, h3, h4⟩
  have I0 : Inv X [] σ H s := I.pins_of fun p hp => by simp at hp
  obtain ⟨hh, g, d, t, o⟩ := s'
  have eo : o = s.os := z.os
  subst eo
  have nt : ∀ b u, H b = some u → b ∉ own := fun b u q hb => by
    obtain ⟨_, _, n, _⟩ := at_ b hb
    rw [n] at q
    cases q
  have J : Inv X [] σ H { s with heap := hh, gens := g, drawn := d, toks := t } := by
    refine I0.step (g' := g) (t' := t) (d' := d) (ch := own) (fun b hb => ?_) (fun b ob _ _ hc q _ => z.keep b ob hc q) (fun b ob _ _ hc q _ => ⟨ob.slots, z.keep b ob hc q⟩) (fun _ _ _ _ n => n)
      (fun b ob hc q => ⟨ob, z.keep b ob hc q⟩) (fun _ _ q => q) (fun _ _ _ q => q) (fun b ps q => ⟨#[], by rw [q]; simp⟩) (fun m hm => ?_) (fun b u q => ?_) z.bare
    · obtain ⟨a1, a2, a3, a4⟩ := hA b hb
      exact ⟨a1, a2, a3, fun p hp => a4 p (by simpa using hp)⟩
    · obtain ⟨ob, es, ep, ho, r⟩ := hm
      exact ⟨ob, es, ep, z.keep _ ob (fun hm => (hA _ hm).2.1 rfl) ho, r⟩
    · refine (I0.hok b u q).stay (fun c v hc y => z.keep c v ?_ y) (fun _ y => y) fun _ _ y => y
      rcases hc with y | y
      · rw [y]
        exact nt b u q
      · exact nt c _ y
  refine ⟨pinsAt own hh, ⟨fun b hb => ?_, fun p hp => (of_pinsAt hp).1⟩, J.pins_of fun p hp => ?_⟩
  · obtain ⟨o, e, _⟩ := z.own b hb
    exact ⟨o, mem_pinsAt hb e⟩
  · obtain ⟨hb, e⟩ := of_pinsAt hp
    obtain ⟨_, _, n, n2, n3⟩ := at_ p.1 hb
    obtain ⟨o, e', d⟩ := z.own p.1 hb
    have e2 : some o = some p.2 := e'.symm.trans e
    cases e2
    exact ⟨e, n, n2, n3, d⟩
theorem FpOk.repin {b : Addr} {ps' : List (Addr × Obj)} (h : FpOk X ps H b) (hp : PnOf own ps) (hp' : PnOf own ps') : FpOk X ps' H b := by
  obtain ⟨h1, h2, h3, h4, h5, h6⟩ := h
  refine ⟨h1, h2, h3, h4, h5, fun p hm => ?_⟩
  rcases List.mem_append.mp hm with z | z
  · exact h6 p (List.mem_append_left _ z)
  · obtain ⟨o, q⟩ := hp.1 _ (hp'.2 p z)
    exact h6 (p.1, o) (List.mem_append_right _ q)
theorem FpOk.nown {b : Addr} (h : FpOk X ps H b) (hp : PnOf own ps) : b ∉ own := fun hb => by
  obtain ⟨o, q⟩ := hp.1 b hb
  exact h.2.2.2.2.2 (b, o) (List.mem_append_right _ q) rfl
end
/-! ### the trace of a walk -/
/-- what is handed out (with the slots behind it) until stp or the end; at the end its slots -/
def trL (stp : S → Bool) (t : Tg) (c : M Bool) (f : M S) : List D → List S → Option (List (S × List S) × Option (List S))
  | [], ρ => some ([], some ρ)
  | x :: xs, ρ => match asgT t (.d x) ρ with
    | none => none
    | some ρ1 => match c ρ1 with
      | .ok false ρ2 => trL stp t c f xs ρ2
      | .ok true ρ2 => match f ρ2 with
        | .ok z ρ3 => if stp z then some ([(z, ρ3)], none) else (trL stp t c f xs ρ3).map fun p => ((z, ρ3) :: p.1, p.2)
        | _ => none
      | _ => none
/-- a value that a consumer may look at -/
def VOk : S → Value → Prop
  | .d (.bl b), v => v = .bool b
  | .d (.int i), v => ∃ t, v = .int i t
  | _, _ => False
def isV : S → Bool
  | .d (.bl _) => true
  | .d (.int _) => true
  | _ => false
/-- the state of the frame, alive -/
def Lv (X : Cx) (G : Gx) (N : Pn) (own : List Addr) (L : Stk) (ρ : List S) (s : Shared) : Prop := ∃ ps σ H, PnOf own ps ∧ Inv X ps σ H s ∧ Hs G N H σ ρ L
/-- .. with the iterator ahead of turn i -/
def Lvi (X : Cx) (G : Gx) (N : Pn) (own : List Addr) (L : Stk) (fp : List Addr) (tn : Nat → Heap → Prop) (i : Nat) (ρ : List S) (s : Shared) : Prop :=
  ∃ ps σ H, PnOf own ps ∧ Inv X ps σ H s ∧ Hs G N H σ ρ L ∧ tn i s.heap ∧ ∀ b ∈ fp, FpOk X ps H b
section
variable {X : Cx} {G : Gx} {N : Pn} {own fp : List Addr} {L : Stk} {tn : Nat → Heap → Prop} {i : Nat} {ρ : List S} {s s' : Shared}
theorem Lvi.lv (h : Lvi X G N own L fp tn i ρ s) : Lv X G N own L ρ s := let ⟨ps, σ, H, a, b, c, _⟩ := h; ⟨ps, σ, H, a, b, c⟩
theorem Lv.woken (h : Lv X G N own L ρ s) (hA : OwnOk X own) (z : Slp own s s') : Lv X G N own L ρ s' := by
  obtain ⟨ps, σ, H, a, I, c⟩ := h
  obtain ⟨ps', a', I'⟩ := Inv.woken I a hA z
  exact ⟨ps', σ, H, a', I', c⟩
theorem Lvi.woken (h : Lvi X G N own L fp tn i ρ s) (hA : OwnOk X own) (z : Slp own s s') (k : ∀ i h h', tn i h → (∀ b ∈ fp, ∀ o, h.get? b = some o → h'.get? b = some o) → tn i h') : Lvi X G N own L fp tn i ρ s' := by
  obtain ⟨ps, σ, H, a, I, c, st, f⟩ := h
  obtain ⟨ps', a', I'⟩ := Inv.woken I a hA z
  exact ⟨ps', σ, H, a', I', c, k _ _ _ st fun b hb o e => z.keep b o (FpOk.nown (f b hb) a) e, fun b hb => FpOk.repin (f b hb) a a'⟩
end
/-! ### the walk -/
/-- the end of the walk: only where the trace tells it -/
def Own0 (own : List Addr) (s₀ s : Shared) : Prop := ∀ b ∈ own, s.heap.get? b = s₀.heap.get? b
def gE (X : Cx) (G : Gx) (N : Pn) (own : List Addr) (L : Stk) (en : Option (List S)) (n : Nat) (s₀ s : Shared) : Prop := n = 0 ∧ Own0 own s₀ s ∧ ∃ ρ, en = some ρ ∧ Lv X G N own L ρ s
def gR (X : Cx) (G : Gx) (N : Pn) (own : List Addr) (L : Stk) (en : Option (List S)) : GenEnd := fun n s₀ r s => r = .ok .next ∧ gE X G N own L en n s₀ s
/-- an item is handed out -/
def gY (X : Cx) (G : Gx) (N : Pn) (own : List Addr) (L : Stk) (tr : List (S × List S)) (en : Option (List S)) : Protocol := fun n s₀ v s kap =>
  Own0 own s₀ s ∧ ∃ x, tr[tr.length - 1 - n]? = some x ∧ n < tr.length ∧ VOk x.1 v ∧ Lv X G N own L x.2 s ∧ ((n ≠ 0 ∨ en ≠ none) → ∀ s', Slp own s s' → kap (.send .none) s')
section
variable {X : Cx} {G : Gx} {N : Pn} {own fp : List Addr} {tn : Nat → Heap → Prop} {elt iter target : Expr} {ifs : List Expr} {scope : Scope} {pos : Pos} {it : Addr} {J : It} {src st : Stk} {items : List D} {stp : S → Bool} {t : Tg} {c : M Bool} {f : M S} {Aw : Around}
  {tr : List (S × List S)} {en : Option (List S)}
theorem Own0.of_pins {X : Cx} {own : List Addr} {s₀ s s' : Shared} {ps : List (Addr × Obj)} {σ σ' : L2.St} {H H' : Hp} (h : Own0 own s₀ s) (hp : PnOf own ps) (I : Inv X ps σ H s) (I' : Inv X ps σ' H' s') : Own0 own s₀ s' := fun b hb => by
  obtain ⟨o, ho⟩ := hp.1 b hb
  have e1 := (I.pin (b, o) (List.mem_append_right _ ho)).1
  have e2 := (I'.pin (b, o) (List.mem_append_right _ ho)).1
  exact (e2.trans e1.symm).trans (h b hb)
theorem vok_of {σ : L2.St} {ρ : List S} {L : Stk} {H : Hp} {z : S} {v : V} {u : Value} (hz : isV z = true) (h : Hs G N H σ ρ ((some v, z) :: L)) (r : RelV v u) : VOk z u := by
  cases z with
  | d x =>
    cases x with
    | bl b =>
      have := h.bl
      subst this
      exact r
    | int i =>
      have := h.int
      subst this
      exact r
    | _ => cases hz
  | _ => cases hz
theorem tr_mem : ∀ {items : List D} {ρ : List S} {p : List (S × List S) × Option (List S)}, trL stp t c f items ρ = some p → p.1.length ≤ items.length
  | [], ρ, p, h => by
    simp only [trL, Option.some.injEq] at h
    subst h
    exact Nat.le_refl _
  | x :: xs, ρ, p, h => by
    unfold trL at h
    split at h
    · cases h
    · split at h
      · have := tr_mem h
        simp
        omega
      · split at h
        · split at h
          · cases h
            simp
          · simp only [Option.map_eq_some_iff] at h
            obtain ⟨q, h1, h2⟩ := h
            subst h2
            have := tr_mem h1
            simpa using this
        · cases h
      · cases h
/-- the loop's code -/
abbrev gLoop (elt target iter : Expr) (ifs : List Expr) (scope : Scope) (pos : Pos) (it : Addr) (ge : Env) : Code := .compLoop (.GeneratorExp elt [⟨target, iter, ifs, 0⟩] scope pos) 0 (.ref it) .none ge
abbrev gStart (elt target iter : Expr) (ifs : List Expr) (scope : Scope) (pos : Pos) (it : Addr) (ge : Env) : Code := .compStart (.GeneratorExp elt [⟨target, iter, ifs, 0⟩] scope pos) 0 (.ref it) .none ge
structure GenOk (X : Cx) (G : Gx) (N : Pn) (own fp : List Addr) (tn : Nat → Heap → Prop) (target : Expr) (it : Addr) (J : It) (src : Stk) (items : List D) : Prop where
  T : Turn X.prog X.w X.K target J fp it tn
  io : IterOk G J src items
  own : OwnOk X own
  calm : X.calm = true
  xe : X.xe = fun _ _ => False
  co : X.env.scope.isCoroutine = false
theorem seg_walk (g : GenOk X G N own fp tn target it J src items) (hover : Aw.over (gLoop elt target iter ifs scope pos it X.env) [] = X.A) (hl : ifs.length ≤ 1)
    (htg : GX G N X target t) (hif : Ifs G N X ifs c) (hel : EX G N X W0 elt f) (hV : ∀ x ∈ tr, isV x.1 = true) :
    ∀ (xs : List D) (i : Nat) (ρ : List S) (tr1 : List (S × List S)) (s₀ s : Shared), items.drop i = xs → i ≤ items.length → trL stp t c f xs ρ = some (tr1, en) → (∃ tr0, tr = tr0 ++ tr1) → Own0 own s₀ s → Lvi X G N own (src ++ st) fp tn i ρ s →
      Seg (model X.prog X.w) Aw (gR X G N own (src ++ st) en) (gY X G N own (src ++ st) tr en) tr1.length s₀ (gLoop elt target iter ifs scope pos it X.env) ((model X.prog X.w).den (gLoop elt target iter ifs scope pos it X.env)) [] s := by
  obtain ⟨Gc, Y, w, k1, k2⟩ := g.io
  have nx : ∀ {α : Type} {t : Sem α} {Q Q' : α → Shared → Prop} {E : Value → Shared → Prop} {s : Shared}, wpAny (model X.prog X.w) X.A t Q X.xe s → (∀ a s, Q a s → Q' a s) → wpAny (model X.prog X.w) X.A t Q' E s := fun h k => by
    rw [g.xe] at h
    exact thnF h k
  intro xs
  induction xs with
  | nil =>
    intro i ρ tr1 s₀ s hd hi he ht hO hL
    simp only [trL, Option.some.injEq, Prod.mk.injEq] at he
    obtain ⟨e1, e2⟩ := he
    subst e1 e2
    have ei : i = items.length := by
      have := congrArg List.length hd
      simp at this
      omega
    subst ei
    obtain ⟨ps, σ, H, hp, I, hs, st1, hf⟩ := hL
    show Seg _ Aw _ _ _ s₀ _ ((compTurn (.GeneratorExp elt [⟨target, iter, ifs, 0⟩] scope pos) 0 (.ref it) .none X.env).onRaise (leaving X.env)) [] s
    rw [compTurn_gen, Sem.onRaise_eq_wrap]
    refine seg_bind_wrap (wpAny_standAt ?_)
    refine seg_bind_wrap ?_
    rw [hover]
    refine thn (g.T.done X rfl rfl rfl g.calm items.length ps s σ H _ I hf st1 (w.stops H (k1 _ _ _ _ _ hs))) fun r s1 ⟨er, I1⟩ => ?_
    subst er
    exact seg_end (.ok .next) ⟨rfl, rfl, hO.of_pins hp I I1, ρ, rfl, ps, σ, H, hp, I1, hs⟩
  | cons x xs ih =>
    intro i ρ tr1 s₀ s hd hi he ht hO hL
    obtain ⟨ps, σ, H, hp, I, hs, st1, hf⟩ := hL
    have hlt : i < items.length := by
      have := congrArg List.length hd
      simp at this
      omega
    have ex : items[i]? = some x := by
      have := congrArg (fun l => l[0]?) hd
      simpa using this
    have hd2 : items.drop (i + 1) = xs := by
      have := congrArg (fun l => l.drop 1) hd
      simpa [List.drop_drop] using this
    unfold trL at he
    cases ea : asgT t (.d x) ρ with
    | none =>
      rw [ea] at he
      cases he
    | some ρ1 =>
    rw [ea] at he
    simp only at he
    show Seg _ Aw _ _ _ s₀ _ ((compTurn (.GeneratorExp elt [⟨target, iter, ifs, 0⟩] scope pos) 0 (.ref it) .none X.env).onRaise (leaving X.env)) [] s
    rw [compTurn_gen, Sem.onRaise_eq_wrap]
    refine seg_bind_wrap (wpAny_standAt ?_)
    refine seg_bind_wrap ?_
    rw [hover]
    refine thn (g.T.item X rfl rfl rfl g.calm i ps s σ H _ I hf st1 (w.goes i H hlt (k1 _ _ _ _ _ hs))) fun r s1 ⟨u, er, h1⟩ => ?_
    subst er
    show Seg _ Aw _ _ _ s₀ _ ((letOwnedTupleGo target (.ref it) u >>= _).wrap _ _ _ _) [] s1
    refine seg_bind_wrap ?_
    rw [hover]
    refine thn h1 fun _ s2 ⟨xv, H2, I2, r2, y2, st2, fr2⟩ => ?_
    obtain ⟨d, ed, hs2⟩ := k2 N σ ρ st i xv H H2 hlt hs (w.yields i H xv H2 hlt (k1 _ _ _ _ _ hs) y2)
    rw [ex] at ed
    cases ed
    have hf2 : ∀ b ∈ fp, FpOk X ps H2 b := fun b hb => ⟨fr2 b hb, (hf b hb).2⟩
    have I2' := I2.pinned hf2 (g.T.obj _ _ st2)
    have back : ∀ {σ3 : L2.St} {H3 : Hp} {s3 : Shared}, Inv X (ps ++ pinsAt fp s2.heap) σ3 H3 s3 → Inv X ps σ3 H3 s3 ∧ tn (i + 1) s3.heap ∧ ∀ b ∈ fp, FpOk X ps H3 b := fun {σ3 H3 s3} I3 => by
      refine ⟨I3.unpinned, g.T.keep _ _ _ st2 fun b hb o e => (I3.pin (b, o) (List.mem_append_right _ (List.mem_append_right _ (mem_pinsAt hb e)))).1, fun b hb => ?_⟩
      obtain ⟨o, e, _⟩ := g.T.obj _ _ st2 b hb
      exact ⟨(I3.pin (b, o) (List.mem_append_right _ (List.mem_append_right _ (mem_pinsAt hb e)))).2.1, (hf b hb).2⟩
    refine seg_bind_wrap ?_
    rw [hover]
    refine nx (htg σ ρ ρ1 (src ++ st) H2 xv (.d x) (fun σ3 H3 => Hs G N H3 σ3 ρ1 (src ++ st)) hs2 ea (fun σ3 H3 h3 => h3) _ s2 u I2' r2) fun _ s3 ⟨σ3, H3, I3, hs3⟩ => ?_
    refine seg_bind_wrap ?_
    rw [hover]
    cases ec : c ρ1 with
    | exc a b r =>
      rw [ec] at he
      cases he
    | stuck =>
      rw [ec] at he
      cases he
    | ok b ρ2 =>
    rw [ec] at he
    refine nx ((pts_sem hl).run _ s3 σ3 H3 (fun b' H4 => b' = b ∧ Hs G N H4 σ3 ρ2 (src ++ st)) I3 (ifs_run hif hs3 ec fun H4 h4 => ⟨rfl, h4⟩)) fun b' s4 ⟨H4, I4, eb, hs4⟩ => ?_
    subst eb
    cases b' with
    | false =>
      simp only [Bool.false_eq_true, if_false]
      obtain ⟨J4, st4, f4⟩ := back I4
      exact seg_again rfl (ih (i + 1) ρ2 tr1 s₀ s4 hd2 hlt he ht (hO.of_pins hp I J4) ⟨ps, σ3, H4, hp, J4, hs4, st4, f4⟩)
    | true =>
      simp only [if_true]
      simp only at he
      cases ef : f ρ2 with
      | exc a b r =>
        rw [ef] at he
        cases he
      | stuck =>
        rw [ef] at he
        cases he
      | ok z ρ3 =>
      rw [ef] at he
      simp only at he
      have hy : ∀ v, yieldOut X.env v = yieldValue v := fun v => by simp only [yieldOut, g.co, Bool.false_eq_true, if_false]
      simp only [hy]
      rw [Sem.bind_eq_wrap', Sem.bind_eq_wrap', Sem.wrap_wrap, Sem.wrap_wrap]
      refine seg_wrap ?_
      rw [hover]
      have hE := hel σ3 ρ2 (src ++ st) H4 (fun v H5 => Hs G N H5 σ3 ρ3 ((some v, z) :: (src ++ st))) hs4 (by
        rw [ef]
        exact fun v H' h' => h')
      refine nx (hE _ s4 I4) fun y s5 ⟨v5, H5, I5, r5, hs5⟩ => ?_
      obtain ⟨J5, st5, f5⟩ := back I5
      have hL5 : Lvi X G N own (src ++ st) fp tn (i + 1) ρ3 s5 := ⟨ps, σ3, H5, hp, J5, hs5.drop, st5, f5⟩
      obtain ⟨tr0, et⟩ := ht
      have ml : ∀ {tr2 : List (S × List S)}, tr1 = (z, ρ3) :: tr2 → tr[tr.length - 1 - tr2.length]? = some (z, ρ3) ∧ tr2.length < tr.length := fun {tr2} e1 => by
        rw [et, e1, List.length_append, List.length_cons]
        have : tr0.length + (tr2.length + 1) - 1 - tr2.length = tr0.length := by omega
        rw [this, List.getElem?_append_right (Nat.le_refl _), Nat.sub_self]
        exact ⟨rfl, by omega⟩
      by_cases hz : stp z = true
      · rw [if_pos hz] at he
        cases he
        obtain ⟨m1, m2⟩ := ml rfl
        exact seg_at (seg_yield rfl rfl rfl ⟨hO.of_pins hp I J5, (z, ρ3), m1, m2, vok_of (hV _ (List.mem_of_getElem? m1)) hs5 r5, hL5.lv, fun hn => by
          rcases hn with q | q
          · exact absurd rfl q
          · exact absurd rfl q⟩)
      · rw [if_neg hz] at he
        simp only [Option.map_eq_some_iff] at he
        obtain ⟨q, e1, e2⟩ := he
        cases e2
        obtain ⟨m1, m2⟩ := ml rfl
        rw [List.length_cons]
        refine seg_at (seg_yield rfl rfl rfl ⟨hO.of_pins hp I J5, (z, ρ3), m1, m2, vok_of (hV _ (List.mem_of_getElem? m1)) hs5 r5, hL5.lv, fun hn s' z' => ?_⟩)
        exact seg_again rfl (ih (i + 1) ρ3 q.1 s' s' hd2 hlt e1 ⟨tr0 ++ [(z, ρ3)], by rw [et]; simp⟩ (fun _ _ => rfl) (hL5.woken g.own z' g.T.keep))
theorem seg_begin (g : GenOk X G N own fp tn target it J src items) (hover : Aw.over (gLoop elt target iter ifs scope pos it X.env) [] = X.A) (hl : ifs.length ≤ 1)
    (htg : GX G N X target t) (hif : Ifs G N X ifs c) (hel : EX G N X W0 elt f) (hV : ∀ x ∈ tr, isV x.1 = true) {ρ : List S} {s : Shared} (he : trL stp t c f items ρ = some (tr, en)) (hL : Lvi X G N own (src ++ st) fp tn 0 ρ s) :
      Seg (model X.prog X.w) Aw (gR X G N own (src ++ st) en) (gY X G N own (src ++ st) tr en) tr.length s (gStart elt target iter ifs scope pos it X.env) ((model X.prog X.w).den (gStart elt target iter ifs scope pos it X.env)) [] s := by
  have loop := seg_walk (iter := iter) (scope := scope) (pos := pos) g hover hl htg hif hel hV items 0 ρ tr s s rfl (Nat.zero_le _) he ⟨[], rfl⟩ (fun _ _ => rfl) hL
  show Seg _ Aw _ _ _ s _ ((compStart (.GeneratorExp elt [⟨target, iter, ifs, 0⟩] scope pos) 0 (.ref it) .none X.env).onRaise (leaving X.env)) [] s
  unfold compStart
  rw [Sem.onRaise_eq_wrap]
  show Seg _ Aw _ _ _ s _ ((ask >>= _).wrap _ _ _ _) [] s
  refine seg_bind_wrap (wpAny_askSetting ?_)
  obtain ⟨ps, σ, H, hp, I, hs, st1, hf⟩ := hL
  split
  · exact seg_again rfl loop
  · first
      | exact seg_bind_wrap (wpAny_rule (seg_bind_wrap (wpAny_standAt (seg_bind_wrap (g.T.self _ 0 s _ _ st1 (seg_again rfl loop))))))
      | (refine seg_bind_wrap (wpAny_rule ?_)
         show Seg _ Aw _ _ _ s _ ((standAt iter.pos >>= _).wrap _ _ _ _) [] s
         exact seg_bind_wrap (wpAny_standAt (seg_bind_wrap (g.T.self _ 0 s _ _ st1 (seg_again rfl loop)))))
/-! ### the generator, seen from its consumer -/
/-- j items are out -/
def gSt (X : Cx) (G : Gx) (N : Pn) (own : List Addr) (L : Stk) (tr : List (S × List S)) (en : Option (List S)) (A : Around) (n : Nat) (j : Nat) (s : Shared) : Prop :=
  AllBare s.gens ∧ (∀ x, j ≠ 0 → tr[j - 1]? = some x → Lv X G N own L x.2 s) ∧ s.heap.NoLimit ∧ ∃ gs, s.gens[n]? = some gs ∧ ((j < tr.length ∨ en ≠ none) → ∀ s', Slp own s s' → gs.Goes (model X.prog X.w) A.in1 (gR X G N own L en) (gY X G N own L tr en) (tr.length - j) (.send .none) s')
theorem Lv.bare {L : Stk} {ρ : List S} {s : Shared} (h : Lv X G N own L ρ s) : AllBare s.gens := let ⟨_, _, _, _, I, _⟩ := h; I.bare
theorem Lv.nolimit {L : Stk} {ρ : List S} {s : Shared} (h : Lv X G N own L ρ s) : s.heap.NoLimit := let ⟨_, _, _, _, I, _⟩ := h; I.nolimit
theorem Slp.of {L : Stk} {ρ : List S} {s s' : Shared} (h : Lv X G N own L ρ s) (ho : s'.os = s.os) (hb : AllBare s'.gens) (hk : ∀ b o, s.heap.get? b = some o → s'.heap.get? b = some o) : Slp own s s' := by
  obtain ⟨ps, σ, H, hp, I, _⟩ := h
  refine ⟨ho, hb, fun b o _ e => hk b o e, fun b hb => ?_⟩
  obtain ⟨o, q⟩ := hp.1 b hb
  obtain ⟨e, _, _, _, d⟩ := I.pin (b, o) (List.mem_append_right _ q)
  exact ⟨o, hk _ _ e, d⟩
theorem gen_item {A : Around} {L : Stk} {a : Addr} {n j : Nat} {s : Shared} {Q : Option Value → Shared → Prop} {E : Value → Shared → Prop} {x : S × List S} (hA : OwnOk X own) (hh : A.handled = none) (hroom : A.depth < recursionLimit) (hg : s.heap.IsGen a n) (hj : tr[j]? = some x)
    (h : gSt X G N own L tr en A n j s) (hown : ∀ b ∈ own, ∃ o, s.heap.get? b = some o ∧ ∀ v, o.data ≠ .cell v)
    (hQ : ∀ v s', VOk x.1 v → gSt X G N own L tr en A n (j + 1) s' → Own0 own s s' → Q (some v) s') : wpAny (model X.prog X.w) A (pyNext (.ref a)) Q E s := by
  obtain ⟨hb, _, hl, gs, hgs, hgo⟩ := h
  have hlt : j < tr.length := (List.getElem?_eq_some_iff.mp hj).1
  have hn : n < s.gens.size := (Array.getElem?_eq_some_iff.mp hgs).1
  obtain ⟨m, hm⟩ : ∃ m, tr.length - j = m + 1 := ⟨tr.length - j - 1, by omega⟩
  have go0 := hgo (.inl hlt) (s.setGen n .running) ⟨rfl, allBare_setGen hb rfl, fun _ _ _ e => e, hown⟩
  rw [hm] at go0
  refine wpAny_gsz (n := n + 1) hn ?_
  refine wpAny_pyNext_genexpQ (P := fun k s₀ s₁ => gE X G N own L en k s₀ s₁) hh hl hroom hg hgs go0 (fun v s₁ gs' hbr hv hsz => ?_) (fun s₁ hp h' hk hsz => ?_)
  · obtain ⟨hO, y, hy, hlt2, hv2, hL, hkap⟩ := hv
    have ej : tr.length - 1 - (m + 1 - 1) = j := by omega
    rw [ej, hj] at hy
    cases hy
    have hn1 : n < s₁.gens.size := by
      have : (s₁.setGen n gs').gens.size = s₁.gens.size := setGen_size s₁ n gs'
      omega
    have z : Slp own s₁ (s₁.setGen n gs') := Slp.of hL rfl (allBare_setGen hL.bare hbr) fun _ _ e => e
    refine hQ v _ hv2 ⟨allBare_setGen hL.bare hbr, fun y _ hy => ?_, hL.nolimit, gs', setGen_at hn1, fun hor s' z' => ?_⟩ hO
    · rw [Nat.add_sub_cancel, hj] at hy
      cases hy
      exact hL.woken hA z
    · have e2 : tr.length - (j + 1) = m := by omega
      rw [e2]
      refine hkap ?_ s' ⟨z'.os, z'.bare, z'.keep, z'.own⟩
      rcases hor with q | q
      · exact .inl (by omega)
      · exact .inr q
  · exact absurd hp.1 (Nat.succ_ne_zero m)
theorem gen_done {A : Around} {L : Stk} {a : Addr} {n : Nat} {s : Shared} {Q : Option Value → Shared → Prop} {E : Value → Shared → Prop} {ρ : List S} (hA : OwnOk X own) (hh : A.handled = none) (hroom : A.depth < recursionLimit) (hg : s.heap.IsGen a n)
    (h : gSt X G N own L tr (some ρ) A n tr.length s) (hown : ∀ b ∈ own, ∃ o, s.heap.get? b = some o ∧ ∀ v, o.data ≠ .cell v)
    (hQ : ∀ s', Lv X G N own L ρ s' → Q none s') : wpAny (model X.prog X.w) A (pyNext (.ref a)) Q E s := by
  obtain ⟨hb, _, hl, gs, hgs, hgo⟩ := h
  have go0 := hgo (.inr (by simp)) (s.setGen n .running) ⟨rfl, allBare_setGen hb rfl, fun _ _ _ e => e, hown⟩
  rw [Nat.sub_self] at go0
  refine wpAny_pyNext_genexpQ (P := fun k s₀ s₁ => gE X G N own L (some ρ) k s₀ s₁) hh hl hroom hg hgs go0 (fun v s₁ gs' hbr hv => ?_) (fun s₁ hp h' hk => ?_)
  · obtain ⟨_, y, _, hlt2, _, _, hkap⟩ := hv
    exact (hkap (.inr (by simp)) s₁ (Slp.of ‹_› rfl (Lv.bare ‹_›) fun _ _ e => e)).elim
  · obtain ⟨_, _, ρ', e, hL⟩ := hp
    cases e
    exact hQ _ (hL.woken hA (Slp.of hL rfl (allBare_setGen hL.bare rfl) hk))
end
end DL
/-! the data layer: generator expressions, made and consumed -/
namespace DL
open PySem PySem.Spec PyProof.Rows L2 GenW
def endR (tr : List (S × List S)) (en : Option (List S)) : Option (List S) := match en with
  | some ρ => some ρ
  | none => tr.getLast?.map (·.2)
section
variable {X : Cx} {G : Gx} {N : Pn} {L : Stk} {tr : List (S × List S)} {en : Option (List S)} {A : Around} {a : Addr} {n : Nat} {R : Result → Shared → Prop}
theorem ownOk0 : OwnOk X [] := fun b hb => by simp at hb
theorem own0 {s : Shared} : ∀ b ∈ ([] : List Addr), ∃ o, s.heap.get? b = some o ∧ ∀ v, o.data ≠ .cell v := fun b hb => by simp at hb
/-- what any or all sees: qv ends the walk -/
def Quits (qv : Bool) (tr : List (S × List S)) (en : Option (List S)) : Prop := (en = none → tr ≠ []) ∧ ∀ (j : Nat) (x : S × List S), tr[j]? = some x → x.1 = .d (.bl (if en.isNone && j + 1 == tr.length then qv else !qv))
theorem any_walk (hh : A.handled = none) (hroom : A.in1.depth < recursionLimit) (hG : ∀ ρ s, Lv X G N [] L ρ s → s.heap.IsGen a n) (hq : Quits true tr en) : ∀ (k j : Nat) (s : Shared), tr.length - j = k → j ≤ tr.length → (en = none → j < tr.length) → s.heap.IsGen a n → gSt X G N [] L tr en A.in1 n j s →
    (∀ s' ρ, endR tr en = some ρ → Lv X G N [] L ρ s' → R (.ok (.ret (.bool en.isNone))) s') → codeAny (model X.prog X.w) A (.builtin "any.loop" ⟨[.ref a], []⟩) R s := by
  intro k
  induction k with
  | zero =>
    intro j s hk hj hen hg hst hR
    have hjn : j = tr.length := by omega
    subst hjn
    cases en with
    | none => exact absurd (hen rfl) (Nat.lt_irrefl _)
    | some ρ =>
      refine codeAny_builtin F.entry_any_loop ?_
      rw [Around.under_plainId F.plain_any_loop _]
      show wpAny _ A.in1 (pyNext (.ref a) >>= _) _ _ s
      refine wpAny_bind (gen_done ownOk0 hh hroom hg hst own0 fun s' hL => ?_)
      exact wpAny_bind (wpAny_rule (wpAny_pure (hR s' ρ rfl hL)))
  | succ k ih =>
    intro j s hk hj hen hg hst hR
    have hlt : j < tr.length := by omega
    have ex : tr[j]? = some tr[j] := List.getElem?_eq_getElem hlt
    refine codeAny_builtin F.entry_any_loop ?_
    rw [Around.under_plainId F.plain_any_loop _]
    show wpAny _ A.in1 (pyNext (.ref a) >>= _) _ _ s
    refine wpAny_bind (gen_item ownOk0 hh hroom hg ex hst own0 fun v s' hv hst' _ => ?_)
    have hL := hst'.2.1 _ (Nat.succ_ne_zero j) ex
    have hb := hq.2 j _ ex
    rw [hb] at hv
    have ev : v = Value.bool (if en.isNone && j + 1 == tr.length then true else !true) := hv
    subst ev
    refine wpAny_bind (wpAny_holding (wpAny_truthy_bool ?_))
    refine wpAny_bind (wpAny_letGo ?_)
    by_cases hc : (en.isNone && j + 1 == tr.length) = true
    · rw [if_pos hc]
      simp only [if_true]
      refine wpAny_bind (wpAny_rule (wpAny_pure ?_))
      simp only [Bool.and_eq_true, beq_iff_eq] at hc
      have e0 : en = none := Option.isNone_iff_eq_none.mp hc.1
      have := hR s' tr[j].2 (by
        subst e0
        show tr.getLast?.map (·.2) = _
        rw [List.getLast?_eq_getElem?, show tr.length - 1 = j by omega, ex]
        rfl) hL
      rw [hc.1] at this
      exact this
    · rw [if_neg hc]
      simp only [Bool.not_true, Bool.false_eq_true, if_false]
      refine wpAny_pure ⟨plainId_quiet F.plain_any_loop _, ih (j + 1) s' (by omega) hlt (fun e0 => ?_) (hG _ _ hL) hst' hR⟩
      subst e0
      simp only [Option.isNone_none, Bool.true_and, beq_iff_eq] at hc
      omega
theorem all_walk (hh : A.handled = none) (hroom : A.in1.depth < recursionLimit) (hG : ∀ ρ s, Lv X G N [] L ρ s → s.heap.IsGen a n) (hq : Quits false tr en) : ∀ (k j : Nat) (s : Shared), tr.length - j = k → j ≤ tr.length → (en = none → j < tr.length) → s.heap.IsGen a n → gSt X G N [] L tr en A.in1 n j s →
    (∀ s' ρ, endR tr en = some ρ → Lv X G N [] L ρ s' → R (.ok (.ret (.bool en.isSome))) s') → codeAny (model X.prog X.w) A (.builtin "all.loop" ⟨[.ref a], []⟩) R s := by
  intro k
  induction k with
  | zero =>
    intro j s hk hj hen hg hst hR
    have hjn : j = tr.length := by omega
    subst hjn
    cases en with
    | none => exact absurd (hen rfl) (Nat.lt_irrefl _)
    | some ρ =>
      refine codeAny_builtin F.entry_all_loop ?_
      rw [Around.under_plainId F.plain_all_loop _]
      show wpAny _ A.in1 (pyNext (.ref a) >>= _) _ _ s
      refine wpAny_bind (gen_done ownOk0 hh hroom hg hst own0 fun s' hL => ?_)
      exact wpAny_bind (wpAny_rule (wpAny_pure (hR s' ρ rfl hL)))
  | succ k ih =>
    intro j s hk hj hen hg hst hR
    have hlt : j < tr.length := by omega
    have ex : tr[j]? = some tr[j] := List.getElem?_eq_getElem hlt
    refine codeAny_builtin F.entry_all_loop ?_
    rw [Around.under_plainId F.plain_all_loop _]
    show wpAny _ A.in1 (pyNext (.ref a) >>= _) _ _ s
    refine wpAny_bind (gen_item ownOk0 hh hroom hg ex hst own0 fun v s' hv hst' _ => ?_)
    have hL := hst'.2.1 _ (Nat.succ_ne_zero j) ex
    have hb := hq.2 j _ ex
    rw [hb] at hv
    have ev : v = Value.bool (if en.isNone && j + 1 == tr.length then false else !false) := hv
    subst ev
    refine wpAny_bind (wpAny_holding (wpAny_truthy_bool ?_))
    refine wpAny_bind (wpAny_letGo ?_)
    by_cases hc : (en.isNone && j + 1 == tr.length) = true
    · rw [if_pos hc]
      simp only [Bool.false_eq_true, if_false]
      refine wpAny_bind (wpAny_rule (wpAny_pure ?_))
      simp only [Bool.and_eq_true, beq_iff_eq] at hc
      have e0 : en = none := Option.isNone_iff_eq_none.mp hc.1
      have := hR s' tr[j].2 (by
        subst e0
        show tr.getLast?.map (·.2) = _
        rw [List.getLast?_eq_getElem?, show tr.length - 1 = j by omega, ex]
        rfl) hL
      rw [e0] at this
      exact this
    · rw [if_neg hc]
      simp only [Bool.not_false, if_true]
      refine wpAny_pure ⟨plainId_quiet F.plain_all_loop _, ih (j + 1) s' (by omega) hlt (fun e0 => ?_) (hG _ _ hL) hst' hR⟩
      subst e0
      simp only [Option.isNone_none, Bool.true_and, beq_iff_eq] at hc
      omega
end
end DL
/-! the data layer: generator expressions, made -/
namespace DL
open PySem PySem.Spec PyProof.Rows L2 GenW
/-- the generator's own scope: captured names are the def's cells -/
structure GSc (sc scope : Scope) : Prop where
  kind : scope.kind = .function
  co : scope.isCoroutine = false
  cell : ∀ y ∈ scope.names, y.2 ≠ .cell
  dot : scope.names.lookup (".0" : Str) = some NameKind.local
  free : ∀ y ∈ scope.names, y.2 = .free → sc.names.lookup y.1 = some .cell ∨ sc.names.lookup y.1 = some .free
def gscB (sc scope : Scope) : Bool :=
  decide (scope.kind = .function) && !scope.isCoroutine && decide (scope.names.lookup (".0" : Str) = some NameKind.local) && scope.names.all fun y => !decide (y.2 = .cell) && (!decide (y.2 = .free) || decide (sc.names.lookup y.1 = some .cell) || decide (sc.names.lookup y.1 = some .free))
theorem gsc_by {sc scope : Scope} (h : gscB sc scope = true) : GSc sc scope := by
  unfold gscB at h
  simp only [Bool.and_eq_true, Bool.or_eq_true, Bool.not_eq_true', decide_eq_true_eq, decide_eq_false_iff_not, List.all_eq_true] at h
  obtain ⟨⟨⟨h1, h2⟩, h3⟩, h4⟩ := h
  refine ⟨h1, h2, fun y hy => (h4 y hy).1, h3, fun y hy e => ?_⟩
  rcases (h4 y hy).2 with (z | z) | z
  · exact absurd e z
  · exact .inl z
  · exact .inr z
/-- the names: the generator's own m ones, then the def's (the ones it does not see under any other name) -/
def gnB (scope : Scope) : List Str → List Str → Bool
  | [], [] => true
  | y :: ys, x :: xs => (decide (scope.names.lookup y = none) || decide (scope.names.lookup y = some .globalImplicit) || decide (scope.names.lookup y = some .globalExplicit) || (decide (scope.names.lookup y = some .free) && decide (y = x))) && gnB scope ys xs
  | _, _ => false
theorem gnB_len {scope : Scope} : ∀ {ys xs : List Str}, gnB scope ys xs = true → ys.length = xs.length
  | [], [], _ => rfl
  | y :: ys, x :: xs, h => by
    simp only [gnB, Bool.and_eq_true] at h
    simp [gnB_len h.2]
  | [], _ :: _, h => by simp [gnB] at h
  | _ :: _, [], h => by simp [gnB] at h
theorem gnB_at {scope : Scope} : ∀ {ys xs : List Str} {i : Nat} {y : Str}, gnB scope ys xs = true → ys[i]? = some y → Vis scope y → xs[i]? = some y ∧ scope.names.lookup y = some .free
  | y :: ys, x :: xs, 0, z, h, e, v => by
    simp only [List.getElem?_cons_zero, Option.some.injEq] at e
    subst e
    simp only [gnB, Bool.and_eq_true, Bool.or_eq_true, decide_eq_true_eq] at h
    rcases h.1 with ((q | q) | q) | q
    · rcases v with v | v | v <;> rw [q] at v <;> cases v
    · rcases v with v | v | v <;> rw [q] at v <;> cases v
    · rcases v with v | v | v <;> rw [q] at v <;> cases v
    · exact ⟨by rw [q.2]; rfl, q.1⟩
  | y :: ys, x :: xs, i + 1, z, h, e, v => by
    simp only [gnB, Bool.and_eq_true] at h
    exact gnB_at (i := i) h.2 e v
  | [], _, _, _, _, e, _ => by simp at e
  | _ :: _, [], _, _, h, _, _ => by simp [gnB] at h
section
variable {X : Cx} {G : Gx} {N : Pn} {own fp : List Addr} {tn : Nat → Heap → Prop} {elt iter target : Expr} {ifs : List Expr} {scope : Scope} {pos : Pos} {it : Addr} {J : It} {src st : Stk} {items : List D} {stp : S → Bool} {t : Tg} {c : M Bool} {f : M S}
  {tr : List (S × List S)} {en : Option (List S)} {pins : List (Addr × Obj)} {σ : L2.St} {H : Hp} {s : Shared} {m : Nat} {Ng : List Str}
/-- the around of the generator's frame, told from the def's around -/
abbrev gA (X : Cx) (elt target iter : Expr) (ifs : List Expr) (scope : Scope) (pos : Pos) (it : Addr) (ge : Env) : Around := X.A.in1.in1.over (gLoop elt target iter ifs scope pos it ge) []
theorem gA_hd {ge : Env} (h : X.A.handled = none) : (gA X elt target iter ifs scope pos it ge).handled = none := by
  show X.A.handled = none
  exact h
theorem gA_frames {ge : Env} (h : X.A.frames = some X.stack) : (gA X elt target iter ifs scope pos it ge).frames = some (ge :: X.stack) := by
  show pushEnvs (gLoop elt target iter ifs scope pos it ge).envs (pushEnvs (envsOf (([] : List Frame).map Frame.where_)) X.A.frames) = _
  rw [h]
  rfl
theorem gA_room {ge : Env} {k : Nat} (h : Room (k + 1) X.A) : Room k (gA X elt target iter ifs scope pos it ge) := by
  refine ⟨gA_hd h.hd, ?_, ?_⟩
  · have := h.dp
    show X.A.depth + 0 + 1 + 3 * k + 5 < _
    omega
  · have := h.un
    have e : (gA X elt target iter ifs scope pos it ge).units = X.A.units + 5 := rfl
    rw [e]
    omega
theorem cl_mem {y : Str} {b : Addr} (ok : X.Ok) (S : GSc X.env.scope scope) (e : (cloFrom X.env.cells scope.names []).lookup y = some b) : X.env.cells.lookup y = some b := by
  rcases cloFrom_mem (PySem.mem_of_lookup e) with hm | ⟨h1, h2⟩
  · cases hm
  · obtain ⟨c1, hc⟩ := ok.has _ (S.free _ h1 rfl)
    rw [h2, hc]
    rfl
theorem cl_has {y : Str} (h : scope.names.lookup y = some .free) : ∃ b, (cloFrom X.env.cells scope.names []).lookup y = some b := mem_lookup (cloFrom_has (cells := X.env.cells) (acc := []) (PySem.mem_of_lookup h))
/-- the generator's frame, when it is made -/
theorem g_start {code : Value} {go : Obj} {a : Addr} {A : Around} {h5 : Heap} {tk : Nat} {g5 : Array GenState} {itv : Option Value} (I : Inv X pins σ H s) (S : GSc X.env.scope scope) (hA : A.handled = none) (hF : A.frames = some (genEnv scope (cloFrom X.env.cells scope.names []) s.heap.objs.size code builtinsNs X.env :: X.stack))
    (hfp : ∀ b ∈ fp, FpOk X pins H b ∧ ∃ o, s.heap.get? b = some o) (hgn : gnB scope (Ng.drop m) X.N = true) (hm : m ≤ Ng.length) (kp : ∀ b o, s.heap.get? b = some o → h5.get? b = some o) (hns : h5.Ns s.heap.objs.size fun y => if y = ".0" then itv else none) (ha : h5.get? a = some go) (hal : s.heap.objs.size < a) (hgo : ∀ v, go.data ≠ .cell v) (hb : AllBare g5) :
    Inv (gCx X A Ng s H (genEnv scope (cloFrom X.env.cells scope.names []) s.heap.objs.size code builtinsNs X.env) fp [(a, go)]) [] (List.replicate m none ++ σ) H { s with heap := h5, gens := g5, toks := tk } := by
  have cm := fun {y b} e => cl_mem (y := y) (b := b) I.ok S e
  have cellK : ∀ {c : Addr} {v : Option Value}, s.heap.IsCell c v → h5.IsCell c v := fun {c v} ⟨o, ho, hd⟩ => ⟨o, kp _ _ ho, hd⟩
  have lN := gnB_len hgn
  refine ⟨⟨I.mod, S.kind, I.ok.glob, rfl, Nat.le_refl _, fun y z c e1 e2 => I.ok.inj y z c (cm e1) (cm e2), fun y hy => ?_, fun y c z _ => ?_, fun _ => hA, hF, .inr ⟨rfl, rfl⟩, fun b hb => ⟨?_, fun x c e => ?_⟩, I.bs, Nat.le_trans I.ok.bsz I.sz, fun b o e hb => ?_, fun b hb hm => ?_, I.stack, I.stkFree⟩,
    rfl, hb, Un.kept kp, ⟨_, hns, fun i y v e1 e2 e3 => ?_⟩, fun y c e => ?_, I.hok.fresh (Nat.le_refl _), fun y c e => I.freeC y c (cm e), fun q hq => ?_, I.hok.kept kp, ?_⟩
  · have hy : scope.names.lookup y = some .cell ∨ scope.names.lookup y = some .free := hy
    rcases hy with hy | hy
    · exact absurd rfl (S.cell _ (PySem.mem_of_lookup hy))
    · exact cl_has hy
  · have z : false = true := z
    cases z
  · obtain ⟨_, o, e⟩ := hfp b hb
    exact Nat.ne_of_lt (Heap.lt_size e)
  · exact (hfp b hb).1.2.2.2.2.1 x c (cm e)
  · have hb : b ∈ fp := hb
    rcases (hfp b hb).1.2.2.2.1 with z | z
    · exact I.ok.noex b o e z
    · exact absurd (Nat.lt_of_lt_of_le (Heap.lt_size e) (Nat.le_trans I.ok.bsz z)) (Nat.lt_irrefl _)
  · have hb : b ∈ fp := hb
    rcases List.mem_cons.mp (I.stkSub b hm) with z | z
    · exact (hfp b hb).1.2.1 z
    · exact (hfp b hb).1.2.2.1 z
  · have e1 : Ng[i]? = some y := e1
    have e3 : Vis scope y := e3
    by_cases hi : i < m
    · rw [List.getElem?_append_left (by simpa using hi), List.getElem?_replicate, if_pos hi] at e2
      cases e2
    · rw [List.getElem?_append_right (by simpa using Nat.le_of_not_lt hi), List.length_replicate] at e2
      have e4 : (Ng.drop m)[i - m]? = some y := by
        rw [List.getElem?_drop, show m + (i - m) = i by omega]
        exact e1
      obtain ⟨e5, e6⟩ := gnB_at hgn e4 e3
      have hvis : Vis X.env.scope y := (S.free _ (PySem.mem_of_lookup e6) rfl).elim (fun k => .inr (.inl k)) (fun k => .inr (.inr k))
      obtain ⟨mm, hn, hl⟩ := I.loc
      obtain ⟨w', r, q⟩ := hl (i - m) y v e5 e2 hvis
      obtain ⟨c2, h2⟩ := cl_has (X := X) e6
      refine ⟨w', r, .inr ⟨.inr e6, c2, h2, ?_⟩⟩
      have c1 := cm h2
      rcases q with ⟨k', _⟩ | ⟨_, c3, e', z⟩
      · have k' : X.env.scope.names.lookup y = some .local := k'
        rcases S.free _ (PySem.mem_of_lookup e6) rfl with k2 | k2 <;> rw [show X.env.scope.names.lookup y = _ from k2] at k' <;> cases k'
      · rw [c1] at e'
        cases e'
        exact cellK z
  · obtain ⟨w', z⟩ := I.cell y c (cm e)
    exact ⟨w', cellK z⟩
  · have hq : q = (a, go) := by
      have : q ∈ [(a, go)] ++ ([] : List (Addr × Obj)) := hq
      simpa using this
    subst hq
    exact ⟨ha, I.hok.fresh (Nat.le_of_lt hal), Nat.ne_of_gt hal, fun hm => by
      rcases List.mem_cons.mp (I.stkSub a hm) with z | z
      · have := I.lt
        rw [← z] at this
        exact absurd (Nat.lt_trans this hal) (Nat.lt_irrefl _)
      · exact I.nofs (Nat.le_of_lt hal) z, hgo⟩
  · show (List.replicate m none ++ σ).length = Ng.length
    rw [List.length_append, List.length_replicate, I.len, ← lN, List.length_drop]
    omega
/-- the pins of the generator's frame -/
def gPin (m : Nat) (σ : L2.St) : Pn := ⟨(List.range σ.length).map (m + ·), List.replicate m none ++ σ⟩
theorem gPin_ge {j : Nat} (h : j ∈ (gPin m σ).J) : m ≤ j := by
  obtain ⟨i, _, e⟩ := List.mem_map.mp h
  omega
theorem Hs.genIn {L : Stk} {ρ : List S} (h : Hs G N H σ ρ L) : Hs G (gPin m σ) H (List.replicate m none ++ σ) (List.replicate m .gone ++ ρ) L := by
  obtain ⟨F, fp, sb, r, n⟩ := h.ex
  refine ⟨by simp [h.len], ⟨F, fp, sb, ?_, n⟩, h.tb, fun j _ => rfl⟩
  rw [List.zip_append (by simp)]
  obtain ⟨a, b, e, r1, r2⟩ := (RL.app _ _ _).mp r
  exact (RL.app _ _ _).mpr ⟨a, b, e, r1, RL.gones m r2⟩
theorem Hs.genOut {L : Stk} {ρ ρ' : List S} {H' : Hp} {σ' : L2.St} {L' : Stk} (h0 : Hs G N H σ ρ L') (h : Hs G (gPin m σ) H' σ' ρ' L) (hl : σ'.length = m + σ.length) : Hs G N H' σ (ρ'.drop m) L := by
  obtain ⟨F, fp, sb, r, n⟩ := h.ex
  have e1 : σ'.drop m = σ := by
    apply List.ext_getElem?
    intro i
    rw [List.getElem?_drop]
    by_cases hi : i < σ.length
    · have := h.pin (m + i) (List.mem_map.mpr ⟨i, List.mem_range.mpr hi, rfl⟩)
      rw [this]
      show (List.replicate m none ++ σ)[m + i]? = _
      rw [List.getElem?_append_right (by simp), List.length_replicate, Nat.add_sub_cancel_left]
    · rw [List.getElem?_eq_none (by omega), List.getElem?_eq_none (by omega)]
  have lr := h.len
  have e2 : σ'.zip ρ' = (σ'.take m).zip (ρ'.take m) ++ σ.zip (ρ'.drop m) := by
    rw [← e1, ← List.zip_append (by simp [lr]), List.take_append_drop, List.take_append_drop]
  rw [e2] at r
  obtain ⟨a, b, e, r1, r2⟩ := (RL.app _ _ _).mp r
  obtain ⟨a2, b2, e3, _, r3⟩ := (RL.app _ _ _).mp r2
  refine ⟨by rw [List.length_drop]; omega, ⟨F, a ++ b2, sb, (RL.app _ _ _).mpr ⟨a, b2, rfl, r1, r3⟩, ?_⟩, h.tb, h0.pin⟩
  rw [e, e3] at n
  exact n.sublist ((List.sublist_append_right a2 b2).append_left a)
/-- what the consumer is told -/
structure GMd (X : Cx) (G : Gx) (N : Pn) (pins : List (Addr × Obj)) (σ : L2.St) (m : Nat) (L : Stk) (tr : List (S × List S)) (en : Option (List S)) (Xg : Cx) (Ng : Pn) (a : Addr) (n : Nat) (s5 : Shared) : Prop where
  prog : Xg.prog = X.prog
  w : Xg.w = X.w
  os : AllBare s5.gens
  gen : s5.heap.IsGen a n
  isg : ∀ own L ρ s, Lv Xg G Ng own L ρ s → s.heap.IsGen a n
  begin : ∀ (own : List Addr) (s6 : Shared), (∀ b ∈ own, s5.heap.objs.size ≤ b ∧ ∃ o, s6.heap.get? b = some o ∧ ∀ v, o.data ≠ .cell v) → s6.os = s5.os → s6.gens = s5.gens → (∀ b o, s5.heap.get? b = some o → s6.heap.get? b = some o) →
    gSt Xg G Ng own L tr en X.A.in1 n 0 s6 ∧ OwnOk Xg own
  back : ∀ own ρg s, Lv Xg G Ng own L ρg s → ∃ H', Inv X pins σ H' s ∧ Hs G N H' σ (ρg.drop m) L
/-- the parts of a generator expression in its frame -/
def GPart (G : Gx) (X : Cx) (Ng : List Str) (m k : Nat) (scope : Scope) (target : Expr) (ifs : List Expr) (elt : Expr) (t : Tg) (c : M Bool) (f : M S) : Prop :=
  ∀ (A : Around) (s : Shared) (H : Hp) (C : Addr) (cl : List (Str × Addr)) (code : Value) (fp : List Addr) (pn : List (Addr × Obj)) (N' : Pn), Room k A → (∀ j ∈ N'.J, m ≤ j) →
    GX G N' (gCx X A Ng s H (genEnv scope cl C code builtinsNs X.env) fp pn) target t ∧ Ifs G N' (gCx X A Ng s H (genEnv scope cl C code builtinsNs X.env) fp pn) ifs c ∧ EX G N' (gCx X A Ng s H (genEnv scope cl C code builtinsNs X.env) fp pn) W0 elt f
theorem gen_make {c0 P : Addr} {wi : TI} {Q' : Value → Shared → Prop} {k : Nat} {R : Stk → List D → List S → Prop} (hr : Room (k + 1) X.A) (TB : LamX.TabB X.base X.mg c0 P) (hcode : X.env.code = .ref c0) (Sc : GSc X.env.scope scope) (hPQ : (P, X.env.qual ++ "<genexpr>") ∈ G.T) (hPT : ∀ p ∈ G.T, p.1 = P → p.2 = X.env.qual ++ "<genexpr>")
    (hi : PI X target iter wi) (hs : ∀ v, genFold iter X.env v = pure v) (hgn : gnB scope (Ng.drop m) X.N = true) (hm : m ≤ Ng.length) (hl : ifs.length ≤ 1) (hp : GPart G X Ng m k scope target ifs elt t c f) (I : Inv X pins σ H s)
    (h : wi σ H fun J H1 => ∃ src items ρ, IterOk G J src items ∧ Hs G N H1 σ ρ (src ++ st) ∧ R src items ρ)
    (hQ : ∀ src items ρ a n s5 Xg Np, R src items ρ → (∀ tr en, trL stp t c f items (List.replicate m .gone ++ ρ) = some (tr, en) → (∀ x ∈ tr, isV x.1 = true) → GMd X G N pins σ m (src ++ st) tr en Xg Np a n s5) → Q' (.ref a) s5) :
    wpAny (model X.prog X.w) X.A (eval (.GeneratorExp elt [⟨target, iter, ifs, 0⟩] scope pos) X.env) Q' X.xe s := by
  have hfree : ∀ y ∈ scope.names, y.2 = .free → ∃ c, X.env.cells.lookup y.1 = some c := fun y hy e => I.ok.has _ (Sc.free y hy e)
  refine wpAny_GeneratorExp_make Sc.co (closure_ok hfree) Sc.cell Sc.dot Sc.kind (by have := hr.dp; omega) ?_ hs
  refine thn (hi.run pins s σ H _ I h) fun xv s1 h1 => thn h1 fun itv s2 h2 => ?_
  obtain ⟨it, fp, tn, J, H2, eit, I2, T, st2, f2, src, items, ρ, io, hs2, hR⟩ := h2
  subst eit
  have tb2 := hs2.tb
  obtain ⟨ps, hP, ht, hall⟩ := tb2 _ hPQ
  have hPs : s2.heap.get? P = some { cls := .none, data := .fields ps } := I2.hok P _ hP
  have cd : PySem.W.CodeHd s2.heap c0 P := TB.code.keeps I2.bk
  refine ⟨I2.nolimit, ?_⟩
  -- from the table that may have grown
  have cont : ∀ (code : Value) (H4 : Hp) (s4 : Shared), Inv X pins σ H4 s4 → Hs G N H4 σ ρ (src ++ st) → tn 0 s4.heap → (∀ b ∈ fp, FpOk X pins H4 b) →
      wpAny (model X.prog X.w) X.A (builtinsFor X.env.globals X.env.builtins) (fun bi s₄ =>
        ∀ h', h'.Ns s₄.heap.objs.size (fun y => if y = ".0" then some (.ref it) else none) → Heap.SameBut s₄.heap.objs.size (s₄.heap.push { cls := .type "frame", data := .dict #[] }) h' →
          Q' (.ref h'.objs.size) { s₄ with
            gens := s₄.gens.push (.fresh (.compStart (.GeneratorExp elt [⟨target, iter, ifs, 0⟩] scope pos) 0 (.ref it) .none (genEnv scope (cloFrom X.env.cells scope.names []) s₄.heap.objs.size code bi X.env))),
            toks := s₄.toks + 1 + 1 + 1,
            heap := h'.push { cls := .type "generator", data := .fields #[.int s₄.gens.size 0, .str "<genexpr>" (s₄.toks + 1), .str (X.env.qual ++ "<genexpr>") (s₄.toks + 1 + 1)] } }) X.xe s4 := by
    intro code H4 s4 I4 hs4 st4 f4
    obtain ⟨bm, ob, e1, e2, e3, e4, e5, e6, e7, e8⟩ := TB.bm
    refine wpAny_builtinsFor (m := X.mg) (by rw [I4.ok.glob]; exact I4.mod.glob.keeps I4.bk) e1 e2 (I4.bk _ _ e5) e6 e7 e8 ?_
    intro h' hn' hs'
    have hsz : h'.objs.size = s4.heap.objs.size + 1 := by rw [hs'.1, Heap.size_push]
    have kp' : ∀ b o, s4.heap.get? b = some o → h'.get? b = some o := fun b o e => hs'.extBut b o (Nat.ne_of_lt (Heap.lt_size e)) (Heap.get?_push_of_some _ e)
    generalize hgo : ({ cls := .type "generator", data := .fields #[.int s4.gens.size 0, .str "<genexpr>" (s4.toks + 1), .str (X.env.qual ++ "<genexpr>") (s4.toks + 1 + 1)] } : Obj) = go
    have hgn2 : ∀ h : Heap, h.get? h'.objs.size = some go → h.IsGen h'.objs.size s4.gens.size := fun h e => ⟨go, _, _, e, by rw [← hgo], by rw [← hgo], by rw [← hgo]⟩
    have hfz : go.isFreed = false := by
      rw [← hgo]
      rfl
    have hgd : ∀ v, go.data ≠ .cell v := fun v z => by
      rw [← hgo] at z
      cases z
    have kp : ∀ b o, s4.heap.get? b = some o → (h'.push go).get? b = some o := fun b o e => Heap.get?_push_of_some _ (kp' b o e)
    have obs : ∀ b ∈ fp, FpOk X pins H4 b ∧ ∃ o, s4.heap.get? b = some o := fun b hb => ⟨f4 b hb, let ⟨o, e, _⟩ := T.obj _ _ st4 b hb; ⟨o, e⟩⟩
    have I5 := g_start (m := m) (Ng := Ng) (code := code) (A := gA X elt target iter ifs scope pos it (genEnv scope (cloFrom X.env.cells scope.names []) s4.heap.objs.size code builtinsNs X.env)) (h5 := h'.push go) (tk := s4.toks + 1 + 1 + 1)
      (g5 := s4.gens.push (.fresh (gStart elt target iter ifs scope pos it (genEnv scope (cloFrom X.env.cells scope.names []) s4.heap.objs.size code builtinsNs X.env)))) I4 Sc (gA_hd hr.hd) (gA_frames I4.ok.frames) obs hgn hm kp (hn'.push _) (Heap.get?_push_size _ hfz) (by omega) hgd (I4.bare.push rfl)
    have hs5 := hs4.genIn (m := m)
    refine hQ src items ρ _ s4.gens.size _ (gCx X (gA X elt target iter ifs scope pos it (genEnv scope (cloFrom X.env.cells scope.names []) s4.heap.objs.size code builtinsNs X.env)) Ng s4 H4 (genEnv scope (cloFrom X.env.cells scope.names []) s4.heap.objs.size code builtinsNs X.env) fp [(h'.objs.size, go)]) (gPin m σ) hR fun tr en htr hV => ?_
    have hroom := gA_room (elt := elt) (target := target) (iter := iter) (ifs := ifs) (scope := scope) (pos := pos) (it := it) (ge := genEnv scope (cloFrom X.env.cells scope.names []) s4.heap.objs.size code builtinsNs X.env) hr
    obtain ⟨p1, p2, p3⟩ := hp _ s4 H4 s4.heap.objs.size (cloFrom X.env.cells scope.names []) code fp [(h'.objs.size, go)] (gPin m σ) hroom fun j hj => gPin_ge hj
    have hsz5 : (h'.push go).objs.size = s4.heap.objs.size + 2 := by rw [Heap.size_push, hsz]
    have lt4 : s4.heap.objs.size < (h'.push go).objs.size := by omega
    have lt5 : h'.objs.size < (h'.push go).objs.size := by omega
    have lt6 : s4.heap.objs.size < h'.objs.size := by omega
    have hown : ∀ own : List Addr, (∀ b ∈ own, (h'.push go).objs.size ≤ b) → OwnOk (gCx X (gA X elt target iter ifs scope pos it (genEnv scope (cloFrom X.env.cells scope.names []) s4.heap.objs.size code builtinsNs X.env)) Ng s4 H4 (genEnv scope (cloFrom X.env.cells scope.names []) s4.heap.objs.size code builtinsNs X.env) fp [(h'.objs.size, go)]) own := fun own ho b hb => by
      have hb2 := ho b hb
      refine ⟨.inr ?_, ?_, fun x c e z => ?_, fun p hp z => ?_⟩
      · show s4.heap.objs.size ≤ b
        omega
      · exact Nat.ne_of_gt (Nat.lt_of_lt_of_le lt4 hb2)
      · obtain ⟨v, ob, ho, _⟩ := I5.cell x c e
        have h9 : c < (h'.push go).objs.size := Heap.lt_size ho
        rw [z] at h9
        exact absurd (Nat.lt_of_lt_of_le h9 hb2) (Nat.lt_irrefl _)
      · have hp2 : p = (h'.objs.size, go) := by
          have : p ∈ [(h'.objs.size, go)] := hp
          simpa using this
        rw [hp2] at z
        have z2 : h'.objs.size = b := z
        rw [← z2] at hb2
        exact absurd (Nat.lt_of_lt_of_le lt5 hb2) (Nat.lt_irrefl _)
    refine ⟨rfl, rfl, I5.bare, hgn2 _ (Heap.get?_push_size _ hfz), fun own L ρ' s' ⟨ps', σ', H', _, I', _⟩ => ?_, fun own s6 ho h6 g6 k6 => ?_, fun own ρg s' ⟨ps', σ', H', _, I', hs'⟩ => ?_⟩
    · exact hgn2 _ (I'.pin (h'.objs.size, go) (List.mem_append_left _ List.mem_cons_self)).1
    · have hO := hown own fun b hb => (ho b hb).1
      obtain ⟨ps6, hps6, I6⟩ := Inv.woken (own := []) (s' := s6) I5 ⟨fun b hb => by simp at hb, fun p hp => by simp at hp⟩ ownOk0 ⟨h6, by rw [g6]; exact I5.bare, fun b o _ e => k6 b o e, fun b hb => by simp at hb⟩
      have I7 : Inv (gCx X (gA X elt target iter ifs scope pos it (genEnv scope (cloFrom X.env.cells scope.names []) s4.heap.objs.size code builtinsNs X.env)) Ng s4 H4 (genEnv scope (cloFrom X.env.cells scope.names []) s4.heap.objs.size code builtinsNs X.env) fp [(h'.objs.size, go)]) (pinsAt own s6.heap) (List.replicate m none ++ σ) H4 s6 := I6.pins_of fun p hp => by
        obtain ⟨hb, e⟩ := of_pinsAt hp
        obtain ⟨hge, o, e', d⟩ := ho p.1 hb
        rw [e] at e'
        cases e'
        have hge2 : (h'.push go).objs.size ≤ p.1 := hge
        exact ⟨e, I5.hok.fresh hge2, (hO p.1 hb).2.1, I5.nofs hge2, d⟩
      have hP7 : PnOf own (pinsAt own s6.heap) := ⟨fun b hb => let ⟨_, o, e, _⟩ := ho b hb; ⟨o, mem_pinsAt hb e⟩, fun p hp => (of_pinsAt hp).1⟩
      have hL6 : Lvi (gCx X (gA X elt target iter ifs scope pos it (genEnv scope (cloFrom X.env.cells scope.names []) s4.heap.objs.size code builtinsNs X.env)) Ng s4 H4 (genEnv scope (cloFrom X.env.cells scope.names []) s4.heap.objs.size code builtinsNs X.env) fp [(h'.objs.size, go)]) G (gPin m σ) own (src ++ st) fp tn 0 (List.replicate m .gone ++ ρ) s6 := by
        refine ⟨pinsAt own s6.heap, _, H4, hP7, I7, hs5, T.keep _ _ _ st4 fun b hb o e => k6 b o (kp b o e), fun b hb => ?_⟩
        obtain ⟨⟨q1, q2, q3, q4, q5, q6⟩, o, e⟩ := obs b hb
        have hlt := Heap.lt_size e
        refine ⟨q1, Nat.ne_of_lt hlt, fun hm => ?_, .inl hb, fun x c e => q5 x c (cl_mem I4.ok Sc e), fun p hp z => ?_⟩
        · rcases List.mem_cons.mp (I4.stkSub b hm) with z | z
          · exact q2 z
          · exact q3 z
        · rcases List.mem_append.mp hp with z2 | z2
          · have hp2 : p = (h'.objs.size, go) := by
              have : p ∈ [(h'.objs.size, go)] := z2
              simpa using this
            rw [hp2] at z
            have z3 : h'.objs.size = b := z
            have hlt2 : b < s4.heap.objs.size := hlt
            rw [← z3] at hlt2
            exact absurd (Nat.lt_trans hlt2 lt6) (Nat.lt_irrefl _)
          · have := (ho p.1 (of_pinsAt z2).1).1
            rw [z] at this
            have h9 : (h'.push go).objs.size ≤ b := this
            have hlt2 : b < s4.heap.objs.size := hlt
            exact absurd (Nat.lt_of_lt_of_le (Nat.lt_trans hlt2 lt4) h9) (Nat.lt_irrefl _)
      refine ⟨⟨by rw [g6]; exact I5.bare, fun x hx => absurd rfl hx, I7.nolimit, .fresh (gStart elt target iter ifs scope pos it (genEnv scope (cloFrom X.env.cells scope.names []) s4.heap.objs.size code builtinsNs X.env)), by rw [g6]; exact Array.getElem?_push_size .., fun _ s' z => ?_⟩, hO⟩
      rw [Nat.sub_zero]
      refine ⟨rfl, ?_⟩
      exact seg_begin (X := gCx X (gA X elt target iter ifs scope pos it (genEnv scope (cloFrom X.env.cells scope.names []) s4.heap.objs.size code builtinsNs X.env)) Ng s4 H4 (genEnv scope (cloFrom X.env.cells scope.names []) s4.heap.objs.size code builtinsNs X.env) fp [(h'.objs.size, go)]) ⟨T, io, hO, rfl, rfl, Sc.co⟩ rfl hl p1 p2 p3 hV htr (hL6.woken hO z T.keep)
    · have un : Un (frs X.stack) fp H4 H' s4.heap s'.heap := I'.base
      have J' : Inv X pins σ H' s' := I4.call' (ch := fp) I'.os un I'.hok I'.bare fun b hb => ⟨(f4 b hb).2.2.2.1, (f4 b hb).2.1, (f4 b hb).2.2.2.2.1, (f4 b hb).2.2.2.2.2⟩
      refine ⟨H', J', Hs.genOut hs4 hs' ?_⟩
      have e1 := I'.len
      have e2 := gnB_len hgn
      rw [List.length_drop] at e2
      have e3 := I4.len
      have e4 : σ'.length = Ng.length := e1
      omega
  cases hf : codeAmong pos ps.toList with
  | none =>
    refine wpAny_genexprCodeX hcode (cd.code hPs ht) (cd.tab hPs) hf fun c' h' tk hx hge hlt hco' hrec htab' _ => ?_
    obtain ⟨o1, vs, f1, tf, fl, tg, inF, tx, tt, op, _, _, _, _, _, _, _, _, _, htr, _⟩ := hco'
    obtain ⟨c2, oc, vs2, t2, ec2, hoc, hdc, hvc⟩ := hrec
    cases ec2
    have nC : H2 c' = none := I2.hok.fresh hge
    have I4 := LamX.inv_table (t' := tk) (more := #[rawInt pos.line, rawInt pos.col, .ref c']) (h' := h') I2 hP (fun b o hb e => hx b o hb e) htab'.2 hge ⟨oc, vs2, t2, hoc, hdc, hvc⟩
    have nP : ∀ b u, H2 b = some u → (∀ q, u ≠ .tbl q) → b ≠ P := fun b u e q z => by
      rw [z, hP] at e
      exact q ps (Option.some.inj e).symm
    have hE : LamX.ExtN H2 (upd (upd H2 P (.tbl (ps ++ #[rawInt pos.line, rawInt pos.col, .ref c']))) c' (LamX.CodeO c' (X.env.qual ++ "<genexpr>"))) := fun b o e n => by
      rw [upd_ne (ne_of_none e nC), upd_ne (nP b o e n)]
      exact e
    have eL : (ps ++ #[rawInt pos.line, rawInt pos.col, .ref c']).toList = ps.toList ++ [rawInt pos.line, rawInt pos.col, .ref c'] := by simp
    have hT : Tb G (upd (upd H2 P (.tbl (ps ++ #[rawInt pos.line, rawInt pos.col, .ref c']))) c' (LamX.CodeO c' (X.env.qual ++ "<genexpr>"))) := fun p hp => by
      by_cases hb : p.1 = P
      · rw [hPT p hp hb, hb]
        refine ⟨_, by rw [upd_ne (ne_of_none hP nC), upd_same], htr, fun p' cv hcv => ?_⟩
        rw [eL] at hcv
        rcases LamX.among_app _ ht hcv with z | z
        · obtain ⟨c0, e1, e2⟩ := hall p' cv z
          exact ⟨c0, e1, hE _ _ e2 LamX.codeO_ne⟩
        · exact ⟨c', z, upd_same⟩
      · obtain ⟨ps', a1, a2, a3⟩ := tb2 p hp
        refine ⟨ps', by rw [upd_ne (ne_of_none a1 nC), upd_ne hb]; exact a1, a2, fun p' cv hcv => ?_⟩
        obtain ⟨c0, e1, e2⟩ := a3 p' cv hcv
        exact ⟨c0, e1, hE _ _ e2 LamX.codeO_ne⟩
    exact cont _ _ _ I4 (hs2.grow ⟨hE, hT⟩) (T.keep _ _ _ st2 fun b hb o e => hx b o (fun z => by
      have := (f2 b hb).1
      rw [z, hP] at this
      cases this) e) fun b hb => ⟨by
        have n0 := (f2 b hb).1
        obtain ⟨o, eo, _⟩ := T.obj _ _ st2 b hb
        have ne1 : b ≠ c' := fun z => by
          have h9 : b < s2.heap.objs.size := Heap.lt_size eo
          rw [z] at h9
          exact absurd (Nat.lt_of_lt_of_le h9 hge) (Nat.lt_irrefl _)
        rw [upd_ne ne1, upd_ne fun z => by rw [z, hP] at n0; cases n0]
        exact n0, (f2 b hb).2⟩
  | some cv =>
    refine wpAny_genexprCode_hit hcode (cd.code hPs ht) hf ?_
    exact cont cv H2 s2 I2 hs2 st2 f2
end
end DL
/-! the data layer: any, all, sum of generator expressions -/
namespace DL
open PySem PySem.Spec PyProof.Rows L2 GenW
def inL (i : Int) : Bool := decide (-(2 ^ 63) ≤ i) && decide (i < 2 ^ 63)
def sumV : List (S × List S) → Int → Option Int
  | [], a => some a
  | (.d (.int i), _) :: r, a => if inL i && inL (a + i) then sumV r (a + i) else none
  | _ :: _, _ => none
def stAny : S → Bool
  | .d (.bl b) => b
  | _ => false
def stAll : S → Bool
  | .d (.bl b) => !b
  | _ => false
def isB : S → Bool
  | .d (.bl _) => true
  | _ => false
def finAny (tr : List (S × List S)) (en : Option (List S)) : Option S := if tr.all (fun x => isB x.1) then some (.d (.bl en.isNone)) else none
def finAll (tr : List (S × List S)) (en : Option (List S)) : Option S := if tr.all (fun x => isB x.1) then some (.d (.bl en.isSome)) else none
def finSum (tr : List (S × List S)) (en : Option (List S)) : Option S := if en.isSome then (sumV tr 0).map fun i => .d (.int i) else none
/-- a generator expression, consumed -/
def mGen (m : Nat) (as : List Arg) (io : List S → Option (List D)) (stp : S → Bool) (t : Tg) (c : M Bool) (f : M S) (fin : List (S × List S) → Option (List S) → Option S) : M S := mbind (mArgs as) fun avs ρ => match grab ρ avs with
  | none => .stuck
  | some p => match io p.1 with
    | none => .stuck
    | some items => match trL stp t c f items (List.replicate m .gone ++ p.2) with
      | none => .stuck
      | some q => match endR q.1 q.2, fin q.1 q.2 with
        | some ρ', some z => .ok z (lay (ρ'.drop m) avs p.1 p.1)
        | _, _ => .stuck
def mAny (m : Nat) (as : List Arg) (io : List S → Option (List D)) (t : Tg) (c : M Bool) (f : M S) : M S := mGen m as io stAny t c f finAny
def mAll (m : Nat) (as : List Arg) (io : List S → Option (List D)) (t : Tg) (c : M Bool) (f : M S) : M S := mGen m as io stAll t c f finAll
def mSum (m : Nat) (as : List Arg) (io : List S → Option (List D)) (t : Tg) (c : M Bool) (f : M S) : M S := mGen m as io (fun _ => false) t c f finSum
theorem trL_stp {stp : S → Bool} {t : Tg} {c : M Bool} {f : M S} : ∀ {items : List D} {ρ : List S} {tr : List (S × List S)} {en : Option (List S)}, trL stp t c f items ρ = some (tr, en) → (en = none → tr ≠ []) ∧ ∀ (j : Nat) (x : S × List S), tr[j]? = some x → stp x.1 = (en.isNone && j + 1 == tr.length)
  | [], ρ, tr, en, h => by
    simp only [trL, Option.some.injEq, Prod.mk.injEq] at h
    obtain ⟨h1, h2⟩ := h
    subst h1 h2
    exact And.intro (fun z => nomatch z) (fun j x e => by simp at e)
  | d :: xs, ρ, tr, en, h => by
    unfold trL at h
    split at h
    · cases h
    · split at h
      · exact trL_stp h
      · split at h
        · rename_i z ρ3 _
          split at h
          · rename_i hz
            cases h
            refine ⟨fun _ => by simp, fun j x e => ?_⟩
            cases j with
            | zero =>
              simp only [List.getElem?_cons_zero, Option.some.injEq] at e
              subst e
              simpa using hz
            | succ j => simp at e
          · rename_i hz
            simp only [Option.map_eq_some_iff] at h
            obtain ⟨q, h1, h2⟩ := h
            cases h2
            obtain ⟨i1, i2⟩ := trL_stp h1
            refine ⟨fun _ => by simp, fun j x e => ?_⟩
            cases j with
            | zero =>
              simp only [List.getElem?_cons_zero, Option.some.injEq] at e
              subst e
              have : stp z = false := by simpa using hz
              rw [this]
              cases hq : q.2 with
              | some _ => rfl
              | none =>
                have := i1 hq
                have : q.1.length ≠ 0 := fun z => this (List.length_eq_zero_iff.mp z)
                simp [this]
            | succ j =>
              have := i2 j x (by simpa using e)
              rw [this]
              simp
        · cases h
      · cases h
theorem quits_any {t : Tg} {c : M Bool} {f : M S} {items : List D} {ρ : List S} {tr : List (S × List S)} {en : Option (List S)} (h : trL stAny t c f items ρ = some (tr, en)) (hb : tr.all (fun x => isB x.1) = true) : Quits true tr en := by
  obtain ⟨h1, h2⟩ := trL_stp h
  refine ⟨h1, fun j x e => ?_⟩
  have hx := List.all_eq_true.mp hb x (List.mem_of_getElem? e)
  have hs := h2 j x e
  rw [← hs]
  obtain ⟨x1, x2⟩ := x
  cases x1 with
  | d y =>
    cases y with
    | bl b => cases b <;> rfl
    | _ => cases hx
  | _ => cases hx
theorem quits_all {t : Tg} {c : M Bool} {f : M S} {items : List D} {ρ : List S} {tr : List (S × List S)} {en : Option (List S)} (h : trL stAll t c f items ρ = some (tr, en)) (hb : tr.all (fun x => isB x.1) = true) : Quits false tr en := by
  obtain ⟨h1, h2⟩ := trL_stp h
  refine ⟨h1, fun j x e => ?_⟩
  have hx := List.all_eq_true.mp hb x (List.mem_of_getElem? e)
  have hs := h2 j x e
  rw [← hs]
  obtain ⟨x1, x2⟩ := x
  cases x1 with
  | d y =>
    cases y with
    | bl b => cases b <;> rfl
    | _ => cases hx
  | _ => cases hx
theorem isB_isV {tr : List (S × List S)} (hb : tr.all (fun x => isB x.1) = true) : ∀ x ∈ tr, isV x.1 = true := fun x hx => by
  have := List.all_eq_true.mp hb x hx
  obtain ⟨x1, x2⟩ := x
  cases x1 with
  | d y =>
    cases y with
    | bl b => rfl
    | _ => cases this
  | _ => cases this
theorem sumV_isV : ∀ {tr : List (S × List S)} {a i : Int}, sumV tr a = some i → ∀ x ∈ tr, isV x.1 = true
  | [], _, _, _, x, hx => by simp at hx
  | (z, ρ) :: r, a, i, h, x, hx => by
    cases z with
    | d y =>
      cases y with
      | int k =>
        unfold sumV at h
        split at h
        · rcases List.mem_cons.mp hx with e | e
          · subst e
            rfl
          · exact sumV_isV h x e
        · cases h
      | _ => simp [sumV] at h
    | _ => simp [sumV] at h
section
variable {X : Cx} {G : Gx} {N : Pn} {own : List Addr} {L : Stk} {tr : List (S × List S)} {en : Option (List S)} {A : Around} {a : Addr} {n : Nat} {R : Result → Shared → Prop}
theorem Slp.trans {s s' s'' : Shared} (h : Slp own s s') (k : Slp own s' s'') : Slp own s s'' := ⟨k.os.trans h.os, k.bare, fun b o hb e => k.keep b o hb (h.keep b o hb e), k.own⟩
theorem gSt.slp {j : Nat} {s s' : Shared} {x : S × List S} (h : gSt X G N own L tr en A n j s) (hA : OwnOk X own) (hj : j ≠ 0) (hx : tr[j - 1]? = some x) (z : Slp own s s') (hg : s'.gens = s.gens) : gSt X G N own L tr en A n j s' := by
  obtain ⟨h1, h2, h3, gs, h4, h5⟩ := h
  exact ⟨z.bare, fun y hj hy => (h2 y hj hy).woken hA z, ((h2 x hj hx).woken hA z).nolimit, gs, by rw [hg]; exact h4, fun ho s'' z' => h5 ho s'' (z.trans z')⟩
theorem sum_walk {S0 : Addr} {ρ : List S} {tot : Int} (hh : A.handled = none) (hroom : A.in1.depth < recursionLimit) (hA : OwnOk X [S0]) (hG : ∀ ρ s, Lv X G N [S0] L ρ s → s.heap.IsGen a n) : ∀ (k j : Nat) (s : Shared) (acc : Int) (tA : Tok) (c : Nat), tr.length - j = k → j ≤ tr.length → s.heap.IsGen a n → gSt X G N [S0] L tr (some ρ) A.in1 n j s → sumV (tr.drop j) acc = some tot →
    s.heap.get? S0 = some { cls := .type "list", dict := none, data := .seq #[.int acc tA] c, slots := #[] } →
    (∀ s' t', Lv X G N [S0] L ρ s' → R (.ok (.ret (.int tot t'))) s') → codeAny (model X.prog X.w) A (.builtin "sum.loop" ⟨[.ref a, .ref S0, rawInt 0, rawInt 0], []⟩) R s := by
  intro k
  induction k with
  | zero =>
    intro j s acc tA c hk hj hg hst hv hS hR
    have hjn : j = tr.length := by omega
    subst hjn
    rw [List.drop_length] at hv
    simp only [sumV, Option.some.injEq] at hv
    subst hv
    refine codeAny_builtin F.entry_sum_loop ?_
    rw [Around.under_plainId F.plain_sum_loop _]
    show wpAny _ A.in1 (seqItems? (.ref S0) >>= _) _ _ s
    refine wpAny_bind (wpAny_seqItems hS rfl ?_)
    show wpAny _ A.in1 (tryCatch (pyNext (.ref a)) _ >>= _) _ _ s
    refine wpAny_bind (wpAny_tryCatch (gen_done hA hh hroom hg hst (fun b hb => ?_) fun s' hL => ?_))
    · rw [List.mem_singleton.mp hb]
      exact ⟨_, hS, fun v z => by cases z⟩
    · exact wpAny_pure (hR s' tA hL)
  | succ k ih =>
    intro j s acc tA c hk hj hg hst hv hS hR
    have hlt : j < tr.length := by omega
    have ex : tr[j]? = some tr[j] := List.getElem?_eq_getElem hlt
    rw [List.drop_eq_getElem_cons hlt] at hv
    refine codeAny_builtin F.entry_sum_loop ?_
    rw [Around.under_plainId F.plain_sum_loop _]
    show wpAny _ A.in1 (seqItems? (.ref S0) >>= _) _ _ s
    refine wpAny_bind (wpAny_seqItems hS rfl ?_)
    show wpAny _ A.in1 (tryCatch (pyNext (.ref a)) _ >>= _) _ _ s
    refine wpAny_bind (wpAny_tryCatch (gen_item hA hh hroom hg ex hst (fun b hb => by
      rw [List.mem_singleton.mp hb]
      exact ⟨_, hS, fun v z => by cases z⟩) fun v s' hvo hst' hO => ?_))
    have hL := hst'.2.1 _ (Nat.succ_ne_zero j) ex
    have hS' := (hO S0 (List.mem_singleton.mpr rfl)).trans hS
    obtain ⟨⟨z, ρj⟩, htj⟩ : ∃ q, tr[j] = q := ⟨_, rfl⟩
    rw [htj] at hv hvo
    cases z with
    | d y =>
      cases y with
      | int i =>
        obtain ⟨t, ev⟩ := hvo
        subst ev
        unfold sumV at hv
        split at hv
        · rename_i hin
          have hc : ((decide (-(2 ^ 63) ≤ i) && decide (i < 2 ^ 63)) && (decide (-(2 ^ 63) ≤ acc + i) && decide (acc + i < 2 ^ 63))) = true := hin
          show wpAny _ A.in1 (if (_ : Bool) = true then (mkInt (acc + i) >>= _) else _) _ _ _
          split
          · refine wpAny_bind (wpAny_mkInt ?_)
            show wpAny _ A.in1 (updateSeq S0 (fun _ => #[.int (acc + i) s'.toks]) >>= _) _ _ _
            refine wpAny_bind ?_
            refine wpAny_updateSeq hS' rfl (wpAny_pure ⟨plainId_quiet F.plain_sum_loop _, ?_⟩)
            have z : Slp [S0] s' { s' with toks := s'.toks + 1, heap := s'.heap.update S0 (Obj.mapSeq fun _ => #[.int (acc + i) s'.toks]) } := ⟨rfl, hst'.1, fun b o hb e => (Heap.get?_update_other _ _ (fun h => hb (by rw [← h]; exact List.mem_singleton.mpr rfl))).trans e, fun b hb => by
              rw [List.mem_singleton.mp hb]
              exact ⟨_, Heap.get?_update_self _ hS' rfl, fun v q => by cases q⟩⟩
            have hst2 := gSt.slp hst' hA (Nat.succ_ne_zero j) (by rw [Nat.add_sub_cancel]; exact ex) z rfl
            exact ih (j + 1) _ (acc + i) s'.toks _ (by omega) hlt (hG _ _ (hL.woken hA z)) hst2 hv (Heap.get?_update_self _ hS' rfl) hR
          · rename_i hneg
            exact absurd hc hneg
        · cases hv
      | _ => simp [sumV] at hv
    | _ => simp [sumV] at hv
end
section
variable {X : Cx} {G : Gx} {N : Pn} {W : WX} {own : List Addr} {elt iter target : Expr} {ifs : List Expr} {scope : Scope} {gpos pos p0 : Pos} {stp : S → Bool} {t : Tg} {c : M Bool} {f : M S} {es : List Expr} {as : List Arg}
  {pins : List (Addr × Obj)} {σ : L2.St} {ρ : List S} {st : Stk} {H : Hp} {s : Shared} {m : Nat} {Ng : List Str} {r : List V → Hp → (It → Hp → Prop) → Prop} {io : List S → Option (List D)} {fin : List (S × List S) → Option (List S) → Option S} {c0 P : Addr} {k : Nat} {Q : VK}
/-- what a rule for a consumed generator expression asks -/
structure GenH (X : Cx) (G : Gx) (N : Pn) (W : WX) (k m : Nat) (Ng : List Str) (c0 P : Addr) (scope : Scope) (target iter : Expr) (ifs : List Expr) (elt : Expr) (es : List Expr) (as : List Arg) (r : List V → Hp → (It → Hp → Prop) → Prop) (io : List S → Option (List D)) (t : Tg) (c : M Bool) (f : M S) : Prop where
  room : Room (k + 1) X.A
  tab : LamX.TabB X.base X.mg c0 P
  code : X.env.code = .ref c0
  sc : GSc X.env.scope scope
  q : (P, X.env.qual ++ "<genexpr>") ∈ G.T
  nq : ∀ p ∈ G.T, p.1 = P → p.2 = X.env.qual ++ "<genexpr>"
  it : PI X target iter (fun σ H R => sAs X es σ H fun vs H1 => r vs H1 R)
  fold : ∀ v, genFold iter X.env v = pure v
  names : gnB scope (Ng.drop m) X.N = true
  le : m ≤ Ng.length
  one : ifs.length ≤ 1
  part : GPart G X Ng m k scope target ifs elt t c f
  args : AX G N X W es as
  its : ItS G r io
theorem gen_core {Q' : Value → Shared → Prop} (g : GenH X G N W k m Ng c0 P scope target iter ifs elt es as r io t c f) (h : Hs G N H σ ρ st) (I : Inv X pins σ H s) (p : pst G N W σ st (fun z ρ' => ∀ v H', Hs G N H' σ ρ' ((some v, z) :: st) → Q v H') (mGen m as io stp t c f fin ρ))
    (hV : ∀ tr en z, fin tr en = some z → ∀ x ∈ tr, isV x.1 = true)
    (hQ : ∀ a n s5 Xg Np L tr en z ρ1 ρ2 items, fin tr en = some z → endR tr en = some ρ2 → trL stp t c f items ρ1 = some (tr, en) → GMd X G N pins σ m L tr en Xg Np a n s5 →
      (∀ own s', Lv Xg G Np own L ρ2 s' → ∀ v u x, z = .d x → (∀ F : Hp, RD G F x v) → RelV v u → EP X pins σ Q u s') → Q' (.ref a) s5) :
    wpAny (model X.prog X.w) X.A (eval (.GeneratorExp elt [⟨target, iter, ifs, 0⟩] scope gpos) X.env) Q' X.xe s := by
  refine gen_make (N := N) (st := st) (stp := stp) (R := fun src items ρ2 => ∃ avs vs xs, AVR σ avs vs ∧ vs.length = xs.length ∧ src = zs vs xs ∧
      pst G N W σ st (fun z ρ' => ∀ v H', Hs G N H' σ ρ' ((some v, z) :: st) → Q v H') (match trL stp t c f items (List.replicate m .gone ++ ρ2) with
      | none => (.stuck : Res S)
      | some q => match endR q.1 q.2, fin q.1 q.2 with
        | some ρ', some z => .ok z (lay (ρ'.drop m) avs xs xs)
        | _, _ => .stuck)) g.room g.tab g.code g.sc g.q g.nq g.it g.fold g.names g.le g.one g.part I ?_ ?_
  · unfold mGen at p
    refine g.args.bind h p fun avs ρ1 vs H1 r1 h1 p1 => ?_
    cases eg : grab ρ1 avs with
    | none =>
      rw [eg] at p1
      exact p1.elim
    | some q =>
      obtain ⟨xs, ρ2⟩ := q
      rw [eg] at p1
      simp only at p1
      obtain ⟨l, h2⟩ := grab_ok r1 h1 eg
      cases ei : io xs with
      | none =>
        rw [ei] at p1
        exact p1.elim
      | some items =>
        rw [ei] at p1
        exact g.its N σ ρ2 st H1 vs xs items _ l h2 ei fun J H2 ok h3 => ⟨zs vs xs, items, ρ2, ok, h3, avs, vs, xs, r1, l, rfl, p1⟩
  · rintro src items ρ1 a n s5 Xg Np ⟨avs, vs, xs, r1, l, esrc, p1⟩ hmd
    subst esrc
    cases et : trL stp t c f items (List.replicate m .gone ++ ρ1) with
    | none =>
      rw [et] at p1
      exact p1.elim
    | some q =>
      obtain ⟨tr, en⟩ := q
      rw [et] at p1
      simp only at p1
      cases ee : endR tr en with
      | none =>
        rw [ee] at p1
        exact p1.elim
      | some ρ2 =>
        cases ef : fin tr en with
        | none =>
          rw [ee, ef] at p1
          exact p1.elim
        | some z =>
          rw [ee, ef] at p1
          have md := hmd tr en et (hV tr en z ef)
          refine hQ a n s5 Xg Np _ tr en z _ ρ2 items ef ee et md fun own s' hL v u x ez hx rv => ?_
          obtain ⟨H', J, h4⟩ := md.back own ρ2 s' hL
          subst ez
          refine ⟨v, H', J, rv, p1 v H' ?_⟩
          have h5 : Hs G N H' σ (ρ2.drop m) ((some v, .d x) :: (zs vs xs ++ st)) := h4.new hx
          exact lay_ok (xs := xs) r1 l.symm l.symm (h5.perm List.perm_middle.symm)
theorem boot_any : bootBuiltins "any" = some (.builtin "any") := by decide +kernel
theorem boot_all : bootBuiltins "all" = some (.builtin "all") := by decide +kernel
theorem boot_sum : bootBuiltins "sum" = some (.builtin "sum") := by decide +kernel
theorem in1_depth : (X.A.in1).depth = X.A.depth := rfl
theorem ex_any (g : GenH X G N W k m Ng c0 P scope target iter ifs elt es as r io t c f) (hgl : Gl X "any" := by rfl) (hm : X.mg "any" = none := by rfl)
    (he : starEach [.GeneratorExp elt [⟨target, iter, ifs, 0⟩] scope gpos] X.env = (false, eval (.GeneratorExp elt [⟨target, iter, ifs, 0⟩] scope gpos) X.env) :: starEach [] X.env := by rfl) :
    EX G N X W (.Call (.Name "any" p0) [.GeneratorExp elt [⟨target, iter, ifs, 0⟩] scope gpos] [] pos) (mAny m as io t c f) := fun σ ρ st H Q h p pins s I => by
  refine wpAny_Call_Name_kw (ld_blt I hgl hm boot_any ?_)
  refine PyProof.Rows.callWith_builtin1 ?_ he (by rfl)
  rw [he]
  show wpAny _ _ (spliced ((false, eval (.GeneratorExp elt [⟨target, iter, ifs, 0⟩] scope gpos) X.env) :: backTo pos (starEach [] X.env))) _ _ s
  refine Calls.spliced_cons (gen_core (fin := finAny) g h I p (fun tr en z e => ?_) fun a n s5 Xg Np L tr en z ρ1 ρ2 items ef ee et md back => ?_)
  · unfold finAny at e
    split at e
    · exact isB_isV ‹_›
    · cases e
  refine Calls.spliced_nil ?_
  unfold finAny at ef
  split at ef
  · rename_i hb
    cases ef
    refine call_function_tree F.kind_any F.plain_any F.entry_any (F.args_any1 _) ?_
    unfold Builtin.«any»
    refine wpAny_bind (m := oneArg "any" _) (wpAny_pure ?_)
    refine wpAny_bind (wpAny_pyIter_gen md.gen ?_)
    refine wpAny_pure ⟨plainId_quiet F.plain_any_loop _, ?_⟩
    have b0 := md.begin [] s5 (fun b hb => by simp at hb) rfl rfl fun _ _ e => e
    have hw := any_walk (A := X.A) (X := Xg) (R := fun r s' => ∃ b : Bool, r = .ok (.ret (.bool b)) ∧ EP X pins σ Q (.bool b) s') g.room.hd (by have := g.room.dp; show X.A.depth < _; omega) (fun ρ s h => md.isg _ _ _ _ h) (quits_any et hb) tr.length 0 s5 rfl (Nat.zero_le _) (fun e0 => by
      have := (quits_any et hb).1 e0
      exact List.length_pos_iff.mpr this) md.gen b0.1 fun s' ρ' e' hL => by
        rw [ee] at e'
        cases e'
        exact ⟨_, rfl, back [] s' hL (.bl en.isNone) (.bool en.isNone) (.bl en.isNone) rfl (fun _ => rfl) rfl⟩
    rw [md.prog, md.w] at hw
    refine codeAny_mono hw fun r s' ⟨b, er, q⟩ => ?_
    subst er
    exact q
  · cases ef
theorem ex_all (g : GenH X G N W k m Ng c0 P scope target iter ifs elt es as r io t c f) (hgl : Gl X "all" := by rfl) (hm : X.mg "all" = none := by rfl)
    (he : starEach [.GeneratorExp elt [⟨target, iter, ifs, 0⟩] scope gpos] X.env = (false, eval (.GeneratorExp elt [⟨target, iter, ifs, 0⟩] scope gpos) X.env) :: starEach [] X.env := by rfl) :
    EX G N X W (.Call (.Name "all" p0) [.GeneratorExp elt [⟨target, iter, ifs, 0⟩] scope gpos] [] pos) (mAll m as io t c f) := fun σ ρ st H Q h p pins s I => by
  refine wpAny_Call_Name_kw (ld_blt I hgl hm boot_all ?_)
  refine PyProof.Rows.callWith_builtin1 ?_ he (by rfl)
  rw [he]
  show wpAny _ _ (spliced ((false, eval (.GeneratorExp elt [⟨target, iter, ifs, 0⟩] scope gpos) X.env) :: backTo pos (starEach [] X.env))) _ _ s
  refine Calls.spliced_cons (gen_core (fin := finAll) g h I p (fun tr en z e => ?_) fun a n s5 Xg Np L tr en z ρ1 ρ2 items ef ee et md back => ?_)
  · unfold finAll at e
    split at e
    · exact isB_isV ‹_›
    · cases e
  refine Calls.spliced_nil ?_
  unfold finAll at ef
  split at ef
  · rename_i hb
    cases ef
    refine call_function_tree F.kind_all F.plain_all F.entry_all (F.args_all1 _) ?_
    unfold Builtin.«all»
    refine wpAny_bind (m := oneArg "all" _) (wpAny_pure ?_)
    refine wpAny_bind (wpAny_pyIter_gen md.gen ?_)
    refine wpAny_pure ⟨plainId_quiet F.plain_all_loop _, ?_⟩
    have b0 := md.begin [] s5 (fun b hb => by simp at hb) rfl rfl fun _ _ e => e
    have hw := all_walk (A := X.A) (X := Xg) (R := fun r s' => ∃ b : Bool, r = .ok (.ret (.bool b)) ∧ EP X pins σ Q (.bool b) s') g.room.hd (by have := g.room.dp; show X.A.depth < _; omega) (fun ρ s h => md.isg _ _ _ _ h) (quits_all et hb) tr.length 0 s5 rfl (Nat.zero_le _) (fun e0 => by
      have := (quits_all et hb).1 e0
      exact List.length_pos_iff.mpr this) md.gen b0.1 fun s' ρ' e' hL => by
        rw [ee] at e'
        cases e'
        exact ⟨_, rfl, back [] s' hL (.bl en.isSome) (.bool en.isSome) (.bl en.isSome) rfl (fun _ => rfl) rfl⟩
    rw [md.prog, md.w] at hw
    refine codeAny_mono hw fun r s' ⟨b, er, q⟩ => ?_
    subst er
    exact q
  · cases ef
theorem ex_sum (g : GenH X G N W k m Ng c0 P scope target iter ifs elt es as r io t c f) (hgl : Gl X "sum" := by rfl) (hm : X.mg "sum" = none := by rfl)
    (he : starEach [.GeneratorExp elt [⟨target, iter, ifs, 0⟩] scope gpos] X.env = (false, eval (.GeneratorExp elt [⟨target, iter, ifs, 0⟩] scope gpos) X.env) :: starEach [] X.env := by rfl) :
    EX G N X W (.Call (.Name "sum" p0) [.GeneratorExp elt [⟨target, iter, ifs, 0⟩] scope gpos] [] pos) (mSum m as io t c f) := fun σ ρ st H Q h p pins s I => by
  refine wpAny_Call_Name_kw (ld_blt I hgl hm boot_sum ?_)
  refine PyProof.Rows.callWith_builtin1 ?_ he (by rfl)
  rw [he]
  show wpAny _ _ (spliced ((false, eval (.GeneratorExp elt [⟨target, iter, ifs, 0⟩] scope gpos) X.env) :: backTo pos (starEach [] X.env))) _ _ s
  refine Calls.spliced_cons (gen_core (fin := finSum) g h I p (fun tr en z e => ?_) fun a n s5 Xg Np L tr en z ρ1 ρ2 items ef ee et md back => ?_)
  · unfold finSum at e
    split at e
    · simp only [Option.map_eq_some_iff] at e
      obtain ⟨i, e1, _⟩ := e
      exact sumV_isV e1
    · cases e
  refine Calls.spliced_nil ?_
  unfold finSum at ef
  split at ef
  · rename_i hen
    simp only [Option.map_eq_some_iff] at ef
    obtain ⟨tot, hsum, ez⟩ := ef
    subst ez
    obtain ⟨ρ', een⟩ := Option.isSome_iff_exists.mp hen
    subst een
    cases ee
    refine call_function_tree F.kind_sum F.plain_sum F.entry_sum (F.args_sum1 _) ?_
    unfold Builtin.«sum»
    simp only [List.length_cons, List.length_nil]
    rw [if_neg (by decide)]
    refine wpAny_bind (wpAny_of_eq (show Builtin.Builtins.bindParams "sum" ["start"] 0 { } = pure [none] from rfl) ?_)
    refine wpAny_bind (wpAny_pyIter_gen md.gen ?_)
    refine wpAny_bind (wpAny_mkInt ?_)
    refine wpAny_bind (wpAny_pure ?_)
    simp only [List.forIn_cons, List.forIn_nil]
    refine wpAny_bind (wpAny_bind (wpAny_bind (wpAny_isInstance (T := "int") (b := false) (typeIs_int _ _ _) PySem.sub_int_str ?_)))
    simp only [Bool.false_eq_true, if_false]
    refine wpAny_pure (wpAny_bind (wpAny_bind (wpAny_isInstance (T := "int") (b := false) (typeIs_int _ _ _) PySem.sub_int_bytes ?_)))
    simp only [Bool.false_eq_true, if_false]
    refine wpAny_pure (wpAny_bind (wpAny_bind (wpAny_isInstance (T := "int") (b := false) (typeIs_int _ _ _) PySem.sub_int_bytearray ?_)))
    simp only [Bool.false_eq_true, if_false]
    refine wpAny_pure (wpAny_pure ?_)
    refine wpAny_bind (wpAny_newObj_type ?_)
    refine wpAny_pure ⟨plainId_quiet F.plain_sum_loop _, ?_⟩
    have b0 := md.begin [s5.heap.objs.size] { s5 with heap := s5.heap.push { cls := .type "list", dict := none, data := .seq #[.int 0 s5.toks] 0, slots := #[] }, toks := s5.toks + 1 } (fun b hb => by
      rw [List.mem_singleton.mp hb]
      exact ⟨Nat.le_refl _, _, Heap.get?_push_size _ rfl, fun v q => by cases q⟩) rfl rfl fun _ _ e => Heap.get?_push_of_some _ e
    have hw := sum_walk (A := X.A) (X := Xg) (R := fun r s' => ∃ u, r = .ok (.ret u) ∧ EP X pins σ Q u s') g.room.hd (by have := g.room.dp; show X.A.depth < _; omega) b0.2 (fun ρ s h => md.isg _ _ _ _ h) tr.length 0 _ 0 s5.toks 0 rfl (Nat.zero_le _) (md.gen.push _) b0.1 hsum (Heap.get?_push_size _ rfl) fun s' t' hL => ⟨_, rfl, back [s5.heap.objs.size] s' hL (.int tot) (.int tot t') (.int tot) rfl (fun _ => rfl) ⟨t', rfl⟩⟩
    rw [md.prog, md.w] at hw
    refine codeAny_mono hw fun r s' ⟨b, er, q⟩ => ?_
    subst er
    exact q
  · cases ef
end
end DL
/-! the data layer: a def whose code object is known; a lambda handed to a def that calls it in a try -/
namespace DL
open PySem PySem.Spec PyProof.Rows L2
/-- a def of the text: the function at f, its code object at c -/
structure FunC (K : PySem.W.Frag) (x qual : Str) (stm : Stmt) (f c : Addr) (fd : FuncData) : Prop where
  ex : ∃ (oc : Value) (od : Option Addr) (kV doc pm : Value) (an : Option Addr) (ct : Value) (osl : Array (Option Value)),
    fd = PySem.W.fnOf x qual (defArgs stm) (defBody stm) (defScope stm) .none kV doc pm an (.ref c) ct ∧ K.lookup f = some ⟨oc, od, .func fd, osl⟩ ∧ PySem.W.codeIn K (.ref c) qual = true
  kp : PySem.W.keepIn K (.ref f) = true
section
variable {G : Gx} {P : Program} {w : World} {K : PySem.W.Frag} {mg : Str → Option Value} {base : Heap} {x qual : Str} {stm : Stmt} {f c : Addr} {fd : FuncData} {Nn ps : List Str} {k : Nat} {J : List Nat} {g : B}
theorem FunC.binds (F : FunC K x qual stm f c fd)
    (h : ∀ (kV doc pm : Value) (an : Option Addr) (cdv ct : Value) (us : List Value), us.length = ps.length → bindArgs (PySem.W.fnOf x qual (defArgs stm) (defBody stm) (defScope stm) .none kV doc pm an cdv ct) ⟨us, []⟩ = pure (ps.zip us)) : Binds K fd ps [] := by
  obtain ⟨oc, od, kV, doc, pm, an, ct, osl, rfl, lk, hcd⟩ := F.ex
  exact .all (h kV doc pm an (.ref c) ct)
/-- THE RULE for a def of the text, its code object known -/
theorem fn_ownC (F : FunC K x qual stm f c fd) (S0 : FnScope Nn ps (defScope stm))
    (hb : ∀ (A : Around) (outer : List Env) (s : Shared) (H : Hp) (s0 : L2.St) (E : XK), Room k (A.deeper (envOfC qual (defScope stm) s.heap.objs.size f (.ref c))) →
      BX G ⟨J, s0⟩ (cxOf (L2.CX P w) P w K mg base Nn qual (defScope stm) f (.ref c) A outer s H E) (fun cls d _ H => E cls d H) (defBody stm) g) :
    FnOk P w K mg base (L2.CX P w) (k + 1) f fd ps (spD G (fnOp ps.length Nn.length J g)) := by
  obtain ⟨oc, od, kV, doc, pm, an, ct, osl, rfl, lk, hcd⟩ := F.ex
  refine fn_of lk hcd S0 (fun vs H Q E h => ?_) (fun A outer s H vs Q E hr h => ?_)
  · obtain ⟨N, σ, ρ, st, xs, l, hs, p⟩ := h
    rw [l]
    unfold fnOp at p
    by_cases hx : xs.length = ps.length
    · exact hx
    · rw [if_neg hx] at p
      exact p.elim
  · obtain ⟨N, σ, ρ, st, xs, l, hs, p⟩ := h
    unfold fnOp at p
    by_cases hx : xs.length = ps.length
    · rw [if_pos hx] at p
      refine ⟨_, pss_sem, ?_⟩
      have h1 := frame_in (Nn := Nn) (J := J) l hs
      refine hb A outer s H (start Nn vs) E hr _ _ _ _ _ h1 ?_
      rw [hx]
      cases hg : g (xs ++ List.replicate (Nn.length - ps.length) .gone) with
      | nx ρ1 =>
        rw [hg] at p
        intro σ1 H1 h2
        refine p.2 .non H1 ?_
        rw [outs_of l hx]
        exact frame_out (A := [(some .non, .d .non)]) hs (h2.new fun _ => rfl)
      | rt s1 ρ1 =>
        rw [hg] at p
        intro v σ1 H1 h2
        refine p.2 v H1 ?_
        rw [outs_of l hx]
        exact frame_out (A := [(some v, s1)]) hs h2
      | exc c q ρ1 =>
        rw [hg] at p
        intro cls d σ1 H1 ex h2
        refine p.2 cls d H1 ex ?_
        rw [outs_of l hx]
        exact frame_out (A := []) hs h2
      | bk ρ1 =>
        rw [hg] at p
        exact p.elim
      | ct ρ1 =>
        rw [hg] at p
        exact p.elim
      | stuck =>
        rw [hg] at p
        exact p.elim
    · rw [if_neg hx] at p
      exact p.elim
end
/-! ### told -/
/-- the clauses: class by class its text -/
inductive Cls8 (sg : Scope) (mg : Str → Option Value) : List ExceptHandler → List (Addr × Str) → Prop
  | nil : Cls8 sg mg [] []
  | cons {e ret : Str} {C : Addr} {j : Nat} {p4 p5 p6 p7 : Pos} {hds : List ExceptHandler} {l : List (Addr × Str)} (hn : sg.names.lookup e = some .globalImplicit) (hm : mg e = some (.ref C)) (hd : (e == ("__debug__" : Str)) = false) (r : Cls8 sg mg hds l) :
      Cls8 sg mg (.ExceptHandler (some (.Name e p4)) none [.Return (some (.Constant (.str ret) j p5)) p6] p7 :: hds) ((C, ret) :: l)
def clW (K : PySem.W.Frag) (Q : VK) : List (Addr × Str) → Value → Hp → Prop
  | [], _, _ => False
  | (C, ret) :: r, cls, H => ∃ b, PySem.W.exmOne K cls (.ref C) = some b ∧ (b = true → Q (.str ret) H) ∧ (b = false → clW K Q r cls H)
def TTm (K : PySem.W.Frag) (cs : List (Addr × Str)) : (XK → Hp → VK → Prop) → Hp → VK → Prop := fun tl H Q => tl (fun cls _ H' => clW K Q cs cls H') H Q
theorem cls_hds {Y : Cx} : ∀ {hds : List ExceptHandler} {l : List (Addr × Str)}, Cls8 Y.env.scope Y.mg hds l → HdsOk Y hds (l.map fun p => (.ref p.1, fun _ _ _ => tRet (tC (.str p.2))))
  | _, _, .nil => .nil
  | _, _, .cons hn hm hd r => .cons ⟨hn, hd, .inl hm⟩ (fun a oe cls d pn _ _ => pss_one (ps_ret pe_str)) (cls_hds r)
theorem clW_many {K : PySem.W.Frag} {Q : VK} {D : Ends} (hD : D.rt = Q) : ∀ {l : List (Addr × Str)} {cls : Value} {d : Option Addr} {σ : L2.St} {H : Hp}, clW K Q l cls H → wMany K (fun _ _ _ _ => False) D (l.map fun p => (.ref p.1, fun _ _ _ => tRet (tC (.str p.2)))) cls d σ H
  | [], _, _, _, _, h => h
  | (C, ret) :: r, cls, d, σ, H, h => by
    obtain ⟨b, h1, h2, h3⟩ := h
    refine ⟨b, h1, fun hb a _ => ?_, fun hb => clW_many hD (h3 hb)⟩
    show D.rt (.str ret) H
    rw [hD]
    exact h2 hb
theorem told_many {X : Cx} {Ng : List Str} {x a q : Str} {sg : Scope} {g : Addr} {cdg : Value} {h0 : ExceptHandler} {hds : List ExceptHandler} {cs : List (Addr × Str)} {p1 p2 p3 p8 : Pos} (hc : Cls8 sg X.mg (h0 :: hds) cs) (hs : ∀ f : Addr, (L2.start Ng [V.ref f])[0]? = some (some (V.ref f))) :
    LamX.GivesTo X Ng x sg g cdg [.Try [.Return (some (.Call (.Name a p1) [] [] p2)) p3] (h0 :: hds) [] [] p8] a q (TTm X.K cs) := by
  intro f c' s H Q tl act hco h
  refine ⟨_, pss_one (ps_try_many (X := (cxOf C8.CX0 X.prog X.w X.K X.mg X.base Ng x sg g cdg X.A X.stack s H C8.E0).nox)
      (tb := fun W D σ H => ∃ Ech : XK, (∀ cls d σ' H', Ech cls d H' → W cls d σ' H') ∧ σ[0]? = some (some (.ref f)) ∧ H c' = some (LamX.CodeO c' q) ∧ tl Ech H D.rt)
      rfl rfl LamX.takes0 (fun W pn xe tk _ => ?_) (cls_hds hc)), ?_⟩
  · refine ⟨fun pins s' σ H' D I h' => ?_⟩
    obtain ⟨Ech, hW, h1, h2, h3⟩ := h'
    exact (pss_one (ps_ret (pos := p3) (act W pn xe Ech p1 p2 tk hW))).run pins s' σ H' D I ⟨h1, h2, h3⟩
  · exact ⟨fun cls _ H' => clW X.K Q cs cls H', fun cls d σ' H' z => clW_many rfl z, hs f, hco, h⟩
/-- E told: its value, or its refusal's text -/
def mTold (tbl : List (Nat × Str)) (f : M S) : M S := fun ρ => match f ρ with
  | .ok s ρ' => .ok s ρ'
  | .exc c _ ρ' => match tbl.lookup c with
    | some r => .ok (.d (.str r)) ρ'
    | none => .stuck
  | .stuck => .stuck
/-- the def that tells -/
structure ToldF (K : PySem.W.Frag) (mg : Str → Option Value) (G : Gx) (x a : Str) (tbl : List (Nat × Str)) : Prop where
  ex : ∃ (stm : Stmt) (g cg : Addr) (fd : FuncData) (h0 : ExceptHandler) (hds : List ExceptHandler) (p1 p2 p3 p8 : Pos), FunC K x x stm g cg fd ∧ mg x = some (.ref g) ∧ Binds K fd [a] [] ∧ FnScope [a] [a] (defScope stm) ∧
    defBody stm = [.Try [.Return (some (.Call (.Name a p1) [] [] p2)) p3] (h0 :: hds) [] [] p8] ∧ Cls8 (defScope stm) mg (h0 :: hds) (tbl.map fun p => (G.cl p.1, p.2))
  exm : ∀ c ∈ tbl, ∀ d ∈ tbl, PySem.W.exmOne K (.ref (G.cl c.1)) (.ref (G.cl d.1)) = some (c.1 == d.1)
theorem clW_of {K : PySem.W.Frag} {G : Gx} {Q : VK} {H : Hp} {c : Nat} {r : Str} : ∀ {tbl : List (Nat × Str)}, (∀ d ∈ tbl, PySem.W.exmOne K (.ref (G.cl c)) (.ref (G.cl d.1)) = some (c == d.1)) → tbl.lookup c = some r → Q (.str r) H → clW K Q (tbl.map fun p => (G.cl p.1, p.2)) (.ref (G.cl c)) H
  | [], _, h, _ => by cases h
  | (d, z) :: tbl, he, h, q => by
    refine ⟨c == d, he (d, z) List.mem_cons_self, fun hb => ?_, fun hb => ?_⟩
    · rw [List.lookup_cons, hb] at h
      cases h
      exact q
    · rw [List.lookup_cons, hb] at h
      exact clW_of (fun d hd => he d (List.mem_cons_of_mem _ hd)) h q
theorem lookup_in {c : Nat} {r : Str} : ∀ {tbl : List (Nat × Str)}, tbl.lookup c = some r → (c, r) ∈ tbl
  | [], h => by cases h
  | (d, z) :: tbl, h => by
    rw [List.lookup_cons] at h
    cases hb : c == d with
    | true =>
      rw [hb] at h
      cases h
      rw [beq_iff_eq.mp hb]
      exact List.mem_cons_self
    | false =>
      rw [hb] at h
      exact List.mem_cons_of_mem _ (lookup_in h)
section
variable {G : Gx} {N : Pn} {X : Cx} {W : WX}
theorem ex_told {x a : Str} {c P : Addr} {k : Nat} {tbl : List (Nat × Str)} {params : Arguments} {body : Expr} {scope : Scope} {p lpos pos : Pos} {f : M S} (F : ToldF X.K X.mg G x a tbl) (TB : LamX.TabB X.base X.mg c P) (hcode : X.env.code = .ref c) (hmT : (P, X.env.qual ++ "<lambda>") ∈ G.T)
    (hu : ∀ p ∈ G.T, p.1 = P → p.2 = X.env.qual ++ "<lambda>") (hr : Room (k + 2) X.A) (L : LamX.LamS X.env.scope scope)
    (hbody : ∀ (A : Around) (outer : List Env) (s : Shared) (H : Hp) (E : XK) (f' c' : Addr), Room k (A.deeper (LamX.lamEnv X scope s.heap.objs.size f' c')) → EX G N (LamX.lamCx X A outer s H E scope f' c') (fun cls d _ H => E cls d H) body f)
    (hgl : Gl X x := by rfl) (hdef : defaultsOf params X.env = ([], []) := by rfl)
    (hbind : ∀ (q : Str) (cl : List (Str × Addr)) (pm cv ctv : Value), bindArgs (PySem.W.kla_fn "<lambda>" q params body scope cl pm cv ctv) ⟨[], []⟩ = pure [] := by intros; rfl)
    (hdb : (x == ("__debug__" : Str)) = false := by decide) (hd : (a == ("__debug__" : Str)) = false := by decide) (hcd : (a == ("__classdict__" : Str)) = false := by decide) :
    EX G N X W (.Call (.Name x p) [.Lambda params body scope lpos] [] pos) (mTold tbl f) := fun σ ρ st H Q h q => by
  obtain ⟨stm, g, cg, fd, h0, hds, p1, p2, p3, p8, FC, hm, hb, Sg, ebody, hc⟩ := F.ex
  obtain ⟨oc, od, kV, doc, pm, an, ct, osl, rfl, lk, hcg⟩ := FC.ex
  rw [ebody] at lk hb
  have tg := told_many (X := X) (Ng := [a]) (x := x) (a := a) (q := X.env.qual ++ "<lambda>") (g := g) (cdg := .ref cg) (p1 := p1) (p2 := p2) (p3 := p3) (p8 := p8) hc fun f => rfl
  have va : Vis (defScope stm) a := by
    rcases Sg.par a List.mem_cons_self with z | z
    · exact .inl z
    · exact .inr (.inl z)
  refine sE_of (LamX.pe_lamcall (T := G.T) (k := k) (t := fun E => fun σ H Q => ∀ (A : Around) (outer : List Env) (s : Shared) (H0 : Hp) (f' c' : Addr), Room k (A.deeper (LamX.lamEnv X scope s.heap.objs.size f' c')) → sE (LamX.lamCx X A outer s H0 E scope f' c') body σ H Q)
    hgl hm FC.kp lk hcg hb Sg rfl va tg TB hcode hmT hu hr L hdef hbind (fun A outer s H E f' c' hr => ⟨fun pins s' σ' H' Q' I q => q A outer s H f' c' hr pins s' I⟩) hdb hd hcd) ?_
  refine ⟨h.tb, fun H1 eN T1 => ?_⟩
  intro A outer s H0 f' c' hr'
  have h1 : Hs G N H1 σ ρ st := h.grow ⟨eN, T1⟩
  refine hbody A outer s H0 _ f' c' hr' σ ρ st H1 _ h1 ?_
  unfold mTold at q
  cases hf : f ρ with
  | ok s ρ1 =>
    rw [hf] at q
    exact q
  | stuck =>
    rw [hf] at q
    exact q
  | exc cn pd ρ1 =>
    rw [hf] at q
    simp only at q
    cases hl : tbl.lookup cn with
    | none =>
      rw [hl] at q
      exact q.elim
    | some r =>
      rw [hl] at q
      intro cls d H' ⟨ecls, _⟩ h2
      subst ecls
      have hin := lookup_in hl
      exact clW_of (fun d hd => F.exm (cn, r) hin d hd) hl (q (.str r) H' (h2.new fun _ => rfl))
end
end DL
/-! the data layer: operations -/
namespace DL
open PySem PySem.Spec PyProof.Rows L2
/-- the items of a list or a tuple -/
def seqS : S → Option (List D)
  | .l xs => some xs
  | .d (.lst xs) => some xs
  | .d (.tup xs) => some xs
  | _ => none
def lstS : S → Option (List D)
  | .l xs => some xs
  | .d (.lst xs) => some xs
  | _ => none
def tupS : S → Option (List D)
  | .d (.tup xs) => some xs
  | _ => none
section
variable {G : Gx} {N : Pn} {W : WX} {H H' : Hp} {σ : L2.St} {ρ : List S} {st : Stk}
/-- an owned or settled list: its items, settled, on the stack -/
theorem Hs.itemsL {v : V} {s : S} {xs : List D} (h : Hs G N H σ ρ ((some v, s) :: st)) (e : lstS s = some xs) : ∃ a vs, v = .ref a ∧ SqL G.K H a vs ∧ vs.length = xs.length ∧ Hs G N H σ ρ (zs vs (xs.map .d) ++ ((some v, s) :: st)) := by
  obtain ⟨F, fp, sb, ⟨fa, fr, ef, q, r⟩, n⟩ := h.ex
  have fin : ∀ (vs : List V), RDs G F xs vs → RF G F H s (some v) fa → Hs G N H σ ρ (zs vs (xs.map .d) ++ ((some v, s) :: st)) := fun vs q2 q => by
    refine ⟨h.len, ⟨F, fp, sb, ?_, n⟩, h.tb, h.pin⟩
    rw [List.append_assoc]
    exact (RL.app _ _ _).mpr ⟨[], fp, rfl, (RL.ds q2.len).mpr ⟨rfl, q2⟩, fa, fr, ef, q, r⟩
  cases s with
  | l ys =>
    cases e
    obtain ⟨a, vs, ev, efa, eH, eF, q2⟩ := id q
    cases ev
    exact ⟨a, vs, rfl, .of eH, q2.len, fin vs q2 q⟩
  | d x =>
    cases x with
    | lst ys =>
      cases e
      obtain ⟨_, w, ew, a, vs, ev, sq, q2⟩ := id q
      cases ew
      exact ⟨a, vs, ev, sqL_sub sb sq, q2.len, fin vs q2 q⟩
    | _ => cases e
  | _ => cases e
theorem Hs.itemsT {v : V} {s : S} {xs : List D} (h : Hs G N H σ ρ ((some v, s) :: st)) (e : tupS s = some xs) : ∃ a vs, v = .ref a ∧ SqT G.K H a vs ∧ vs.length = xs.length ∧ Hs G N H σ ρ (zs vs (xs.map .d) ++ ((some v, s) :: st)) := by
  obtain ⟨F, fp, sb, ⟨fa, fr, ef, q, r⟩, n⟩ := h.ex
  cases s with
  | d x =>
    cases x with
    | tup ys =>
      cases e
      obtain ⟨_, w, ew, a, vs, ev, sq, q2⟩ := id q
      cases ew
      refine ⟨a, vs, ev, sqT_sub sb sq, q2.len, h.len, ⟨F, fp, sb, ?_, n⟩, h.tb, h.pin⟩
      rw [List.append_assoc]
      exact (RL.app _ _ _).mpr ⟨[], fp, rfl, (RL.ds q2.len).mpr ⟨rfl, q2⟩, fa, fr, ef, q, r⟩
    | _ => cases e
  | _ => cases e
theorem seq_cases {s : S} {xs : List D} (e : seqS s = some xs) : lstS s = some xs ∨ tupS s = some xs := by
  cases s with
  | l ys => exact .inl e
  | d x =>
    cases x with
    | lst ys => exact .inl e
    | tup ys => exact .inr e
    | _ => cases e
  | _ => cases e
theorem Hs.items {v : V} {s : S} {xs : List D} (h : Hs G N H σ ρ ((some v, s) :: st)) (e : seqS s = some xs) : ∃ a vs, v = .ref a ∧ (SqL G.K H a vs ∨ SqT G.K H a vs) ∧ vs.length = xs.length ∧ Hs G N H σ ρ (zs vs (xs.map .d) ++ ((some v, s) :: st)) := by
  rcases seq_cases e with z | z
  · obtain ⟨a, vs, q1, q2, q3, q4⟩ := h.itemsL z
    exact ⟨a, vs, q1, .inl q2, q3, q4⟩
  · obtain ⟨a, vs, q1, q2, q3, q4⟩ := h.itemsT z
    exact ⟨a, vs, q1, .inr q2, q3, q4⟩
/-- one of several -/
theorem Hs.one {vs : List V} {xs : List S} : ∀ {i : Nat} {x : S}, (h : Hs G N H σ ρ (zs vs xs ++ st)) → vs.length = xs.length → xs[i]? = some x → ∃ w, vs[i]? = some w ∧ Hs G N H σ ρ ((some w, x) :: st) := by
  induction vs generalizing xs with
  | nil =>
    intro i x h l e
    have : xs = [] := List.length_eq_zero_iff.mp l.symm
    subst this
    simp at e
  | cons v vs ih =>
    intro i x h l e
    cases xs with
    | nil => simp at l
    | cons y ys =>
      cases i with
      | zero =>
        simp only [List.getElem?_cons_zero, Option.some.injEq] at e
        subst e
        refine ⟨v, rfl, ?_⟩
        have h2 : Hs G N H σ ρ (zs vs ys ++ ((some v, y) :: st)) := h.perm List.perm_middle.symm
        exact h2.drops
      | succ i =>
        obtain ⟨w, e1, h1⟩ := ih (i := i) (x := x) (Hs.drop h) (by simpa using l) (by simpa using e)
        exact ⟨w, by simpa using e1, h1⟩
/-- a new list, a new tuple of settled items -/
theorem Hs.newL {vs : List V} {xs : List D} {p : Addr} (h : Hs G N H σ ρ (zs vs (xs.map .d) ++ st)) (l : vs.length = xs.length) (hp : H p = none) : Hs G N (upd H p (.lst vs)) σ ρ ((some (.ref p), .l xs) :: st) := by
  obtain ⟨F, fp, sb, r, n⟩ := h.ex
  rw [List.append_assoc] at r
  obtain ⟨a, b, e, r1, r2⟩ := (RL.app _ _ _).mp r
  obtain ⟨ea, q⟩ := (RL.ds l).mp r1
  subst ea e
  have g : Grow G H (upd H p (.lst vs)) := Grow.upd h.tb hp
  exact ⟨h.len, ⟨F, p :: fp, sb.grow g.1, ⟨[p], fp, rfl, ⟨p, vs, rfl, rfl, upd_same, sb.none hp, q⟩, RL.keep (Le.refl F) _ fp r2 (own_grow r2 g.1)⟩, List.nodup_cons.mpr ⟨fp_ne r2 hp, n⟩⟩, g.2, h.pin⟩
theorem Hs.newT {vs : List V} {xs : List D} {p : Addr} (h : Hs G N H σ ρ (zs vs (xs.map .d) ++ st)) (l : vs.length = xs.length) (hp : H p = none) : Hs G N (upd H p (.tup vs)) σ ρ ((some (.ref p), .d (.tup xs)) :: st) := by
  obtain ⟨F, fp, sb, r, n⟩ := h.ex
  rw [List.append_assoc] at r
  obtain ⟨a, b, e, r1, r2⟩ := (RL.app _ _ _).mp r
  obtain ⟨ea, q⟩ := (RL.ds l).mp r1
  subst ea e
  have g : Grow G H (upd H p (.tup vs)) := Grow.upd h.tb hp
  have sg := sb.grow g.1
  have hF : F p = none := sb.none hp
  have le : Le F (upd F p (.tup vs)) := fun x o ex => by
    rw [upd_ne fun z => by rw [z, hF] at ex; cases ex]
    exact ex
  refine ⟨h.len, ⟨upd F p (.tup vs), fp, fun x o ex => ?_, ⟨[], fp, rfl, ⟨rfl, .ref p, rfl, p, vs, rfl, .of upd_same, RDs.le le _ _ q⟩, RL.keep le _ fp r2 fun x hx => ?_⟩, n⟩, g.2, h.pin⟩
  · by_cases hx : x = p
    · subst hx
      rw [upd_same] at ex
      cases ex
      exact And.intro (fun _ z => nomatch z) (.inl upd_same)
    · rw [upd_ne hx] at ex
      exact sg x o ex
  · have hne : x ≠ p := fun z => fp_ne r2 hp (by rw [← z]; exact hx)
    have k := own_grow r2 g.1 x hx
    exact ⟨k.1, by rw [upd_ne hne]; exact k.2⟩
theorem Hs.freezes : ∀ {vs : List V} {xs : List S} {ys : List D} {st : Stk}, Hs G N H σ ρ (zs vs xs ++ st) → vs.length = xs.length → S.frzs xs = some ys → Hs G N H σ ρ (zs vs (ys.map .d) ++ st) ∧ ys.length = xs.length
  | [], [], ys, st, h, _, e => by
    simp only [S.frzs, Option.some.injEq] at e
    subst e
    exact ⟨h, rfl⟩
  | v :: vs, x :: xs, ys, st, h, l, e => by
    unfold S.frzs at e
    split at e
    · rename_i y ys' e1 e2
      cases e
      have h1 : Hs G N H σ ρ ((some v, .d y) :: (zs vs xs ++ st)) := Hs.freeze h e1
      have h2 : Hs G N H σ ρ (zs vs xs ++ ((some v, .d y) :: st)) := h1.perm List.perm_middle.symm
      obtain ⟨h3, l3⟩ := Hs.freezes h2 (by simpa using l) e2
      exact ⟨h3.perm List.perm_middle, by simp [l3]⟩
    · cases e
  | [], _ :: _, _, _, _, l, _ => by simp at l
  | _ :: _, [], _, _, _, l, _ => by simp at l
/-- what has been read stays under what is new -/
theorem Hs.dup1 {vs : List V} {xs : List D} (h : Hs G N H σ ρ (zs vs (xs.map .d) ++ st)) (l : vs.length = xs.length) : Hs G N H σ ρ (zs vs (xs.map .d) ++ (zs vs (xs.map .d) ++ st)) := by
  obtain ⟨F, fp, sb, r, n⟩ := h.ex
  rw [List.append_assoc] at r
  obtain ⟨a, b, e, r1, r2⟩ := (RL.app _ _ _).mp r
  obtain ⟨ea, q⟩ := (RL.ds l).mp r1
  subst ea e
  refine ⟨h.len, ⟨F, fp, sb, ?_, n⟩, h.tb, h.pin⟩
  rw [List.append_assoc, List.append_assoc]
  exact (RL.app _ _ _).mpr ⟨[], fp, rfl, (RL.ds l).mpr ⟨rfl, q⟩, (RL.app _ _ _).mpr ⟨[], fp, rfl, (RL.ds l).mpr ⟨rfl, q⟩, r2⟩⟩
/-! ### a tuple, a list, written -/
def opTup : List S → ORes := fun xs => match S.frzs xs with
  | some ys => if ys.length ≤ 100000 then .ok (.d (.tup ys)) (ys.map .d) else .stuck
  | none => .stuck
theorem ops_tup : OpS G N W (rL fun vs H Q => vs.length ≤ sizeLine ∧ ∀ p, H p = none → Q (.ref p) (upd H p (.tup vs))) opTup := fun σ ρ st H vs xs Q l h p => by
  unfold opTup at p
  cases e : S.frzs xs with
  | none =>
    rw [e] at p
    exact p.elim
  | some ys =>
    rw [e] at p
    simp only at p
    by_cases hz : ys.length ≤ 100000
    · rw [if_pos hz] at p
      obtain ⟨h1, l1⟩ := h.freezes l e
      have l2 : vs.length = ys.length := by omega
      refine ⟨by rw [l2]; exact Nat.le_trans hz (by decide), fun a ha => p.2 _ _ ?_⟩
      exact (Hs.dup1 h1 l2).newT l2 ha
    · rw [if_neg hz] at p
      exact p.elim
def opLst : List S → ORes := fun xs => match S.frzs xs with
  | some ys => if ys.length ≤ 100000 then .ok (.l ys) (ys.map .d) else .stuck
  | none => .stuck
theorem ops_lst : OpS G N W (rL fun vs H Q => vs.length ≤ sizeLine ∧ ∀ p, H p = none → Q (.ref p) (upd H p (.lst vs))) opLst := fun σ ρ st H vs xs Q l h p => by
  unfold opLst at p
  cases e : S.frzs xs with
  | none =>
    rw [e] at p
    exact p.elim
  | some ys =>
    rw [e] at p
    simp only at p
    by_cases hz : ys.length ≤ 100000
    · rw [if_pos hz] at p
      obtain ⟨h1, l1⟩ := h.freezes l e
      have l2 : vs.length = ys.length := by omega
      refine ⟨by rw [l2]; exact Nat.le_trans hz (by decide), fun a ha => p.2 _ _ ?_⟩
      exact (Hs.dup1 h1 l2).newL l2 ha
    · rw [if_neg hz] at p
      exact p.elim
/-! ### ints -/
def opI (f : Int → Int → Option D) : List S → ORes
  | [.d (.int i), .d (.int j)] => match f i j with
    | some z => .ok (.d z) [.d (.int i), .d (.int j)]
    | none => .stuck
  | _ => .stuck
/-- one argument, two -/
theorem two {vs : List V} {x y : S} (l : vs.length = [x, y].length) (h : Hs G N H σ ρ (zs vs [x, y] ++ st)) : ∃ v w, vs = [v, w] ∧ Hs G N H σ ρ ((some v, x) :: (some w, y) :: st) ∧ Hs G N H σ ρ ((some w, y) :: (some v, x) :: st) := by
  match vs, l, h with
  | [v, w], _, h => exact ⟨v, w, rfl, h, h.perm (.swap _ _ _)⟩
theorem one {vs : List V} {x : S} (l : vs.length = [x].length) (h : Hs G N H σ ρ (zs vs [x] ++ st)) : ∃ v, vs = [v] ∧ Hs G N H σ ρ ((some v, x) :: st) := by
  match vs, l, h with
  | [v], _, h => exact ⟨v, rfl, h⟩
theorem ops_I {r : R2} {f : Int → Int → Option D} (hr : ∀ i j z H Q, f i j = some z → (∀ v, (∀ F : Hp, RD G F z v) → Q v H) → r (.int i) (.int j) H Q) : OpS G N W (r2L r) (opI f) := fun σ ρ st H vs xs Q l h p => by
  have go : ∀ i j, xs = [.d (.int i), .d (.int j)] → r2L r σ vs H Q := fun i j ex => by
    subst ex
    unfold opI at p
    simp only at p
    cases e : f i j with
    | none =>
      rw [e] at p
      exact p.elim
    | some z =>
      rw [e] at p
      obtain ⟨v, w, ev, h1, h2⟩ := two l h
      subst ev
      have e1 := h1.int
      have e2 := h2.int
      subst e1 e2
      exact hr i j z H Q e fun v hv => p.2 v H (h.new hv)
  match xs, p with
  | [.d (.int i), .d (.int j)], _ => exact go i j rfl
def fAdd (i j : Int) : Option D := some (.int (i + j))
def fSub (i j : Int) : Option D := some (.int (i - j))
def fMul (i j : Int) : Option D := if i.natAbs.log2 + j.natAbs.log2 < 1000000 then some (.int (i * j)) else none
def fDiv (i j : Int) : Option D := if 0 < j ∧ j.natAbs.log2 < 9000 then some (.int (i / j)) else none
def fMod (i j : Int) : Option D := if 0 < j then some (.int (i % j)) else none
def fPow (i j : Int) : Option D := if 0 ≤ j ∧ j ≤ 1000000 ∧ i.natAbs < 2 ^ 64 then some (.int (i ^ j.toNat)) else none
def fLt (i j : Int) : Option D := some (.bl (decide (i < j)))
def fLe (i j : Int) : Option D := some (.bl (decide (i ≤ j)))
def fGt (i j : Int) : Option D := some (.bl (decide (j < i)))
def fGe (i j : Int) : Option D := some (.bl (decide (j ≤ i)))
theorem os_I0 {g : Int → Int → V} {f : Int → Int → Option D} (hf : ∀ i j z, f i j = some z → ∀ F : Hp, RD G F z (g i j)) : OpS G N W (r2L (rI0 g)) (opI f) := ops_I fun i j z H Q e k => ⟨i, j, rfl, rfl, k _ (hf i j z e)⟩
theorem os_I {C : Int → Int → Prop} {g : Int → Int → V} {f : Int → Int → Option D} (hf : ∀ i j z, f i j = some z → C i j ∧ ∀ F : Hp, RD G F z (g i j)) : OpS G N W (r2L (rI C g)) (opI f) := ops_I fun i j z H Q e k => ⟨i, j, rfl, rfl, (hf i j z e).1, k _ (hf i j z e).2⟩
theorem os_add : OpS G N W (r2L (rI0 fun i j => .int (i + j))) (opI fAdd) := os_I0 fun i j z e F => by cases e; rfl
theorem os_sub : OpS G N W (r2L (rI0 fun i j => .int (i - j))) (opI fSub) := os_I0 fun i j z e F => by cases e; rfl
theorem os_mul : OpS G N W (r2L (rI CMulW fun i j => .int (i * j))) (opI fMul) := os_I fun i j z e => by
  unfold fMul at e
  split at e
  · cases e
    exact ⟨‹_›, fun _ => rfl⟩
  · cases e
theorem os_div : OpS G N W (r2L (rI CDivW fun i j => .int (i / j))) (opI fDiv) := os_I fun i j z e => by
  unfold fDiv at e
  split at e
  · cases e
    exact ⟨‹_›, fun _ => rfl⟩
  · cases e
theorem os_mod : OpS G N W (r2L (rI (fun _ j => 0 < j) fun i j => .int (i % j))) (opI fMod) := os_I fun i j z e => by
  unfold fMod at e
  split at e
  · cases e
    exact ⟨‹_›, fun _ => rfl⟩
  · cases e
theorem os_pow : OpS G N W (r2L (rI CPow fun i j => .int (i ^ j.toNat))) (opI fPow) := os_I fun i j z e => by
  unfold fPow at e
  split at e
  · cases e
    exact ⟨‹_›, fun _ => rfl⟩
  · cases e
theorem os_lt : OpS G N W (r2L (rI0 fun i j => .bl (decide (i < j)))) (opI fLt) := os_I0 fun i j z e F => by cases e; rfl
theorem os_le : OpS G N W (r2L (rI0 fun i j => .bl (decide (i ≤ j)))) (opI fLe) := os_I0 fun i j z e F => by cases e; rfl
theorem os_gt : OpS G N W (r2L (rI0 fun i j => .bl (decide (j < i)))) (opI fGt) := os_I0 fun i j z e F => by cases e; rfl
theorem os_ge : OpS G N W (r2L (rI0 fun i j => .bl (decide (j ≤ i)))) (opI fGe) := os_I0 fun i j z e F => by cases e; rfl
/-! ### deep == and != -/
end
mutual
def dPy : D → Option PyData
  | .non => some .none
  | .bl b => some (.bool b)
  | .int i => some (.int i)
  | .str x => some (.str x)
  | .tup xs => (dPys xs).map .tuple
  | .lst xs => (dPys xs).map .list
  | _ => none
def dPys : List D → Option (List PyData)
  | [] => some []
  | x :: xs => match dPy x, dPys xs with
    | some d, some ds => some (d :: ds)
    | _, _ => none
end
section
variable {G : Gx} {N : Pn} {W : WX} {H H' : Hp} {σ : L2.St} {ρ : List S} {st : Stk}
mutual
theorem dp_of {F : Hp} (sb : Sub F H) : ∀ (x : D) (v : V) (d : PyData), RD G F x v → dPy x = some d → Dp G.K H v d
  | .non, v, d, q, e => by
    cases e
    have : v = .non := q
    subst this
    exact .non
  | .bl b, v, d, q, e => by
    cases e
    have : v = .bl b := q
    subst this
    exact .bl b
  | .int b, v, d, q, e => by
    cases e
    have : v = .int b := q
    subst this
    exact .int b
  | .str b, v, d, q, e => by
    cases e
    have : v = .str b := q
    subst this
    exact .str b
  | .tup xs, v, d, q, e => by
    simp only [dPy, Option.map_eq_some_iff] at e
    obtain ⟨ds, e1, e2⟩ := e
    subst e2
    obtain ⟨a, vs, ev, sq, q2⟩ := q
    subst ev
    exact .tup (sqT_sub sb sq) (dps_of sb xs vs ds q2 e1)
  | .lst xs, v, d, q, e => by
    simp only [dPy, Option.map_eq_some_iff] at e
    obtain ⟨ds, e1, e2⟩ := e
    subst e2
    obtain ⟨a, vs, ev, sq, q2⟩ := q
    subst ev
    exact .lst (sqL_sub sb sq) (dps_of sb xs vs ds q2 e1)
  | .dic _ _, v, d, q, e => by simp [dPy] at e
  | .obj _ _, v, d, q, e => by simp [dPy] at e
theorem dps_of {F : Hp} (sb : Sub F H) : ∀ (xs : List D) (vs : List V) (ds : List PyData), RDs G F xs vs → dPys xs = some ds → DpAll G.K H vs ds
  | [], vs, ds, q, e => by
    simp only [dPys, Option.some.injEq] at e
    subst e
    have : vs = [] := q
    subst this
    exact .nil
  | x :: xs, vs, ds, q, e => by
    obtain ⟨v, r, ev, q1, q2⟩ := q
    subst ev
    unfold dPys at e
    split at e
    · rename_i d ds' e1 e2
      cases e
      exact .cons (dp_of sb x v d q1 e1) (dps_of sb xs r ds' q2 e2)
    · cases e
end
/-- what a holding is as data (an owned list of settled things is read in place) -/
def sPy : S → Option PyData
  | .d x => dPy x
  | .l xs => (dPys xs).map .list
  | _ => none
theorem Hs.dp {v : V} {s : S} {d : PyData} (h : Hs G N H σ ρ ((some v, s) :: st)) (e : sPy s = some d) : Dp G.K H v d := by
  obtain ⟨F, fp, sb, ⟨fa, fr, ef, q, r⟩, n⟩ := h.ex
  cases s with
  | d x =>
    obtain ⟨_, w, ew, q2⟩ := q
    cases ew
    exact dp_of sb x v d q2 e
  | l xs =>
    simp only [sPy, Option.map_eq_some_iff] at e
    obtain ⟨ds, e1, e2⟩ := e
    subst e2
    obtain ⟨a, vs, ev, _, eH, _, q2⟩ := q
    cases ev
    exact .lst (.of eH) (dps_of sb xs vs ds q2 e1)
  | _ => cases e
def opEq (neg : Bool) : List S → ORes
  | [x, y] => match sPy x, sPy y with
    | some d, some e => if SeqAt.shaped d = true ∧ SeqAt.shaped e = true then .ok (.d (.bl (if neg then !PyData.eqv d e else PyData.eqv d e))) [x, y] else .stuck
    | _, _ => .stuck
  | _ => .stuck
theorem os_eq : OpS G N W (r2L (rEqD G.K)) (opEq false) := fun σ ρ st H vs xs Q l h p => by
  match xs, p, h with
  | [x, y], p, h =>
    unfold opEq at p
    simp only at p
    cases e1 : sPy x with
    | none =>
      rw [e1] at p
      exact p.elim
    | some d =>
    cases e2 : sPy y with
    | none =>
      rw [e1, e2] at p
      exact p.elim
    | some e =>
      rw [e1, e2] at p
      simp only at p
      by_cases hs : SeqAt.shaped d = true ∧ SeqAt.shaped e = true
      · rw [if_pos hs] at p
        obtain ⟨v, w, ev, h1, h2⟩ := two l h
        subst ev
        exact ⟨d, e, h1.dp e1, h2.dp e2, hs.1, hs.2, p.2 _ H (h.new fun _ => rfl)⟩
      · rw [if_neg hs] at p
        exact p.elim
theorem os_ne : OpS G N W (r2L (rNeD G.K)) (opEq true) := fun σ ρ st H vs xs Q l h p => by
  match xs, p, h with
  | [x, y], p, h =>
    unfold opEq at p
    simp only at p
    cases e1 : sPy x with
    | none =>
      rw [e1] at p
      exact p.elim
    | some d =>
    cases e2 : sPy y with
    | none =>
      rw [e1, e2] at p
      exact p.elim
    | some e =>
      rw [e1, e2] at p
      simp only at p
      by_cases hs : SeqAt.shaped d = true ∧ SeqAt.shaped e = true
      · rw [if_pos hs] at p
        obtain ⟨v, w, ev, h1, h2⟩ := two l h
        subst ev
        exact ⟨d, e, h1.dp e1, h2.dp e2, hs.1, hs.2, p.2 _ H (h.new fun _ => rfl)⟩
      · rw [if_neg hs] at p
        exact p.elim
end
end DL
/-! the data layer: methods of builtin types; more operations -/
namespace DL
open PySem PySem.Spec PyProof.Rows L2
/-! ### o.m(..), o of a builtin type -/
def tyS : S → Option String
  | .l _ => some "list"
  | .ls _ => some "list"
  | .d (.lst _) => some "list"
  | .d (.str _) => some "str"
  | .m _ _ => some "dict"
  | _ => none
def tyA (ρ : List S) : List AV → Option String
  | [.s x] => tyS x
  | [.n i] => (ρ[i]?).bind tyS
  | _ => none
def mBm (T : String) (g : List S → ORes) (a : Arg) (as : List Arg) : M S := mbind (mArgs [a]) fun av ρ => if tyA ρ av = some T then mbind (mArgs as) (fun avs => mFin g (av ++ avs)) ρ else .stuck
def rBm (r : V → List V → Hp → VK → Prop) : L2.St → List V → Hp → VK → Prop := fun _ vs H Q => match vs with
  | x :: xs => r x xs H Q
  | [] => False
section
variable {G : Gx} {N : Pn} {X : Cx} {W : WX} {H H' : Hp} {σ : L2.St} {ρ ρ' : List S} {st st' : Stk} {o e : Expr} {es : List Expr} {as : List Arg}
theorem Hs.ty {v : Option V} {s : S} {T : String} (h : Hs G N H σ ρ ((v, s) :: st)) (e : tyS s = some T) : ∃ x, v = some x ∧ tyV G.K T x H := by
  obtain ⟨F, fp, sb, ⟨a, b, ef, q, r⟩, n⟩ := h.ex
  cases s with
  | l xs =>
    cases e
    obtain ⟨a, vs, ev, _, eH, _⟩ := q
    exact ⟨_, ev, .inl ⟨rfl, vs, .of eH⟩⟩
  | ls xs =>
    cases e
    obtain ⟨a, vs, r', ev, _, eH, _⟩ := q
    exact ⟨_, ev, .inl ⟨rfl, vs, .of eH⟩⟩
  | m ks vs =>
    cases e
    obtain ⟨a, ev, _, _, z⟩ := q
    refine ⟨_, ev, .inr (.inr (.inl ⟨rfl, ?_⟩))⟩
    rcases z with ⟨kk, ws, z, _⟩ | ⟨kk, ws, z, _⟩
    · exact .inl ⟨_, z⟩
    · exact .inr ⟨_, z⟩
  | d x =>
    obtain ⟨_, v', ev, q2⟩ := q
    cases x with
    | lst xs =>
      cases e
      obtain ⟨a, vs, e1, sq, _⟩ := q2
      subst e1
      exact ⟨_, ev, .inl ⟨rfl, vs, sqL_sub sb sq⟩⟩
    | str z =>
      cases e
      have : v' = .str z := q2
      subst this
      exact ⟨_, ev, rfl⟩
    | _ => cases e
  | _ => cases e
theorem recvT {av : List AV} {v : V} {T : String} (r : AVR σ av [v]) (h : Hs G N H σ ρ (stkA av [v] ++ st)) (e : tyA ρ av = some T) : tyV G.K T v H := by
  match av, r, h, e with
  | [.s x], _, h, e =>
    obtain ⟨a, e1, e2⟩ := Hs.ty (st := st) h e
    cases e1
    exact e2
  | [.n i], r, h, e =>
    obtain ⟨_, _, q, es, _⟩ := r
    cases q
    have e' : (ρ[i]?).bind tyS = some T := e
    cases ei : ρ[i]? with
    | none => rw [ei] at e'; cases e'
    | some s =>
      rw [ei] at e'
      obtain ⟨a, e1, e2⟩ := Hs.ty (h.pull ei es) e'
      cases e1
      exact e2
theorem bm_core {T : String} {ao : Arg} {g : List S → ORes} {r : V → List V → Hp → VK → Prop} {Q : VK} (hK : X.K = G.K) (hg : OpS G N W (rBm r) g) (ho : AX G N X W [o] [ao]) (ha : AX G N X W es as) (h : Hs G N H σ ρ st)
    (p : pst G N W σ st (fun z ρ' => ∀ v H', Hs G N H' σ ρ' ((some v, z) :: st) → Q v H') (mBm T g ao as ρ)) : sE X o σ H fun x H1 => tyV X.K T x H1 ∧ sAs X es σ H1 fun vs H2 => r x vs H2 Q := by
  have k1 : sAs X [o] σ H _ := ho.bind (R := fun vs H1 => ∀ x, vs = [x] → tyV X.K T x H1 ∧ sAs X es σ H1 fun vs H2 => r x vs H2 Q) h p (fun av ρ1 vs1 H1 r1 h1 p1 x ex => by
    subst ex
    by_cases hcl : tyA ρ1 av = some T
    · rw [if_pos hcl] at p1
      refine ⟨by rw [hK]; exact recvT r1 h1 hcl, ?_⟩
      refine AX.bind (st0 := st) ha h1 p1 (fun avs ρ2 vs H2 r2 h2 p2 => ?_) fun _ _ q => q.drops
      have r3 := AVR.app r1 r2
      exact fin_ok (avs := av ++ avs) (vs := x :: vs) r3 (by
        have e3 : stkA (av ++ avs) (x :: vs) = stkA av [x] ++ stkA avs vs := stkA_app (vs := [x]) (ws := vs) r1
        rw [e3]
        refine h2.perm ?_
        rw [← List.append_assoc]
        exact List.perm_append_comm.append_right st) p2 hg
    · rw [if_neg hcl] at p1
      exact p1.elim)
  exact sE.mono k1 fun v H' q => q v rfl
theorem ex_bm {T id : String} {name : Str} {apos cpos : Pos} {ao : Arg} {g : List S → ORes} {r : V → List V → Hp → VK → Prop} (hK : X.K = G.K) (pa : PlainAttrs T) (slot : Slot T name id) (hty : typeOf (.builtin id) = pure (.type "method_descriptor")) (hm : MtR X id r) (hg : OpS G N W (rBm r) g)
    (ho : AX G N X W [o] [ao]) (ha : AX G N X W (e :: es) as) (hp : PA X (e :: es) (sAs X (e :: es))) (hbase : attributeBase o name X.env (eval o X.env) = eval o X.env := by rfl)
    (hfew : ((backTo cpos (starEach (e :: es) X.env)).all (fun x => !x.1) && (backToKw cpos (keywordEach [] X.env)).all (fun x => x.1.isSome)
      && decide ((e :: es).length + ([] : List Keyword).length + (if ([] : List Keyword).isEmpty then 0 else 1) < 30)) = true := by rfl)
    (hline : (apos.endLine == cpos.line) = true := by rfl) (hs : starEach (e :: es) X.env = (false, eval e X.env) :: starEach es X.env := by rfl) (hplain : (backTo cpos (starEach es X.env)).any (·.1) = false := by rfl) :
    EX G N X W (.Call (.Attribute o name apos) (e :: es) [] cpos) (mBm T g ao as) := fun σ ρ st H Q h p =>
  sE_of (pe_bm pa slot hty hm pe_sem hp hbase hfew hline hs hplain) (bm_core hK hg ho ha h p)
theorem ex_bm0 {T id : String} {name : Str} {apos cpos : Pos} {ao : Arg} {g : List S → ORes} {r : V → List V → Hp → VK → Prop} (hK : X.K = G.K) (pa : PlainAttrs T) (slot : Slot T name id) (hty : typeOf (.builtin id) = pure (.type "method_descriptor")) (hm : MtR X id r) (hg : OpS G N W (rBm r) g)
    (ho : AX G N X W [o] [ao]) (hbase : attributeBase o name X.env (eval o X.env) = eval o X.env := by rfl) (hline : (apos.endLine == cpos.line) = true := by rfl) :
    EX G N X W (.Call (.Attribute o name apos) [] [] cpos) (mBm T g ao []) := fun σ ρ st H Q h p =>
  sE_of (pe_bm0 pa slot hty hm pe_sem hbase hline) (bm_core (es := []) hK hg ho ax_nil h p)
end
section
variable {G : Gx} {N : Pn} {W : WX} {H H' : Hp} {σ : L2.St} {ρ : List S} {st : Stk}
/-! ### xs.append(x), x settled; xs.pop() -/
theorem Hs.pushD {y : V} {x : D} {p : Addr} {xs : List D} {vs : List V} (h : Hs G N H σ ρ ((some (.ref p), .l xs) :: (some y, .d x) :: st)) (e : H p = some (.lst vs)) : Hs G N (upd H p (.lst (vs ++ [y]))) σ ρ ((some (.ref p), .l (xs ++ [x])) :: (some y, .d x) :: st) := by
  obtain ⟨F, fp, sb, ⟨a1, b1, ef1, ⟨p', vs', ev, ea, eH, eF, q⟩, r⟩, n⟩ := h.ex
  cases ev
  rw [e] at eH
  cases eH
  subst ea ef1
  have hr := r
  obtain ⟨a2, b2, ef2, ⟨ea2, v, evy, qy⟩, r2⟩ := hr
  cases evy
  have hnp : p ∉ b1 := (List.nodup_cons.mp n).1
  have qq : RDs G F (xs ++ [x]) (vs ++ [y]) := by
    have : ∀ (xs : List D) (vs : List V), RDs G F xs vs → RDs G F (xs ++ [x]) (vs ++ [y]) := by
      intro xs
      induction xs with
      | nil =>
        intro vs q
        have : vs = [] := q
        subst this
        exact ⟨y, [], rfl, qy, rfl⟩
      | cons z xs ih =>
        rintro vs ⟨v, r, ev, q1, q2⟩
        subst ev
        exact ⟨v, r ++ [y], rfl, q1, ih r q2⟩
    exact this xs vs q
  exact ⟨h.len, ⟨F, [p] ++ b1, sub_upd sb eF, ⟨[p], b1, rfl, ⟨p, vs ++ [y], rfl, rfl, upd_same, eF, qq⟩, RL.keep (Le.refl F) _ b1 r (fr_upd r hnp)⟩, n⟩, tabs_upd h.tb e trivial, h.pin⟩
theorem Hs.lAt {v : V} {xs : List D} (h : Hs G N H σ ρ ((some v, .l xs) :: st)) : ∃ p vs, v = .ref p ∧ H p = some (.lst vs) ∧ vs.length = xs.length := by
  obtain ⟨F, fp, sb, ⟨a1, b1, ef1, ⟨p', vs', ev, ea, eH, eF, q⟩, r⟩, n⟩ := h.ex
  cases ev
  exact ⟨p', vs', rfl, eH, q.len⟩
def opApp : List S → ORes
  | [.l xs, s] => match s.frz with
    | some x => if xs.length < 100000 then .ok (.d .non) [.l (xs ++ [x]), .d x] else .stuck
    | none => .stuck
  | _ => .stuck
theorem os_app : OpS G N W (rBm rAppend) opApp := fun σ ρ st H vs xs Q l h p => by
  match xs, p, h, l with
  | [.l xs, s], p, h, l =>
    unfold opApp at p
    simp only at p
    cases e : s.frz with
    | none =>
      rw [e] at p
      exact p.elim
    | some x =>
      rw [e] at p
      simp only at p
      by_cases hz : xs.length < 100000
      · rw [if_pos hz] at p
        obtain ⟨v, w, ev, h1, h2⟩ := two l h
        subst ev
        have h3 : Hs G N H σ ρ ((some v, .l xs) :: (some w, .d x) :: st) := (h2.freeze e).perm (.swap _ _ _)
        obtain ⟨a, vs, ev, eH, l2⟩ := h3.lAt
        subst ev
        exact ⟨a, vs, w, rfl, rfl, eH, by rw [l2]; exact Nat.lt_of_lt_of_le hz (by decide), p.2 _ _ ((h3.pushD eH).new fun _ => rfl)⟩
      · rw [if_neg hz] at p
        exact p.elim
/-! ### len, abs, int, bool -/
def lenS : S → Option Nat
  | .d (.str z) => if z.length ≤ 100000 then some z.length else none
  | s => (seqS s).map List.length
theorem lenS_cases {s : S} {n : Nat} (h : lenS s = some n) : (∃ z, s = .d (.str z) ∧ z.length ≤ 100000 ∧ n = z.length) ∨ ∃ xs, seqS s = some xs ∧ n = xs.length := by
  have go : (seqS s).map List.length = some n → ∃ xs, seqS s = some xs ∧ n = xs.length := fun h => by
    simp only [Option.map_eq_some_iff] at h
    obtain ⟨xs, h1, h2⟩ := h
    exact ⟨xs, h1, h2.symm⟩
  cases s with
  | d x =>
    cases x with
    | str z =>
      have h' : (if z.length ≤ 100000 then some z.length else none) = some n := h
      by_cases hz : z.length ≤ 100000
      · rw [if_pos hz] at h'
        exact .inl ⟨z, rfl, hz, (Option.some.inj h').symm⟩
      · rw [if_neg hz] at h'
        cases h'
    | _ => exact .inr (go h)
  | _ => exact .inr (go h)
def opLen : List S → ORes
  | [s] => match lenS s with
    | some n => .ok (.d (.int n)) [s]
    | none => .stuck
  | _ => .stuck
theorem os_len : OpS G N W (rL fun xs H Q => ∃ x n, xs = [x] ∧ LenV G.K x H n ∧ Q (.int n) H) opLen := fun σ ρ st H vs xs Q l h p => by
  match xs, p, h, l with
  | [s], p, h, l =>
    unfold opLen at p
    simp only at p
    cases e : lenS s with
    | none =>
      rw [e] at p
      exact p.elim
    | some n =>
      rw [e] at p
      obtain ⟨v, ev, h1⟩ := one l h
      subst ev
      rcases lenS_cases e with ⟨z, es, hz, en⟩ | ⟨xs', es, en⟩
      · subst es en
        have e1 := h1.str
        subst e1
        exact ⟨.str z, z.length, rfl, ⟨Nat.le_trans hz (by decide), rfl⟩, p.2 _ H (h.new fun _ => rfl)⟩
      · subst en
        obtain ⟨a, ws, e1, e2, e3, _⟩ := h1.items es
        subst e1
        refine ⟨.ref a, xs'.length, rfl, ?_, p.2 _ H (h.new fun _ => rfl)⟩
        rcases e2 with z | z
        · exact .inl ⟨ws, z, e3.symm⟩
        · exact .inr ⟨ws, z, e3.symm⟩
/-- a function of ints -/
def opF1 (f : Int → Option D) : List S → ORes
  | [.d (.int i)] => match f i with
    | some z => .ok (.d z) [.d (.int i)]
    | none => .stuck
  | _ => .stuck
theorem os_F1 {r : List V → Hp → VK → Prop} {f : Int → Option D} (hr : ∀ i z H Q, f i = some z → (∀ v, (∀ F : Hp, RD G F z v) → Q v H) → r [.int i] H Q) : OpS G N W (rL r) (opF1 f) := fun σ ρ st H vs xs Q l h p => by
  match xs, p, h, l with
  | [.d (.int i)], p, h, l =>
    unfold opF1 at p
    simp only at p
    cases e : f i with
    | none =>
      rw [e] at p
      exact p.elim
    | some z =>
      rw [e] at p
      obtain ⟨v, ev, h1⟩ := one l h
      subst ev
      have e1 := h1.int
      subst e1
      exact hr i z H Q e fun v hv => p.2 v H (h.new hv)
theorem os_F2 {r : List V → Hp → VK → Prop} {f : Int → Int → Option D} (hr : ∀ i j z H Q, f i j = some z → (∀ v, (∀ F : Hp, RD G F z v) → Q v H) → r [.int i, .int j] H Q) : OpS G N W (rL r) (opI f) := fun σ ρ st H vs xs Q l h p => by
  match xs, p, h, l with
  | [.d (.int i), .d (.int j)], p, h, l =>
    unfold opI at p
    simp only at p
    cases e : f i j with
    | none =>
      rw [e] at p
      exact p.elim
    | some z =>
      rw [e] at p
      obtain ⟨v, w, ev, h1, h2⟩ := two l h
      subst ev
      have e1 := h1.int
      have e2 := h2.int
      subst e1 e2
      exact hr i j z H Q e fun v hv => p.2 v H (h.new hv)
def fAbs (i : Int) : Option D := some (.int (if i < 0 then -i else i))
def fMax (i j : Int) : Option D := some (.int (if j > i then j else i))
def fMin (i j : Int) : Option D := some (.int (if j < i then j else i))
theorem os_abs : OpS G N W (rL fun xs H Q => ∃ i, xs = [.int i] ∧ Q (.int (if i < 0 then -i else i)) H) (opF1 fAbs) := os_F1 fun i z H Q e k => by
  cases e
  exact ⟨i, rfl, k _ fun _ => rfl⟩
theorem os_max2 : OpS G N W (rL fun xs H Q => ∃ i j, xs = [.int i, .int j] ∧ Q (.int (if j > i then j else i)) H) (opI fMax) := os_F2 fun i j z H Q e k => by
  cases e
  exact ⟨i, j, rfl, k _ fun _ => rfl⟩
theorem os_min2 : OpS G N W (rL fun xs H Q => ∃ i j, xs = [.int i, .int j] ∧ Q (.int (if j < i then j else i)) H) (opI fMin) := os_F2 fun i j z H Q e k => by
  cases e
  exact ⟨i, j, rfl, k _ fun _ => rfl⟩
def opInt : List S → ORes
  | [.d (.int i)] => .ok (.d (.int i)) [.d (.int i)]
  | [.d (.bl b)] => .ok (.d (.int (if b then 1 else 0))) [.d (.bl b)]
  | _ => .stuck
theorem os_int : OpS G N W (rL fun xs H Q => (∃ i, xs = [.int i] ∧ Q (.int i) H) ∨ ∃ k, xs = [.bl k] ∧ Q (.int (if k then 1 else 0)) H) opInt := fun σ ρ st H vs xs Q l h p => by
  match xs, p, h, l with
  | [.d (.int i)], p, h, l =>
    obtain ⟨v, ev, h1⟩ := one l h
    subst ev
    have e1 := h1.int
    subst e1
    exact .inl ⟨i, rfl, p.2 _ H (h.new fun _ => rfl)⟩
  | [.d (.bl b)], p, h, l =>
    obtain ⟨v, ev, h1⟩ := one l h
    subst ev
    have e1 := h1.bl
    subst e1
    exact .inr ⟨b, rfl, p.2 _ H (h.new fun _ => rfl)⟩
/-! ### x[i] -/
def ixS : S → Int → Option D
  | .d (.str z), i => if z.length ≤ 100000 then (atI z.cps.toList i).map fun c => .str ⟨#[c]⟩ else none
  | s, i => (seqS s).bind fun xs => atI xs i
theorem ixS_cases {s : S} {i : Int} {x : D} (h : ixS s i = some x) : (∃ z c, s = .d (.str z) ∧ z.length ≤ 100000 ∧ atI z.cps.toList i = some c ∧ x = .str ⟨#[c]⟩) ∨ ∃ xs, seqS s = some xs ∧ atI xs i = some x := by
  have go : ((seqS s).bind fun xs => atI xs i) = some x → ∃ xs, seqS s = some xs ∧ atI xs i = some x := fun h => by
    simp only [Option.bind_eq_some_iff] at h
    exact h
  cases s with
  | d y =>
    cases y with
    | str z =>
      have h' : (if z.length ≤ 100000 then (atI z.cps.toList i).map fun c => D.str ⟨#[c]⟩ else none) = some x := h
      by_cases hz : z.length ≤ 100000
      · rw [if_pos hz] at h'
        simp only [Option.map_eq_some_iff] at h'
        obtain ⟨c, h1, h2⟩ := h'
        exact .inl ⟨z, c, rfl, hz, h1, h2.symm⟩
      · rw [if_neg hz] at h'
        cases h'
    | _ => exact .inr (go h)
  | _ => exact .inr (go h)
def opIx : List S → ORes
  | [s, .d (.int i)] => match ixS s i with
    | some x => .ok (.d x) [s, .d (.int i)]
    | none => .stuck
  | _ => .stuck
theorem atI_map {α β : Type} {xs : List α} {ys : List β} (l : xs.length = ys.length) {i : Int} {x : α} (h : atI xs i = some x) : ∃ j : Nat, xs[j]? = some x ∧ atI ys i = ys[j]? := by
  unfold atI at h ⊢
  rw [← l]
  cases e : ixN xs.length i with
  | none =>
    rw [e] at h
    cases h
  | some j =>
    rw [e] at h
    exact ⟨j, h, rfl⟩
theorem os_ix : OpS G N W (r2L (rIx G.K)) opIx := fun σ ρ st H vs xs Q l h p => by
  match xs, p, h, l with
  | [s, .d (.int i)], p, h, l =>
    unfold opIx at p
    simp only at p
    cases e : ixS s i with
    | none =>
      rw [e] at p
      exact p.elim
    | some x =>
      rw [e] at p
      obtain ⟨v, w, ev, h1, h2⟩ := two l h
      subst ev
      have e2 := h2.int
      subst e2
      rcases ixS_cases e with ⟨z, c, es, hz, ec, ex⟩ | ⟨xs', es, ex⟩
      · subst es ex
        have e1 := h1.str
        subst e1
        exact .inr (.inr ⟨z, i, c, rfl, rfl, Nat.le_trans hz (by decide), ec, p.2 _ H (h.new fun _ => rfl)⟩)
      · obtain ⟨a, ws, e1, sq, l3, h4⟩ := h1.items es
        subst e1
        obtain ⟨j, ej, ew⟩ := atI_map (ys := ws) l3.symm ex
        obtain ⟨u, eu, h5⟩ := h4.one (i := j) (x := .d x) (by simpa using l3) (by simp [ej])
        have hq := p.2 u H h5
        rcases sq with z | z
        · exact .inl ⟨a, ws, i, u, rfl, rfl, z, ew.trans eu, hq⟩
        · exact .inr (.inl ⟨a, ws, i, u, rfl, rfl, z, ew.trans eu, hq⟩)
end
end DL
/-! the data layer: what is walked -/
namespace DL
open PySem PySem.Spec PyProof.Rows L2
def seqTS : S → Option (List D)
  | .d (.tup xs) => some xs
  | _ => none
def ioL : List S → Option (List D)
  | [s] => lstS s
  | _ => none
def ioT : List S → Option (List D)
  | [s] => tupS s
  | _ => none
def signs (z : Str) : List D := z.cps.toList.map fun c => .str ⟨#[c]⟩
def ioS : List S → Option (List D)
  | [.d (.str z)] => some (signs z)
  | _ => none
/-- a list, a tuple or a text -/
def ioA (xs : List S) : Option (List D) := match ioL xs with
  | some r => some r
  | none => match ioT xs with
    | some r => some r
    | none => ioS xs
def b62 (i : Int) : Bool := decide (-(2 ^ 62) ≤ i) && decide (i < 2 ^ 62)
def rngD (lo : Int) (n : Nat) : List D := (List.range n).map fun (k : Nat) => .int (lo + (k : Int))
def ioR1 : List S → Option (List D)
  | [.d (.int j)] => if b62 j then some (rngD 0 j.toNat) else none
  | _ => none
def ioR2 : List S → Option (List D)
  | [.d (.int i), .d (.int j)] => if b62 i && b62 j then some (rngD i (j - i).toNat) else none
  | _ => none
def ioR3 : List S → Option (List D)
  | [.d (.int i), .d (.int j), .d (.int c)] => if decide (c ≠ 0) && decide (c.natAbs < 1073741824) && Builtin.Range.small i j c && decide (0 ≤ Builtin.Range.rangeSize i j c) then some ((List.range (Builtin.Range.rangeSize i j c).toNat).map fun (k : Nat) => .int (i + (k : Int) * c)) else none
  | _ => none
def ioEn : List S → Option (List D)
  | [s] => (lstS s).map fun xs => xs.mapIdx fun i x => .tup [.int (i : Nat), x]
  | _ => none
def ioZ : List S → Option (List D)
  | [s, u] => match lstS s, lstS u with
    | some xs, some ys => some ((xs.zip ys).map fun p => .tup [p.1, p.2])
    | _, _ => none
  | _ => none
def ioRv : List S → Option (List D)
  | [s] => (lstS s).map List.reverse
  | _ => none
def ioRvT : List S → Option (List D)
  | [s] => (tupS s).map List.reverse
  | _ => none
def ioRvA (xs : List S) : Option (List D) := match ioRv xs with
  | some r => some r
  | none => ioRvT xs
section
variable {G : Gx} {N : Pn} {W : WX} {H H' : Hp} {σ : L2.St} {ρ : List S} {st : Stk}
theorem iter_l {a : Addr} {s : S} {xs : List D} (e : lstS s = some xs) : IterOk G (Itl G.K a) (zs [.ref a] [s]) xs := by
  refine ⟨fun H => ∃ vs, SqL G.K H a vs ∧ vs.length = xs.length, fun i H x H' => H' = H ∧ ∀ vs, SqL G.K H a vs → vs[i]? = some x, ⟨fun i H hi ⟨vs, q, l⟩ => ⟨vs, vs[i], q, by simp [l, hi]⟩, fun H ⟨vs, q, l⟩ => ⟨vs, q, by omega⟩, fun i H x H' hi _ y => y⟩, fun N σ ρ st H h => ?_, fun N σ ρ st i x H H' hi h y => ?_⟩
  · obtain ⟨a', vs, ea, q, l, _⟩ := Hs.itemsL h e
    cases ea
    exact ⟨vs, q, l⟩
  · obtain ⟨a', vs, ea, q, l, h2⟩ := Hs.itemsL h e
    cases ea
    obtain ⟨eH, y⟩ := y
    subst eH
    obtain ⟨w, ew, h3⟩ := h2.one (i := i) (x := .d xs[i]) (by simpa using l) (by simp [hi])
    have := y vs q
    rw [ew] at this
    cases this
    exact ⟨xs[i], by simp [hi], h3⟩
theorem iter_t {a : Addr} {s : S} {xs : List D} (e : tupS s = some xs) : IterOk G (Itt G.K a) (zs [.ref a] [s]) xs := by
  refine ⟨fun H => ∃ vs, SqT G.K H a vs ∧ vs.length = xs.length, fun i H x H' => H' = H ∧ ∀ vs, SqT G.K H a vs → vs[i]? = some x, ⟨fun i H hi ⟨vs, q, l⟩ => ⟨vs, vs[i], q, by simp [l, hi]⟩, fun H ⟨vs, q, l⟩ => ⟨vs, q, by omega⟩, fun i H x H' hi _ y => y⟩, fun N σ ρ st H h => ?_, fun N σ ρ st i x H H' hi h y => ?_⟩
  · obtain ⟨a', vs, ea, q, l, _⟩ := Hs.itemsT h e
    cases ea
    exact ⟨vs, q, l⟩
  · obtain ⟨a', vs, ea, q, l, h2⟩ := Hs.itemsT h e
    cases ea
    obtain ⟨eH, y⟩ := y
    subst eH
    obtain ⟨w, ew, h3⟩ := h2.one (i := i) (x := .d xs[i]) (by simpa using l) (by simp [hi])
    have := y vs q
    rw [ew] at this
    cases this
    exact ⟨xs[i], by simp [hi], h3⟩
theorem iter_fn {J : It} {src : Stk} {items : List D} {f : Nat → V} (w : Walk J items.length (fun _ => True) (YFn f)) (hf : ∀ i d, items[i]? = some d → ∀ F : Hp, RD G F d (f i)) : IterOk G J src items := by
  refine ⟨_, _, w, fun _ _ _ _ _ _ => trivial, fun N σ ρ st i x H H' hi h y => ?_⟩
  obtain ⟨eH, ex⟩ := y
  subst eH ex
  exact ⟨items[i], by simp [hi], h.new (hf i _ (by simp [hi]))⟩
theorem iter_s {z : Str} {v : V} : IterOk G (Its z) (zs [v] [.d (.str z)]) (signs z) := by
  have lz : (signs z).length = z.cps.size := by simp [signs]
  refine ⟨fun _ => True, fun i H v H' => H' = H ∧ ∃ c, z.cps[i]? = some c ∧ v = .str ⟨#[c]⟩, by rw [lz]; exact walk_str, fun _ _ _ _ _ _ => trivial, fun N σ ρ st i x H H' hi h y => ?_⟩
  obtain ⟨eH, c, ec, ex⟩ := y
  subst eH ex
  refine ⟨.str ⟨#[c]⟩, ?_, h.new fun _ => rfl⟩
  unfold signs
  rw [List.getElem?_map, Array.getElem?_toList, ec]
  rfl
/-- new pairs -/
theorem Hs.pair {x y : V} {d e : D} {T : Addr} (h : Hs G N H σ ρ ((some x, .d d) :: (some y, .d e) :: st)) (hT : H T = none) : Hs G N (upd H T (.tup [x, y])) σ ρ ((some (.ref T), .d (.tup [d, e])) :: st) :=
  Hs.newT (vs := [x, y]) (xs := [d, e]) h rfl hT
theorem iter_en {a : Addr} {s : S} {xs : List D} (e : lstS s = some xs) : IterOk G (Ite G.K a) (zs [.ref a] [s]) (xs.mapIdx fun i x => .tup [.int (i : Nat), x]) := by
  refine ⟨fun H => ∃ vs, SqL G.K H a vs ∧ vs.length = xs.length, fun i H v H' => ∃ T x, v = .ref T ∧ H T = none ∧ H' = upd H T (.tup [.int (i : Nat), x]) ∧ ∀ vs, SqL G.K H a vs → vs[i]? = some x, ⟨fun i H hi ⟨vs, q, l⟩ => ⟨vs, vs[i]'(by simpa [l] using hi), q, by
    have : i < vs.length := by simpa [l] using hi
    simp [this]⟩, fun H ⟨vs, q, l⟩ => ⟨vs, q, by simp [l]⟩, fun i H x H' hi _ y => y⟩, fun N σ ρ st H h => ?_, fun N σ ρ st i x H H' hi h y => ?_⟩
  · obtain ⟨a', vs, ea, q, l, _⟩ := Hs.itemsL h e
    cases ea
    exact ⟨vs, q, l⟩
  · obtain ⟨a', vs, ea, q, l, h2⟩ := Hs.itemsL h e
    cases ea
    obtain ⟨T, z, ex, hT, eH, y⟩ := y
    subst eH ex
    have hi' : i < xs.length := by simpa using hi
    obtain ⟨w, ew, h3⟩ := h2.one (i := i) (x := .d xs[i]) (by simpa using l) (by simp [hi'])
    have := y vs q
    rw [ew] at this
    cases this
    have h4 : Hs G N H σ ρ ((some (.int (i : Nat)), .d (.int (i : Nat))) :: (some z, .d xs[i]) :: (zs [.ref a] [s] ++ st)) := Hs.new h3 fun _ => rfl
    exact ⟨.tup [.int (i : Nat), xs[i]], by simp [hi'], h4.pair hT⟩
theorem iter_z {a b : Addr} {s u : S} {xs ys : List D} (e : lstS s = some xs) (e2 : lstS u = some ys) : IterOk G (Itz G.K a b) (zs [.ref a, .ref b] [s, u]) ((xs.zip ys).map fun p => .tup [p.1, p.2]) := by
  have both : ∀ {N : Pn} {σ : L2.St} {ρ : List S} {st : Stk} {H : Hp}, Hs G N H σ ρ (zs [.ref a, .ref b] [s, u] ++ st) → ∃ vs ws, SqL G.K H a vs ∧ SqL G.K H b ws ∧ vs.length = xs.length ∧ ws.length = ys.length ∧
      ∀ (i : Nat) (hx : i < xs.length) (hy : i < ys.length), ∃ v w, vs[i]? = some v ∧ ws[i]? = some w ∧ Hs G N H σ ρ ((some v, .d xs[i]) :: (some w, .d ys[i]) :: (zs [.ref a, .ref b] [s, u] ++ st)) := fun {N σ ρ st H} h => by
    have h' : Hs G N H σ ρ ((some (.ref a), s) :: (some (.ref b), u) :: st) := h
    obtain ⟨a', vs, ea, q, l, h2⟩ := Hs.itemsL h' e
    cases ea
    have h3 : Hs G N H σ ρ ((some (.ref b), u) :: (zs vs (xs.map .d) ++ ((some (.ref a), s) :: st))) := h2.perm ((List.Perm.append_left _ (.swap _ _ _)).trans List.perm_middle)
    obtain ⟨b', ws, eb, q2, l2, h4⟩ := Hs.itemsL h3 e2
    cases eb
    refine ⟨vs, ws, q, q2, l, l2, fun i hx hy => ?_⟩
    obtain ⟨w, ew, h5⟩ := h4.one (i := i) (x := .d ys[i]) (by simpa using l2) (by simp [hy])
    have h6 : Hs G N H σ ρ (zs vs (xs.map .d) ++ ((some w, .d ys[i]) :: (some (.ref a), s) :: (some (.ref b), u) :: st)) := by
      refine h5.perm ?_
      refine List.Perm.trans ?_ List.perm_middle.symm
      refine List.Perm.cons _ ?_
      exact (List.perm_middle.symm).trans (List.Perm.append_left _ (.swap _ _ _))
    obtain ⟨v, ev, h7⟩ := h6.one (i := i) (x := .d xs[i]) (by simpa using l) (by simp [hx])
    exact ⟨v, w, ev, ew, h7⟩
  have ln : ((xs.zip ys).map fun p => D.tup [p.1, p.2]).length = min xs.length ys.length := by simp
  refine ⟨fun H => ∃ vs ws, SqL G.K H a vs ∧ SqL G.K H b ws ∧ vs.length = xs.length ∧ ws.length = ys.length, fun i H v H' => ∃ T x y, v = .ref T ∧ H T = none ∧ H' = upd H T (.tup [x, y]) ∧ (∀ xs, SqL G.K H a xs → xs[i]? = some x) ∧ ∀ ys, SqL G.K H b ys → ys[i]? = some y,
    ⟨fun i H hi ⟨vs, ws, q, q2, l, l2⟩ => ?_, fun H ⟨vs, ws, q, q2, l, l2⟩ => ⟨vs, ws, q, q2, by rw [ln]; omega⟩, fun i H x H' hi _ y => y⟩, fun N σ ρ st H h => ?_, fun N σ ρ st i x H H' hi h y => ?_⟩
  · rw [ln] at hi
    exact ⟨vs, ws, vs[i]'(by omega), ws[i]'(by omega), q, q2, by simp [show i < vs.length by omega], by simp [show i < ws.length by omega]⟩
  · obtain ⟨vs, ws, q, q2, l, l2, _⟩ := both h
    exact ⟨vs, ws, q, q2, l, l2⟩
  · obtain ⟨vs, ws, q, q2, l, l2, k⟩ := both h
    rw [ln] at hi
    have hx : i < xs.length := by omega
    have hy : i < ys.length := by omega
    obtain ⟨v, w, ev, ew, h7⟩ := k i hx hy
    obtain ⟨T, x', y', ex, hT, eH, y1, y2⟩ := y
    subst eH ex
    have e3 := y1 vs q
    have e4 := y2 ws q2
    rw [ev] at e3
    rw [ew] at e4
    cases e3
    cases e4
    exact ⟨.tup [xs[i], ys[i]], by rw [List.getElem?_map, zip_get (show xs[i]? = some xs[i] by simp [hx]) (show ys[i]? = some ys[i] by simp [hy])]; rfl, h7.pair hT⟩
theorem iter_rv {a : Addr} {s : S} {xs : List D} (e : lstS s = some xs) {n : Nat} (hn : n = xs.length) : IterOk G (Itv G.K a n) (zs [.ref a] [s]) xs.reverse := by
  subst hn
  refine ⟨fun H => ∃ vs, SqL G.K H a vs ∧ vs.length = xs.length, fun i H x H' => H' = H ∧ ∀ vs, SqL G.K H a vs → vs[xs.length - 1 - i]? = some x, ⟨fun i H hi ⟨vs, q, l⟩ => ?_, fun H _ => (List.length_reverse (as := xs)).symm ▸ Nat.le_refl _, fun i H x H' hi _ y => y⟩, fun N σ ρ st H h => ?_, fun N σ ρ st i x H H' hi h y => ?_⟩
  · rw [List.length_reverse] at hi
    exact ⟨hi, vs, vs[xs.length - 1 - i]'(by omega), q, by simp [show xs.length - 1 - i < vs.length by omega]⟩
  · obtain ⟨a', vs, ea, q, l, _⟩ := Hs.itemsL h e
    cases ea
    exact ⟨vs, q, l⟩
  · obtain ⟨a', vs, ea, q, l, h2⟩ := Hs.itemsL h e
    cases ea
    rw [List.length_reverse] at hi
    obtain ⟨eH, y⟩ := y
    subst eH
    have hj : xs.length - 1 - i < xs.length := by omega
    obtain ⟨w, ew, h3⟩ := h2.one (i := xs.length - 1 - i) (x := .d xs[xs.length - 1 - i]) (by simpa using l) (by simp [hj])
    have := y vs q
    rw [ew] at this
    cases this
    exact ⟨xs[xs.length - 1 - i], by rw [List.getElem?_reverse hi]; simp [hj], h3⟩
theorem iter_rvT {a : Addr} {s : S} {xs : List D} (e : tupS s = some xs) {n : Nat} (hn : n = xs.length) : IterOk G (RT.ItvT G.K a n) (zs [.ref a] [s]) xs.reverse := by
  subst hn
  refine ⟨fun H => ∃ vs, SqT G.K H a vs ∧ vs.length = xs.length, fun i H x H' => H' = H ∧ ∀ vs, SqT G.K H a vs → vs[xs.length - 1 - i]? = some x, ⟨fun i H hi ⟨vs, q, l⟩ => ?_, fun H _ => (List.length_reverse (as := xs)).symm ▸ Nat.le_refl _, fun i H x H' hi _ y => y⟩, fun N σ ρ st H h => ?_, fun N σ ρ st i x H H' hi h y => ?_⟩
  · rw [List.length_reverse] at hi
    exact ⟨hi, vs, vs[xs.length - 1 - i]'(by omega), q, by simp [show xs.length - 1 - i < vs.length by omega]⟩
  · obtain ⟨a', vs, ea, q, l, _⟩ := Hs.itemsT h e
    cases ea
    exact ⟨vs, q, l⟩
  · obtain ⟨a', vs, ea, q, l, h2⟩ := Hs.itemsT h e
    cases ea
    rw [List.length_reverse] at hi
    obtain ⟨eH, y⟩ := y
    subst eH
    have hj : xs.length - 1 - i < xs.length := by omega
    obtain ⟨w, ew, h3⟩ := h2.one (i := xs.length - 1 - i) (x := .d xs[xs.length - 1 - i]) (by simpa using l) (by simp [hj])
    have := y vs q
    rw [ew] at this
    cases this
    exact ⟨xs[xs.length - 1 - i], by rw [List.getElem?_reverse hi]; simp [hj], h3⟩
/-! ### readings of iterables -/
/-- a list, a tuple, a text -/
def rA (K : PySem.W.Frag) : List V → Hp → (It → Hp → Prop) → Prop := fun vs H R => (∃ a, vs = [.ref a] ∧ (∃ xs, SqL K H a xs) ∧ R (Itl K a) H) ∨ (∃ a, vs = [.ref a] ∧ (∃ xs, SqT K H a xs) ∧ R (Itt K a) H) ∨ ∃ z, vs = [.str z] ∧ R (Its z) H
theorem ioA_one {xs : List S} {r : List D} (h : ioA xs = some r) : ∃ s, xs = [s] := by
  match xs with
  | [s] => exact ⟨s, rfl⟩
  | [] => cases h
  | a :: b :: l =>
    have e : ioA (a :: b :: l) = none := by
      show ioS (a :: b :: l) = none
      unfold ioS
      split
      · rename_i heq
        cases heq
      · rfl
    rw [e] at h
    cases h
theorem str_of {s : S} {r : List D} (h : ioS [s] = some r) : ∃ z, s = .d (.str z) ∧ r = signs z := by
  match s, h with
  | .d (.str z), h => exact ⟨z, rfl, (Option.some.inj h).symm⟩
theorem it_a : ItS G (rA G.K) ioA := fun N σ ρ st H vs xs items R l h e k => by
  obtain ⟨s, es⟩ := ioA_one e
  subst es
  unfold ioA at e
  · skip
    obtain ⟨v, ev, h1⟩ := one l h
    subst ev
    cases e1 : lstS s with
    | some ys =>
      have e' : ioL [s] = some ys := e1
      rw [e'] at e
      cases e
      obtain ⟨a, ws, ea, q, _, _⟩ := h1.itemsL e1
      subst ea
      exact .inl ⟨a, rfl, ⟨ws, q⟩, k _ H (iter_l e1) h⟩
    | none =>
      have e' : ioL [s] = none := e1
      rw [e'] at e
      simp only at e
      cases e2 : tupS s with
      | some ys =>
        have e'' : ioT [s] = some ys := e2
        rw [e''] at e
        cases e
        obtain ⟨a, ws, ea, q, _, _⟩ := h1.itemsT e2
        subst ea
        exact .inr (.inl ⟨a, rfl, ⟨ws, q⟩, k _ H (iter_t e2) h⟩)
      | none =>
        have e'' : ioT [s] = none := e2
        rw [e''] at e
        simp only at e
        obtain ⟨z, ez, er⟩ := str_of e
        subst ez er
        have e3 := h1.str
        subst e3
        exact .inr (.inr ⟨z, rfl, k _ H iter_s h⟩)
theorem pi_a {X : Cx} {tg l : Expr} : PI X tg l (fun σ H R => sAs X [l] σ H fun vs H1 => rA X.K vs H1 R) := by
  refine ⟨fun pins s σ H R I h => ?_⟩
  refine thn (h pins s I) fun v s1 ⟨x, H1, I1, r1, q1⟩ => ?_
  have q1 : rA X.K [x] H1 R := q1
  have fresh : ∀ b ∈ [s1.heap.objs.size], FpOk X pins H1 b := fun b hb => by
    have e : b = s1.heap.objs.size := by simpa using hb
    subst e
    exact I1.fpOk (Nat.le_refl _) (I1.hok.fresh (Nat.le_refl _))
  rcases q1 with ⟨a, e, ⟨xs, hq⟩, q⟩ | ⟨a, e, ⟨xs, hq⟩, q⟩ | ⟨z, e, q⟩
  · cases e
    obtain rfl : v = Value.ref a := r1
    obtain ⟨its, rv, p, hz⟩ := I1.list hq
    exact wpAny_pyIter_list p.isList ⟨s1.heap.objs.size, [s1.heap.objs.size], _, _, H1, rfl, I1.kept (t' := s1.toks) fun b o e => Heap.get?_push_of_some _ e, turn_list a _, ⟨_, Heap.get?_push_size _ rfl, rfl, rfl⟩, fresh, q⟩
  · cases e
    obtain rfl : v = Value.ref a := r1
    obtain ⟨its, rv, p, hz⟩ := I1.tuple hq
    exact wpAny_pyIter_tuple (show s1.heap.IsTuple a its.toArray from p) ⟨s1.heap.objs.size, [s1.heap.objs.size], _, _, H1, rfl, I1.kept (t' := s1.toks) fun b o e => Heap.get?_push_of_some _ e, turn_tuple a _, ⟨_, Heap.get?_push_size _ rfl, rfl, rfl⟩, fresh, q⟩
  · cases e
    obtain ⟨t, rfl⟩ := r1
    cases ha : z.cps.all (· < 128)
    · exact wpAny_pyIter_wide ha (pi_one (tk := s1.toks) I1 _ (turn_str _ z t "str_iterator" (.inr rfl)) ⟨_, Heap.get?_push_size _ rfl, rfl, rfl⟩ q)
    · exact wpAny_pyIter_ascii ha (pi_one (tk := s1.toks) I1 _ (turn_str _ z t "str_ascii_iterator" (.inl rfl)) ⟨_, Heap.get?_push_size _ rfl, rfl, rfl⟩ q)
def rR1 : List V → Hp → (It → Hp → Prop) → Prop := fun vs H R => ∃ j : Int, vs = [.int j] ∧ -(2 ^ 62) ≤ j ∧ j < 2 ^ 62 ∧ R (Itr 0 j.toNat) H
def rR2 : List V → Hp → (It → Hp → Prop) → Prop := fun vs H R => ∃ i j : Int, vs = [.int i, .int j] ∧ (-(2 ^ 62) ≤ i ∧ i < 2 ^ 62 ∧ -(2 ^ 62) ≤ j ∧ j < 2 ^ 62) ∧ R (Itr i (j - i).toNat) H
def rR3 : List V → Hp → (It → Hp → Prop) → Prop := fun vs H R => ∃ (i j c : Int) (n : Nat), vs = [.int i, .int j, .int c] ∧ RgC i j c n ∧ R (Itc i c n) H
def rEn (K : PySem.W.Frag) : List V → Hp → (It → Hp → Prop) → Prop := fun vs H R => ∃ a xs, vs = [.ref a] ∧ SqL K H a xs ∧ R (Ite K a) H
def rZp (K : PySem.W.Frag) : List V → Hp → (It → Hp → Prop) → Prop := fun vs H R => ∃ a b xs ys, vs = [.ref a, .ref b] ∧ SqL K H a xs ∧ SqL K H b ys ∧ R (Itz K a b) H
def rRv (K : PySem.W.Frag) : List V → Hp → (It → Hp → Prop) → Prop := fun vs H R => ∃ (a : Addr) (xs : List V), vs = [.ref a] ∧ ((SqL K H a xs ∧ R (Itv K a xs.length) H) ∨ (SqT K H a xs ∧ R (RT.ItvT K a xs.length) H))
theorem rng_at {lo : Int} {n i : Nat} {d : D} (h : (rngD lo n)[i]? = some d) : d = .int (lo + (i : Int)) := by
  unfold rngD at h
  rw [List.getElem?_map] at h
  cases e : (List.range n)[i]? with
  | none =>
    rw [e] at h
    cases h
  | some k =>
    rw [e] at h
    obtain ⟨hk, e2⟩ := List.getElem?_eq_some_iff.mp e
    rw [List.getElem_range] at e2
    subst e2
    exact (Option.some.inj h).symm
theorem rng_len {lo : Int} {n : Nat} : (rngD lo n).length = n := by simp [rngD]
theorem b62_of {i : Int} (h : b62 i = true) : -(2 ^ 62) ≤ i ∧ i < 2 ^ 62 := by simpa [b62] using h
theorem it_r1 : ItS G rR1 ioR1 := fun N σ ρ st H vs xs items R l h e k => by
  match xs, e, h, l, k with
  | [.d (.int j)], e, h, l, k =>
    obtain ⟨v, ev, h1⟩ := one l h
    subst ev
    have e1 := h1.int
    subst e1
    unfold ioR1 at e
    simp only at e
    by_cases hb : b62 j = true
    · rw [if_pos hb] at e
      cases e
      refine ⟨j, rfl, (b62_of hb).1, (b62_of hb).2, k _ H (iter_fn (f := fun i => .int (0 + (i : Int))) (by rw [rng_len]; exact walk_range) fun i d ed F => ?_) h⟩
      rw [rng_at ed]
      rfl
    · rw [if_neg hb] at e
      cases e
theorem it_r2 : ItS G rR2 ioR2 := fun N σ ρ st H vs xs items R l h e k => by
  match xs, e, h, l, k with
  | [.d (.int i), .d (.int j)], e, h, l, k =>
    obtain ⟨v, w, ev, h1, h2⟩ := two l h
    subst ev
    have e1 := h1.int
    have e2 := h2.int
    subst e1 e2
    unfold ioR2 at e
    simp only at e
    by_cases hb : (b62 i && b62 j) = true
    · rw [if_pos hb] at e
      cases e
      have hb' := hb
      simp only [Bool.and_eq_true] at hb'
      obtain ⟨b1, b2⟩ := hb'
      refine ⟨i, j, rfl, ⟨(b62_of b1).1, (b62_of b1).2, (b62_of b2).1, (b62_of b2).2⟩, k _ H (iter_fn (f := fun n => .int (i + (n : Int))) (by rw [rng_len]; exact walk_range) fun n d ed F => ?_) h⟩
      rw [rng_at ed]
      rfl
    · rw [if_neg hb] at e
      cases e
theorem it_en : ItS G (rEn G.K) ioEn := fun N σ ρ st H vs xs items R l h e k => by
  match xs, e, h, l, k with
  | [s], e, h, l, k =>
    obtain ⟨v, ev, h1⟩ := one l h
    subst ev
    simp only [ioEn, Option.map_eq_some_iff] at e
    obtain ⟨ys, e1, e2⟩ := e
    subst e2
    obtain ⟨a, ws, ea, q, _, _⟩ := h1.itemsL e1
    subst ea
    exact ⟨a, ws, rfl, q, k _ H (iter_en e1) h⟩
theorem it_z : ItS G (rZp G.K) ioZ := fun N σ ρ st H vs xs items R l h e k => by
  match xs, e, h, l, k with
  | [s, u], e, h, l, k =>
    obtain ⟨v, w, ev, h1, h2⟩ := two l h
    subst ev
    unfold ioZ at e
    simp only at e
    cases e1 : lstS s with
    | none =>
      rw [e1] at e
      cases e
    | some ys =>
    cases e2 : lstS u with
    | none =>
      rw [e1, e2] at e
      cases e
    | some zz =>
      rw [e1, e2] at e
      cases e
      obtain ⟨a, ws, ea, q, _, _⟩ := h1.itemsL e1
      obtain ⟨b, ws2, eb, q2, _, _⟩ := h2.itemsL e2
      subst ea eb
      exact ⟨a, b, ws, ws2, rfl, q, q2, k _ H (iter_z e1 e2) h⟩
theorem it_rv : ItS G (rRv G.K) ioRvA := fun N σ ρ st H vs xs items R l h e k => by
  match xs, e, h, l, k with
  | [s], e, h, l, k =>
    obtain ⟨v, ev, h1⟩ := one l h
    subst ev
    unfold ioRvA at e
    cases e1 : lstS s with
    | some ys =>
      have e' : ioRv [s] = some ys.reverse := by simp [ioRv, e1]
      rw [e'] at e
      cases e
      obtain ⟨a, ws, ea, q, l2, _⟩ := h1.itemsL e1
      subst ea
      exact ⟨a, ws, rfl, .inl ⟨q, k _ H (iter_rv e1 l2) h⟩⟩
    | none =>
      have e' : ioRv [s] = none := by simp [ioRv, e1]
      rw [e'] at e
      simp only [ioRvT, Option.map_eq_some_iff] at e
      obtain ⟨ys, e2, e3⟩ := e
      subst e3
      obtain ⟨a, ws, ea, q, l2, _⟩ := h1.itemsT e2
      subst ea
      exact ⟨a, ws, rfl, .inr ⟨q, k _ H (iter_rvT e2 l2) h⟩⟩
end
end DL
/-! the data layer: the head's defs; more operations and statements -/
namespace DL
open PySem PySem.Spec PyProof.Rows L2
/-- a def that the head tells, its code object known -/
theorem funC_of {fa : List He.Fa} {fn : List He.DefD} {ts : List He.Tab} {tf : List He.Defn} {ex : PySem.W.Frag → Bool} {w : World} {h : Heap} {K : PySem.W.Frag} (c : He.SaysX fa fn ts tf ex w h K) {d : He.DefD} (hd : d ∈ fn) (stm : Stmt) (e1 : d.params = defArgs stm := by rfl) (e2 : d.body = defBody stm := by rfl) (e3 : d.scope = defScope stm := by rfl) (e4 : d.dfl = [] := by rfl)
    (e5 : d.kwd = [] := by rfl) (cd : He.SaysD fa fn K) : ∃ fd, FunC K d.name d.qual stm (He.fAd K d.at_) (He.codeOf K d.at_) fd := by
  obtain ⟨fd, F⟩ := cd.defs hd
  obtain ⟨oc, od, dV, kV, doc, pm, an, cdv, ct, osl, efd, lk, hcd, hD, hK⟩ := F.ex
  obtain ⟨cc, ec⟩ := He.codeIn_ref hcd
  subst ec
  have eD : dV = .none := by
    rcases hD with ⟨_, z⟩ | ⟨z, _⟩
    · exact z
    · exact absurd (by unfold He.DefD.dvs; rw [e4]; rfl) z
  subst eD efd
  have eC : He.codeOf K d.at_ = cc := He.codeOf_eq lk rfl
  rw [eC]
  refine ⟨_, ⟨⟨oc, od, kV, doc, pm, an, ct, osl, ?_, lk, hcd⟩, F.kp⟩⟩
  rw [e1, e2, e3]
section
variable {G : Gx} {N : Pn} {X : Cx} {W : WX} {H H' : Hp} {σ : L2.St} {ρ ρ' : List S} {st : Stk} {En : Ends} {e a b : Expr} {es : List Expr} {as : List Arg} {pos : Pos} {f fa fb fc : M S}
/-! ### either of two operations -/
def opOr (g h : List S → ORes) : List S → ORes := fun xs => match g xs with
  | .stuck => h xs
  | r => r
theorem os_or2 {r r' : R2} {g h : List S → ORes} (a : OpS G N W (r2L r) g) (b : OpS G N W (r2L r') h) : OpS G N W (r2L fun x y H Q => r x y H Q ∨ r' x y H Q) (opOr g h) := fun σ ρ st H vs xs Q l hs p => by
  have key : r2L r σ vs H Q ∨ r2L r' σ vs H Q := by
    unfold opOr at p
    cases hg : g xs with
    | stuck =>
      rw [hg] at p
      exact .inr (b σ ρ st H vs xs Q l hs p)
    | ok z outs =>
      rw [hg] at p
      exact .inl (a σ ρ st H vs xs Q l hs (by rw [hg]; exact p))
    | exc c q outs =>
      rw [hg] at p
      exact .inl (a σ ρ st H vs xs Q l hs (by rw [hg]; exact p))
  match vs, key with
  | [x, y], key => exact key
  | [], key => exact key.elim id id
  | [_], key => exact key.elim id id
  | _ :: _ :: _ :: _, key => exact key.elim id id
theorem os_orL {r r' : List V → Hp → VK → Prop} {g h : List S → ORes} (a : OpS G N W (rL r) g) (b : OpS G N W (rL r') h) : OpS G N W (rL fun xs H Q => r xs H Q ∨ r' xs H Q) (opOr g h) := fun σ ρ st H vs xs Q l hs p => by
  unfold opOr at p
  cases hg : g xs with
  | stuck =>
    rw [hg] at p
    exact .inr (b σ ρ st H vs xs Q l hs p)
  | ok z outs =>
    rw [hg] at p
    exact .inl (a σ ρ st H vs xs Q l hs (by rw [hg]; exact p))
  | exc c q outs =>
    rw [hg] at p
    exact .inl (a σ ρ st H vs xs Q l hs (by rw [hg]; exact p))
/-! ### list(x), tuple(x) -/
def opList : List S → ORes
  | [s] => match seqS s with
    | some xs => .ok (.l xs) [s]
    | none => .stuck
  | _ => .stuck
theorem os_list : OpS G N W (rL fun xs H Q => ∃ p ys, xs = [.ref p] ∧ (SqL G.K H p ys ∨ SqT G.K H p ys) ∧ ∀ l, H l = none → Q (.ref l) (upd H l (.lst ys))) opList := fun σ ρ st H vs xs Q l h p => by
  match xs, p, h, l with
  | [s], p, h, l =>
    unfold opList at p
    simp only at p
    cases e : seqS s with
    | none =>
      rw [e] at p
      exact p.elim
    | some xs' =>
      rw [e] at p
      obtain ⟨v, ev, h1⟩ := one l h
      subst ev
      obtain ⟨a, ws, e1, sq, l3, h4⟩ := h1.items e
      subst e1
      exact ⟨a, ws, rfl, sq, fun q hq => p.2 _ _ (h4.newL l3 hq)⟩
def opTuple : List S → ORes
  | [s] => match lstS s with
    | some xs => .ok (.d (.tup xs)) [s]
    | none => match tupS s with
      | some xs => .ok (.d (.tup xs)) [s]
      | none => .stuck
  | _ => .stuck
theorem os_tuple : OpS G N W (rL fun xs H Q => ∃ p ys, xs = [.ref p] ∧ ((SqL G.K H p ys ∧ ∀ l, H l = none → Q (.ref l) (upd H l (.tup ys))) ∨ (SqT G.K H p ys ∧ Q (.ref p) H))) opTuple := fun σ ρ st H vs xs Q l h p => by
  match xs, p, h, l with
  | [s], p, h, l =>
    unfold opTuple at p
    simp only at p
    obtain ⟨v, ev, h1⟩ := one l h
    subst ev
    cases e : lstS s with
    | some xs' =>
      rw [e] at p
      obtain ⟨a, ws, e1, sq, l3, h4⟩ := h1.itemsL e
      subst e1
      exact ⟨a, ws, rfl, .inl ⟨sq, fun q hq => p.2 _ _ (h4.newT l3 hq)⟩⟩
    | none =>
      rw [e] at p
      simp only at p
      cases e2 : tupS s with
      | none =>
        rw [e2] at p
        exact p.elim
      | some xs' =>
        rw [e2] at p
        have es : s = .d (.tup xs') := by
          cases s with
          | d x =>
            cases x with
            | tup ys =>
              cases e2
              rfl
            | _ => cases e2
          | _ => cases e2
        subst es
        obtain ⟨a, ws, e1, sq, l3, _⟩ := h1.itemsT e2
        subst e1
        exact ⟨a, ws, rfl, .inr ⟨sq, p.2 _ _ h1.dup⟩⟩
/-! ### list + list, both owned -/
theorem zs_app {vs ws : List V} {xs ys : List S} (l : vs.length = xs.length) : zs (vs ++ ws) (xs ++ ys) = zs vs xs ++ zs ws ys := by
  unfold zs
  rw [List.map_append, List.zip_append (by simp [l])]
def opCat : List S → ORes
  | [.l xs, .l ys] => if xs.length + ys.length ≤ 100000 then .ok (.l (xs ++ ys)) [.l xs, .l ys] else .stuck
  | _ => .stuck
theorem os_cat : OpS G N W (r2L rCat) opCat := fun σ ρ st H vs xs Q l h p => by
  match xs, p, h, l with
  | [.l xs, .l ys], p, h, l =>
    unfold opCat at p
    simp only at p
    by_cases hz : xs.length + ys.length ≤ 100000
    · rw [if_pos hz] at p
      obtain ⟨v, w, ev, h1, h2⟩ := two l h
      subst ev
      obtain ⟨a, vs, ea, eH, l1⟩ := h1.lAt
      obtain ⟨b, ws, eb, eH2, l2⟩ := h2.lAt
      subst ea eb
      obtain ⟨a', vs', ea, _, l3, h3⟩ := h1.itemsL (xs := xs) rfl
      cases ea
      obtain ⟨F, fp, sb, r, n⟩ := h1.ex
      obtain ⟨x1, x2, _, ⟨p1, v1, e1, _, g1, _, q1⟩, x3, x4, _, ⟨p2, v2, e2, _, g2, _, q2⟩, _⟩ := id r
      cases e1
      cases e2
      rw [eH] at g1
      rw [eH2] at g2
      cases g1
      cases g2
      have h5 : Hs G N H σ ρ (zs (vs ++ ws) ((xs ++ ys).map .d) ++ (zs [.ref a, .ref b] [.l xs, .l ys] ++ st)) := by
        refine ⟨h.len, ⟨F, fp, sb, ?_, n⟩, h.tb, h.pin⟩
        rw [List.map_append, zs_app (by simp [l1]), List.append_assoc, List.append_assoc]
        exact (RL.app _ _ _).mpr ⟨[], fp, rfl, (RL.ds l1).mpr ⟨rfl, q1⟩, (RL.app _ _ _).mpr ⟨[], fp, rfl, (RL.ds l2).mpr ⟨rfl, q2⟩, r⟩⟩
      exact ⟨a, b, vs, ws, rfl, rfl, eH, eH2, by rw [l1, l2]; exact Nat.le_trans hz (by decide), fun q hq => p.2 _ _ (h5.newL (by simp [l1, l2]) hq)⟩
    · rw [if_neg hz] at p
      exact p.elim
/-! ### xs[i] = v, an owned list, v settled -/
theorem RDs.set {F : Hp} : ∀ {xs : List D} {vs : List V} {j : Nat} {x : D} {v : V}, RDs G F xs vs → RD G F x v → RDs G F (xs.set j x) (vs.set j v)
  | [], vs, j, x, v, q, _ => by
    have : vs = [] := q
    subst this
    exact rfl
  | y :: xs, _, 0, x, v, ⟨w, r, ev, q1, q2⟩, q => by
    subst ev
    exact ⟨v, r, rfl, q, q2⟩
  | y :: xs, _, j + 1, x, v, ⟨w, r, ev, q1, q2⟩, q => by
    subst ev
    exact ⟨w, r.set j v, rfl, q1, RDs.set q2 q⟩
def opSetL : List S → ORes
  | [s, .l xs, .d (.int i)] => match s.frz, ixN xs.length i with
    | some x, some j => .ok (.d .non) [.d x, .l (xs.set j x), .d (.int i)]
    | _, _ => .stuck
  | _ => .stuck
theorem os_setL : OpS G N W (rSet rSetL) opSetL := fun σ ρ st H vs xs Q l h p => by
  match xs, p, h, l with
  | [s, .l xs, .d (.int i)], p, h, l =>
    unfold opSetL at p
    simp only at p
    cases e1 : s.frz with
    | none =>
      rw [e1] at p
      exact p.elim
    | some x =>
    cases e2 : ixN xs.length i with
    | none =>
      rw [e1, e2] at p
      exact p.elim
    | some j =>
      rw [e1, e2] at p
      match vs, l, h with
      | [v, o, k], l, h =>
        have h1 : Hs G N H σ ρ ((some v, .d x) :: (some o, .l xs) :: (some k, .d (.int i)) :: st) := Hs.freeze h e1
        have h2 : Hs G N H σ ρ ((some o, .l xs) :: (some v, .d x) :: (some k, .d (.int i)) :: st) := h1.perm (.swap _ _ _)
        have h3 : Hs G N H σ ρ ((some k, .d (.int i)) :: (some o, .l xs) :: (some v, .d x) :: st) := h2.perm (((List.Perm.swap _ _ _).cons _).trans (.swap _ _ _))
        have ek := h3.int
        subst ek
        obtain ⟨F, fp, sb, ⟨a1, b1, ef1, ⟨p', vs', ev, ea, eH, eF, q⟩, r⟩, n⟩ := h2.ex
        cases ev
        subst ea ef1
        obtain ⟨a2, b2, ef2, ⟨ea2, w, ew, qx⟩, r2⟩ := id r
        cases ew
        refine ⟨p', vs', i, j, rfl, rfl, eH, by rw [q.len]; exact e2, p.2 .non _ ?_⟩
        have hnp : p' ∉ b1 := (List.nodup_cons.mp n).1
        have h4 : Hs G N (upd H p' (.lst (vs'.set j v))) σ ρ ((some (.ref p'), .l (xs.set j x)) :: (some v, .d x) :: (some (.int i), .d (.int i)) :: st) :=
          ⟨h2.len, ⟨F, [p'] ++ b1, sub_upd sb eF, ⟨[p'], b1, rfl, ⟨p', vs'.set j v, rfl, rfl, upd_same, eF, RDs.set q qx⟩, RL.keep (Le.refl F) _ b1 r (fr_upd r hnp)⟩, n⟩, tabs_upd h2.tb eH trivial, h2.pin⟩
        exact (h4.perm (.swap _ _ _)).new fun _ => rfl
/-! ### a value to a tuple of targets -/
def bAsgT (t : Tg) (f : M S) : B := bdo f fun s ρ => match asgT t s ρ with
  | some ρ' => .nx ρ'
  | none => .stuck
theorem sx_asgT {tg : Expr} {t : Tg} (he : EX G N X W e f) (hg : GX G N X tg t) (hs : swapsWithSole [tg] e pos.line X.env = pure false := by rfl) (hw : swappedStores [tg] e X.env = pure none := by rfl)
    (h1 : (assignEach [tg] X.env).map (·.2) = [assign tg X.env] := by rfl) : SX G N X W (.Assign [tg] e pos) (bAsgT t f) := fun σ ρ st H D h p =>
  sS_of (ps_asg pe_sem pg_sem hs hw h1) (he.bdo h p fun s ρ1 v H1 h2 p1 => by
    cases ea : asgT t s ρ1 with
    | none =>
      rw [ea] at p1
      exact p1.elim
    | some ρ2 =>
      rw [ea] at p1
      exact hg σ ρ1 ρ2 st H1 v s _ h2 ea fun σ' H' h' => p1 σ' H' h')
/-! ### slices -/
/-- a part of a slice: an int, or none -/
def mPart : Option (M S) → M (Option Int)
  | none => mpure none
  | some f => mbind f fun s => match s with
    | .d (.int i) => mpure (some i)
    | _ => mstuck
def cutD (xs : List D) (lo hi : Option Int) : List D := (xs.drop (HT.sIx xs.length 0 lo)).take (HT.sIx xs.length xs.length hi - HT.sIx xs.length 0 lo)
end
end DL
/-! the data layer: slices, max and min of data -/
namespace DL
open PySem PySem.Spec PyProof.Rows L2
theorem RDs.dropN {G : Gx} {F : Hp} : ∀ (n : Nat) {xs : List D} {vs : List V}, RDs G F xs vs → RDs G F (xs.drop n) (vs.drop n)
  | 0, _, _, h => h
  | n + 1, [], vs, h => by
    have : vs = [] := h
    subst this
    exact rfl
  | n + 1, x :: xs, _, ⟨v, r, e, _, q⟩ => by
    subst e
    exact RDs.dropN n q
theorem RDs.takeN {G : Gx} {F : Hp} : ∀ (n : Nat) {xs : List D} {vs : List V}, RDs G F xs vs → RDs G F (xs.take n) (vs.take n)
  | 0, _, _, _ => rfl
  | n + 1, [], vs, h => by
    have : vs = [] := h
    subst this
    exact rfl
  | n + 1, x :: xs, _, ⟨v, r, e, q1, q⟩ => by
    subst e
    exact ⟨v, r.take n, rfl, q1, RDs.takeN n q⟩
section
variable {G : Gx} {N : Pn} {X : Cx} {W : WX} {H H' : Hp} {σ : L2.St} {ρ ρ' : List S} {st : Stk} {e a b : Expr} {pos p2 : Pos} {f : M S}
/-- other data of the same values -/
theorem Hs.resee {vs ws : List V} {xs ys : List D} (l : vs.length = xs.length) (l2 : ws.length = ys.length) (h : Hs G N H σ ρ (zs vs (xs.map .d) ++ st)) (k : ∀ F : Hp, RDs G F xs vs → RDs G F ys ws) : Hs G N H σ ρ (zs ws (ys.map .d) ++ st) := by
  obtain ⟨F, fp, sb, r, n⟩ := h.ex
  rw [List.append_assoc] at r
  obtain ⟨a, b, e, r1, r2⟩ := (RL.app _ _ _).mp r
  obtain ⟨ea, q⟩ := (RL.ds l).mp r1
  refine ⟨h.len, ⟨F, fp, sb, ?_, n⟩, h.tb, h.pin⟩
  rw [List.append_assoc]
  exact (RL.app _ _ _).mpr ⟨a, b, e, (RL.ds l2).mpr ⟨ea, k F q⟩, r2⟩
def slD (lo hi : Option Int) : S → Option S
  | .l xs => some (.l (cutD xs lo hi))
  | .d (.lst xs) => some (.l (cutD xs lo hi))
  | .d (.tup xs) => some (.d (.tup (cutD xs lo hi)))
  | _ => none
def mSlice (f : M S) (lo hi : Option (M S)) : M S := mbind f fun s => mbind (mPart lo) fun i => mbind (mPart hi) fun j => match slD i j s with
  | some z => mpure z
  | none => mstuck
/-- a bound of a slice -/
inductive PtX (G : Gx) (N : Pn) (X : Cx) (W : WX) : Option Expr → Option (M S) → Prop
  | none : PtX G N X W none none
  | some {e : Expr} {f : M S} : EX G N X W e f → PtX G N X W (some e) (some f)
def sPt (X : Cx) : Option Expr → TO
  | none => tNoPart
  | some e => tPart (sE X e)
theorem po_sem {X : Cx} : ∀ {o : Option Expr}, PO X o (sPt X o)
  | none => po_none
  | some _ => po_some pe_sem
theorem pt_run {o : Option Expr} {m : Option (M S)} (h : PtX G N X W o m) (hs : Hs G N H σ ρ st) {st0 : Stk} {β : Type} {K : β → List S → Prop} {g : Option Int → M β} {R : Option Int → Hp → Prop} (p : pst G N W σ st0 K (mbind (mPart m) g ρ))
    (k : ∀ o ρ1 H1, Hs G N H1 σ ρ1 st → pst G N W σ st0 K (g o ρ1) → R o H1) (d : ∀ H ρ, Hs G N H σ ρ st → Hs G N H σ ρ st0) : sPt X o σ H R := by
  cases h with
  | none => exact k none ρ H hs p
  | some he =>
    rename_i e f
    have p' : pst G N W σ st0 K (mbind f (fun s => mbind (match s with
      | .d (.int i) => mpure (some i)
      | _ => mstuck) g) ρ) := by
      have e1 : mbind (mPart (some f)) g ρ = mbind f (fun s => mbind (match s with
        | .d (.int i) => mpure (some i)
        | _ => mstuck) g) ρ := by
        show mbind (mbind f _) g ρ = _
        unfold mbind
        cases f ρ <;> rfl
      rw [e1] at p
      exact p
    refine he.bind hs p' (fun s ρ1 v H1 h1 p1 => ?_) d
    have go : ∀ i, s = .d (.int i) → ∃ i, v = .int i ∧ R (some i) H1 := fun i es => by
      subst es
      exact ⟨i, h1.int, k (some i) ρ1 H1 h1.drop p1⟩
    match s, go, p1 with
    | .d (.int i), go, _ => exact go i rfl
theorem cut_len {vs : List V} {xs : List D} (l : vs.length = xs.length) (lo hi : Option Int) : (cutV vs lo hi).length = (cutD xs lo hi).length := by
  unfold cutV cutD
  rw [List.length_take, List.length_take, List.length_drop, List.length_drop, l]
theorem cut_rds {vs : List V} {xs : List D} (l : vs.length = xs.length) (lo hi : Option Int) (F : Hp) (q : RDs G F xs vs) : RDs G F (cutD xs lo hi) (cutV vs lo hi) := by
  unfold cutV cutD
  rw [l]
  exact RDs.takeN _ (RDs.dropN _ q)
theorem ex_sl {lo hi : Option Expr} {ml mh : Option (M S)} (hK : X.K = G.K) (he : EX G N X W e f) (hl : PtX G N X W lo ml) (hh : PtX G N X W hi mh) : EX G N X W (.Subscript e (.Slice lo hi none p2) pos) (mSlice f ml mh) := fun σ ρ st H Q h p => by
  refine sE_of (pe_slice (SlR.or sl_list sl_tupA) pe_sem po_sem po_sem) ?_
  refine he.bind h p fun s ρ1 v H1 h1 p1 => ?_
  refine pt_run hl h1 p1 (fun i ρ2 H2 h2 p2 => ?_) fun _ _ q => q.drop
  refine pt_run hh h2 p2 (fun j ρ3 H3 h3 p3 => ?_) fun _ _ q => q.drop
  cases es : slD i j s with
  | none =>
    rw [es] at p3
    exact p3.elim
  | some z =>
    rw [es] at p3
    have p3' : ∀ v H', Hs G N H' σ ρ3 ((some v, z) :: st) → Q v H' := p3
    have goL : ∀ xs, lstS s = some xs → z = .l (cutD xs i j) → rSlL X.K v i j H3 Q ∨ rSlA X.K v i j H3 Q := fun xs e1 ez => by
      subst ez
      obtain ⟨a, ws, ea, sq, l3, h4⟩ := h3.itemsL e1
      subst ea
      refine .inl ⟨a, ws, rfl, by rw [hK]; exact sq, fun q hq => p3' _ _ ?_⟩
      exact ((Hs.resee l3 (cut_len l3 i j) h4 fun F q => cut_rds l3 i j F q).newL (cut_len l3 i j) hq).perm (.swap _ _ _) |>.drop
    have goT : ∀ xs, s = .d (.tup xs) → z = .d (.tup (cutD xs i j)) → rSlL X.K v i j H3 Q ∨ rSlA X.K v i j H3 Q := fun xs e1 ez => by
      subst ez e1
      obtain ⟨a, ws, ea, sq, l3, h4⟩ := h3.itemsT (xs := xs) rfl
      subst ea
      refine .inr ⟨a, ws, rfl, by rw [hK]; exact sq, fun hw => p3' _ _ ?_, fun _ q hq => p3' _ _ ?_⟩
      · have e2 : cutD xs i j = xs := by
          unfold cutD
          rw [l3] at hw
          rw [hw.1, hw.2, List.drop_zero, Nat.sub_zero, List.take_length]
        rw [e2]
        exact h3
      · exact ((Hs.resee l3 (cut_len l3 i j) h4 fun F q => cut_rds l3 i j F q).newT (cut_len l3 i j) hq).perm (.swap _ _ _) |>.drop
    match s, es, goL, goT with
    | .l xs, es, goL, _ =>
      cases es
      exact goL xs rfl rfl
    | .d (.lst xs), es, goL, _ =>
      cases es
      exact goL xs rfl rfl
    | .d (.tup xs), es, _, goT =>
      cases es
      exact goT xs rfl rfl
end
end DL
/-! the data layer: max and min of data -/
namespace DL
open PySem PySem.Spec PyProof.Rows L2 PySem.W
mutual
theorem dPy_inj : ∀ (x y : D) (d : PyData), dPy x = some d → dPy y = some d → x = y
  | .non, y, d, h, k => by
    cases h
    cases y with
    | non => rfl
    | tup ys => simp [dPy] at k
    | lst ys => simp [dPy] at k
    | _ => simp [dPy] at k
  | .bl b, y, d, h, k => by
    cases h
    cases y with
    | bl c => simpa [dPy] using k.symm
    | tup ys => simp [dPy] at k
    | lst ys => simp [dPy] at k
    | _ => simp [dPy] at k
  | .int b, y, d, h, k => by
    cases h
    cases y with
    | int c => simpa [dPy] using k.symm
    | tup ys => simp [dPy] at k
    | lst ys => simp [dPy] at k
    | _ => simp [dPy] at k
  | .str b, y, d, h, k => by
    cases h
    cases y with
    | str c => simpa [dPy] using k.symm
    | tup ys => simp [dPy] at k
    | lst ys => simp [dPy] at k
    | _ => simp [dPy] at k
  | .tup xs, y, d, h, k => by
    simp only [dPy, Option.map_eq_some_iff] at h
    obtain ⟨ds, h1, h2⟩ := h
    subst h2
    cases y with
    | tup ys =>
      simp only [dPy, Option.map_eq_some_iff] at k
      obtain ⟨es, k1, k2⟩ := k
      cases k2
      rw [dPys_inj xs ys ds h1 k1]
    | lst ys => simp [dPy] at k
    | _ => simp [dPy] at k
  | .lst xs, y, d, h, k => by
    simp only [dPy, Option.map_eq_some_iff] at h
    obtain ⟨ds, h1, h2⟩ := h
    subst h2
    cases y with
    | lst ys =>
      simp only [dPy, Option.map_eq_some_iff] at k
      obtain ⟨es, k1, k2⟩ := k
      cases k2
      rw [dPys_inj xs ys ds h1 k1]
    | tup ys => simp [dPy] at k
    | _ => simp [dPy] at k
  | .dic _ _, y, d, h, k => by simp [dPy] at h
  | .obj _ _, y, d, h, k => by simp [dPy] at h
theorem dPys_inj : ∀ (xs ys : List D) (ds : List PyData), dPys xs = some ds → dPys ys = some ds → xs = ys
  | [], ys, ds, h, k => by
    simp only [dPys, Option.some.injEq] at h
    subst h
    cases ys with
    | nil => rfl
    | cons y ys =>
      unfold dPys at k
      split at k <;> cases k
  | x :: xs, ys, ds, h, k => by
    unfold dPys at h
    split at h
    · rename_i d ds' e1 e2
      cases h
      cases ys with
      | nil => simp [dPys] at k
      | cons y ys =>
        unfold dPys at k
        split at k
        · rename_i d' ds'' e3 e4
          cases k
          rw [dPy_inj x y d e1 e3, dPys_inj xs ys ds' e2 e4]
        · cases k
    · cases h
end
def py (x : D) : PyData := (dPy x).getD .none
theorem dPys_at : ∀ {xs : List D} {ds : List PyData}, dPys xs = some ds → ds.length = xs.length ∧ ∀ (i : Nat) (x : D), xs[i]? = some x → ∃ d, dPy x = some d ∧ ds[i]? = some d
  | [], ds, h => by
    simp only [dPys, Option.some.injEq] at h
    subst h
    exact ⟨rfl, fun i x e => by simp at e⟩
  | x :: xs, ds, h => by
    unfold dPys at h
    split at h
    · rename_i d ds' e1 e2
      cases h
      obtain ⟨l, k⟩ := dPys_at e2
      refine ⟨by simp [l], fun i y e => ?_⟩
      cases i with
      | zero =>
        cases e
        exact ⟨d, e1, rfl⟩
      | succ i => exact k i y (by simpa using e)
    · cases h
/-- the greatest, the least of data -/
def bestD (lt : PyData → PyData → Bool) (x : D) (xs : List D) : D := xs.foldl (fun a y => if lt (py a) (py y) then y else a) x
theorem best_py {lt : PyData → PyData → Bool} : ∀ {xs : List D} {x : D} {d : PyData} {ds : List PyData}, dPy x = some d → dPys xs = some ds → dPy (bestD lt x xs) = some (ds.foldl (fun a y => if lt a y then y else a) d)
  | [], x, d, ds, h, k => by
    simp only [dPys, Option.some.injEq] at k
    subst k
    exact h
  | y :: ys, x, d, ds, h, k => by
    unfold dPys at k
    split at k
    · rename_i e es e1 e2
      cases k
      have hp : py x = d := by unfold py; rw [h]; rfl
      have hq : py y = e := by unfold py; rw [e1]; rfl
      show dPy (bestD lt (if lt (py x) (py y) then y else x) ys) = _
      rw [hp, hq]
      refine best_py (d := if lt d e then e else d) ?_ e2
      split
      · exact e1
      · exact h
    · cases k
def alikeB (ds : List PyData) : Bool := ds.all fun x => ds.all (fun y => alike x y) && (match x with
  | .none => false
  | _ => true)
theorem alike_of {ds : List PyData} (h : alikeB ds = true) : AlikeAll ds := by
  unfold alikeB at h
  simp only [List.all_eq_true, Bool.and_eq_true] at h
  refine ⟨fun x hx y hy => (h x hx).1 y hy, fun x hx z => ?_⟩
  have := (h x hx).2
  rw [z] at this
  cases this
def rMx (K : PySem.W.Frag) (best : PyData → List PyData → PyData) : List V → Hp → VK → Prop := fun vs H Q => ∃ a ws d ds, vs = [.ref a] ∧ (SqL K H a ws ∨ SqT K H a ws) ∧ DpAll K H ws (d :: ds) ∧ AlikeAll (d :: ds) ∧ PyData.depthAll (d :: ds) ≤ 64 ∧
  ∀ (i : Nat) w, ws[i]? = some w → (d :: ds)[i]? = some (best d ds) → Q w H
section
variable {X : Cx}
theorem Vals.getV : ∀ {xs : List V} {us : List Value} {i : Nat} {u : Value}, Vals xs us → us[i]? = some u → ∃ x, xs[i]? = some x ∧ RelV x u
  | _, _, _, _, .nil, e => by simp at e
  | _, _, 0, _, .cons r _, e => by
    cases e
    exact ⟨_, rfl, r⟩
  | _, _, i + 1, u, .cons _ t, e => Vals.getV (i := i) t (by simpa using e)
theorem readsAll_ix {h : Heap} : ∀ {us : List Value} {ds : List PyData} {as : List Addr}, ReadsAll h us ds as → ∀ (i : Nat) (u : Value), us[i]? = some u → ∃ d bs, ds[i]? = some d ∧ Reads h u d bs
  | _, _, _, .nil, i, u, e => by simp at e
  | _, _, _, .cons r rs, 0, u, e => by
    cases e
    exact ⟨_, _, rfl, r⟩
  | _, _, _, .cons r rs, i + 1, u, e => readsAll_ix rs i u (by simpa using e)
theorem cr_mx (hc : X.calm = true) (hu : X.A.units + 66 < cLine) : CallR X (.builtin "max") (rMx X.K maxD) := by
  intro pins s σ H xs us Q I r h
  obtain ⟨a, ws, d, ds, rfl, sq, hd, ha, hz, q⟩ := h
  rw [Vals.ref1 r]
  have fin : ∀ (its : List Value), Vals ws its → ∀ as, ReadsAll s.heap its (d :: ds) as → ∀ (i : Nat) v h' tk bs, its.toArray[i]? = some v → Reads h' v (maxD d ds) bs → (∀ b o, s.heap.get? b = some o → h'.get? b = some o) → EP X pins σ Q v { s with heap := h', toks := tk } := fun its rv as hr i v h' tk bs hv hm hk => by
    have hv' : its[i]? = some v := by simpa using hv
    obtain ⟨w, ew, rw_⟩ := Vals.getV rv hv'
    obtain ⟨di, bs2, e1, e2⟩ := readsAll_ix hr i v hv'
    have e3 := (Reads.unique (reads_keeps hk e2) _ _ hm).1
    rw [e3] at e1
    exact ⟨w, H, I.kept hk, rw_, q i w ew e1⟩
  rcases sq with hs | hs
  · obtain ⟨its, rv, p, _⟩ := I.list hs
    obtain ⟨as, hr⟩ := Dp.readsAll I (d :: ds) ws its hd rv
    exact max_list_data (I.ok.hd hc) p.isList (by simpa using hr) ha (by omega) (fin its rv as hr)
  · obtain ⟨its, rv, p, _⟩ := I.tuple hs
    obtain ⟨as, hr⟩ := Dp.readsAll I (d :: ds) ws its hd rv
    exact max_tuple_data (I.ok.hd hc) (show s.heap.IsTuple a its.toArray from p) (by simpa using hr) ha (by omega) (fin its rv as hr)
theorem cr_mn (hc : X.calm = true) (hu : X.A.units + 66 < cLine) : CallR X (.builtin "min") (rMx X.K minD) := by
  intro pins s σ H xs us Q I r h
  obtain ⟨a, ws, d, ds, rfl, sq, hd, ha, hz, q⟩ := h
  rw [Vals.ref1 r]
  have fin : ∀ (its : List Value), Vals ws its → ∀ as, ReadsAll s.heap its (d :: ds) as → ∀ (i : Nat) v h' tk bs, its.toArray[i]? = some v → Reads h' v (minD d ds) bs → (∀ b o, s.heap.get? b = some o → h'.get? b = some o) → EP X pins σ Q v { s with heap := h', toks := tk } := fun its rv as hr i v h' tk bs hv hm hk => by
    have hv' : its[i]? = some v := by simpa using hv
    obtain ⟨w, ew, rw_⟩ := Vals.getV rv hv'
    obtain ⟨di, bs2, e1, e2⟩ := readsAll_ix hr i v hv'
    have e3 := (Reads.unique (reads_keeps hk e2) _ _ hm).1
    rw [e3] at e1
    exact ⟨w, H, I.kept hk, rw_, q i w ew e1⟩
  rcases sq with hs | hs
  · obtain ⟨its, rv, p, _⟩ := I.list hs
    obtain ⟨as, hr⟩ := Dp.readsAll I (d :: ds) ws its hd rv
    exact min_list_data (I.ok.hd hc) p.isList (by simpa using hr) ha (by omega) (fin its rv as hr)
  · obtain ⟨its, rv, p, _⟩ := I.tuple hs
    obtain ⟨as, hr⟩ := Dp.readsAll I (d :: ds) ws its hd rv
    exact min_tuple_data (I.ok.hd hc) (show s.heap.IsTuple a its.toArray from p) (by simpa using hr) ha (by omega) (fin its rv as hr)
end
section
variable {G : Gx} {N : Pn} {W : WX} {H : Hp} {σ : L2.St} {ρ : List S} {st : Stk}
theorem RDs.dps {F : Hp} (sb : Sub F H) {xs : List D} {vs : List V} {ds : List PyData} (q : RDs G F xs vs) (e : dPys xs = some ds) : DpAll G.K H vs ds := dps_of sb xs vs ds q e
def opBest (lt : PyData → PyData → Bool) : List S → ORes
  | [s] => match seqS s with
    | some (x :: xs) => match dPys (x :: xs) with
      | some ds => if alikeB ds && decide (PyData.depthAll ds ≤ 64) then .ok (.d (bestD lt x xs)) [s] else .stuck
      | none => .stuck
    | _ => .stuck
  | _ => .stuck
theorem os_best {lt : PyData → PyData → Bool} {best : PyData → List PyData → PyData} (hb : ∀ d ds, best d ds = ds.foldl (fun a y => if lt a y then y else a) d) : OpS G N W (rL (rMx G.K best)) (opBest lt) := fun σ ρ st H vs xs Q l h p => by
  match xs, p, h, l with
  | [s], p, h, l =>
    unfold opBest at p
    simp only at p
    obtain ⟨v, ev, h1⟩ := one l h
    subst ev
    cases e : seqS s with
    | none =>
      rw [e] at p
      exact p.elim
    | some ys =>
    cases ys with
    | nil =>
      rw [e] at p
      exact p.elim
    | cons x xs' =>
      rw [e] at p
      simp only at p
      cases e2 : dPys (x :: xs') with
      | none =>
        rw [e2] at p
        exact p.elim
      | some dd =>
        rw [e2] at p
        simp only at p
        by_cases hc : (alikeB dd && decide (PyData.depthAll dd ≤ 64)) = true
        · rw [if_pos hc] at p
          simp only [Bool.and_eq_true, decide_eq_true_eq] at hc
          obtain ⟨a, ws, ea, sq, l3, h4⟩ := h1.items e
          subst ea
          obtain ⟨F, fp, sb, r, n⟩ := h4.ex
          rw [List.append_assoc] at r
          obtain ⟨x1, x2, _, r1, _⟩ := (RL.app _ _ _).mp r
          have q := ((RL.ds l3).mp r1).2
          have hda := q.dps sb e2
          cases dd with
          | nil =>
            have := (dPys_at e2).1
            simp at this
          | cons d ds =>
            refine ⟨a, ws, d, ds, rfl, sq, hda, alike_of hc.1, hc.2, fun i w ew ei => ?_⟩
            have hi : i < (x :: xs').length := by
              rw [← l3]
              exact (List.getElem?_eq_some_iff.mp ew).1
            obtain ⟨di, e3, e4⟩ := (dPys_at e2).2 i (x :: xs')[i] (by simp [hi])
            rw [ei] at e4
            have hx : dPy x = some d ∧ dPys xs' = some ds := by
              unfold dPys at e2
              split at e2
              · rename_i d' ds' z1 z2
                cases e2
                exact ⟨z1, z2⟩
              · cases e2
            have e5 := best_py (lt := lt) hx.1 hx.2
            rw [← hb, Option.some.inj e4] at e5
            have e6 := dPy_inj _ _ _ e3 e5
            obtain ⟨w', ew', h6⟩ := h4.one (i := i) (x := .d (x :: xs')[i]) (by simpa using l3) (by
              rw [List.getElem?_map, List.getElem?_eq_getElem hi]
              rfl)
            rw [ew] at ew'
            cases ew'
            rw [e6] at h6
            exact p.2 w H h6
        · rw [if_neg hc] at p
          exact p.elim
def opMax : List S → ORes := opBest dataLt
def opMin : List S → ORes := opBest fun a y => dataLt y a
theorem os_max : OpS G N W (rL (rMx G.K maxD)) opMax := os_best fun _ _ => rfl
theorem os_min : OpS G N W (rL (rMx G.K minD)) opMin := os_best fun _ _ => rfl
end
end DL
/-! the data layer: for over an owned list of owned things -/
namespace DL
open PySem PySem.Spec PyProof.Rows L2
def forO (i : Nat) (body : B) : List S → B
  | [], ρ => .nx ρ
  | s :: r, ρ => if i < ρ.length then (match body (ρ.set i s) with
    | .nx ρ2 => forO i body r ρ2
    | .ct ρ2 => forO i body r ρ2
    | .bk ρ2 => .nx ρ2
    | z => z) else .stuck
def bForO (f : M S) (i : Nat) (body : B) : B := bdo f fun s ρ => match s with
  | .ls xs => forO i body xs ρ
  | .l xs => forO i body (xs.map .d) ρ
  | _ => .stuck
section
variable {G : Gx} {N : Pn} {X : Cx} {W : WX} {H H' : Hp} {σ : L2.St} {ρ ρ' : List S} {st : Stk} {En : Ends} {e : Expr} {pos : Pos} {f : M S} {g : B}
theorem RFl.split {F : Hp} : ∀ {A : List S} {s : S} {R : List S} {os : List (Option V)} {fp : List Addr}, RFl G F H (A ++ s :: R) os fp → ∃ o a b c, os[A.length]? = some o ∧ fp = a ++ (b ++ c) ∧ RF G F H s o b ∧ RFl G F H (A ++ .gone :: R) os (a ++ c)
  | [], s, R, _, _, ⟨o, os', a, b, e1, e2, q1, q2⟩ => by
    subst e1 e2
    exact ⟨o, [], a, b, rfl, rfl, q1, o, os', [], b, rfl, rfl, rfl, q2⟩
  | x :: A, s, R, _, _, ⟨o, os', a, b, e1, e2, q1, q2⟩ => by
    subst e1 e2
    obtain ⟨o2, a2, b2, c2, h1, h2, h3, h4⟩ := RFl.split q2
    subst h2
    exact ⟨o2, a ++ a2, b2, c2, by simpa using h1, by rw [List.append_assoc], h3, o, os', a, a2 ++ c2, rfl, by rw [List.append_assoc], q1, h4⟩
theorem Hs.take1 {o : Option V} {A : List S} {s : S} {R : List S} (h : Hs G N H σ ρ ((o, .ls (A ++ s :: R)) :: st)) : ∃ a vs, o = some (.ref a) ∧ H a = some (.lst vs) ∧ vs.length = A.length + 1 + R.length ∧ ∃ v, vs[A.length]? = some v ∧ Hs G N H σ ρ ((some v, s) :: (o, .ls (A ++ .gone :: R)) :: st) := by
  obtain ⟨F, fp, sb, ⟨x1, x2, ef, ⟨a, vs, r, eo, er, eH, eF, q⟩, q2⟩, n⟩ := h.ex
  subst er ef
  have l := RFl.len q
  rw [List.length_map] at l
  obtain ⟨o2, p1, p2, p3, h1, h2, h3, h4⟩ := RFl.split q
  rw [List.getElem?_map] at h1
  cases ev : vs[A.length]? with
  | none =>
    rw [ev] at h1
    cases h1
  | some v =>
    rw [ev] at h1
    cases h1
    subst h2
    refine ⟨a, vs, eo, eH, by rw [l]; simp; omega, v, ev, h.len, ⟨F, p2 ++ ((a :: (p1 ++ p3)) ++ x2), sb, ⟨p2, _, rfl, h3, a :: (p1 ++ p3), x2, rfl, ⟨a, vs, p1 ++ p3, eo, rfl, eH, eF, h4⟩, q2⟩, ?_⟩, h.tb, h.pin⟩
    have pp : (a :: (p1 ++ (p2 ++ p3)) ++ x2).Perm (p2 ++ ((a :: (p1 ++ p3)) ++ x2)) := by
      have e5 : p2 ++ ((a :: (p1 ++ p3)) ++ x2) = (p2 ++ a :: (p1 ++ p3)) ++ x2 := (List.append_assoc ..).symm
      rw [e5]
      refine List.Perm.append_right x2 ?_
      refine List.Perm.trans ?_ List.perm_middle.symm
      refine List.Perm.cons _ ?_
      rw [← List.append_assoc, ← List.append_assoc]
      exact List.perm_append_comm.append_right p3
    exact (pp.nodup_iff).mp n
theorem Hs.toLs {o : Option V} {xs : List D} (h : Hs G N H σ ρ ((o, .l xs) :: st)) : Hs G N H σ ρ ((o, .ls (xs.map .d)) :: st) := by
  obtain ⟨F, fp, sb, ⟨a, b, ef, ⟨p, vs, ev, er, e3, e4, q⟩, r⟩, n⟩ := h.ex
  have key : ∀ (xs : List D) (vs : List V), RDs G F xs vs → RFl G F H (xs.map .d) (vs.map some) [] := by
    intro xs
    induction xs with
    | nil =>
      intro vs q
      have : vs = [] := q
      subst this
      exact ⟨rfl, rfl⟩
    | cons x xs ih =>
      rintro vs ⟨v, r, ev, q1, q2⟩
      subst ev
      exact ⟨some v, r.map some, [], [], rfl, rfl, ⟨rfl, v, rfl, q1⟩, ih r q2⟩
  subst er
  exact ⟨h.len, ⟨F, fp, sb, ⟨_, b, ef, ⟨p, vs, [], ev, rfl, e3, e4, key xs vs q⟩, r⟩, n⟩, h.tb, h.pin⟩
theorem Hs.lsAt {o : Option V} {xs : List S} (h : Hs G N H σ ρ ((o, .ls xs) :: st)) : ∃ a vs, o = some (.ref a) ∧ H a = some (.lst vs) ∧ vs.length = xs.length := by
  obtain ⟨F, fp, sb, ⟨x1, x2, ef, ⟨a, vs, r, eo, er, eH, eF, q⟩, q2⟩, n⟩ := h.ex
  have l := RFl.len q
  rw [List.length_map] at l
  exact ⟨a, vs, eo, eH, l⟩
theorem forO_core {tg : Expr} {ss : List Stmt} {i : Nat} {a : Addr} {xs : List S} (hg : GX G N X tg (.n i)) (hb : BX G N X W ss g) (h : Hs G N H σ ρ ((some (.ref a), .ls xs) :: st)) (p : fps G N W st En (forO i g xs ρ)) :
    ∃ Wt : Nat → Nat → L2.St → Hp → Prop, (∃ m, Wt 0 m σ H) ∧ ∀ k m σ H, Wt k m σ H →
      ((Itl G.K a).stop k H ∧ En.nx σ H) ∨ ((Itl G.K a).go k H ∧ ∃ Nt : L2.St → Hp → Prop, (∀ σ' H', Nt σ' H' → ∃ m', m' < m ∧ Wt (k + 1) m' σ' H') ∧ ∀ x H', (Itl G.K a).yld k H x H' → sG X tg x σ H' fun σ2 H2 => sB X ss { En with nx := Nt, ct := Nt, bk := En.nx } σ2 H2) := by
  refine ⟨fun k m σ H => m = xs.length - k ∧ k ≤ xs.length ∧ ∃ ρ, Hs G N H σ ρ ((some (.ref a), .ls (List.replicate k .gone ++ xs.drop k)) :: st) ∧ fps G N W st En (forO i g (xs.drop k) ρ), ⟨xs.length, by simp, Nat.zero_le _, ρ, h, p⟩, ?_⟩
  rintro k m σ1 H1 ⟨rfl, hk, ρ1, h1, p1⟩
  by_cases hlt : k < xs.length
  · have ed : xs.drop k = xs[k] :: xs.drop (k + 1) := List.drop_eq_getElem_cons hlt
    rw [ed] at h1 p1
    obtain ⟨a', vs, ea, eH, lv, v, ev, h2⟩ := h1.take1
    cases ea
    rw [List.length_replicate] at ev
    refine .inr ⟨⟨vs, v, .of eH, ev⟩, fun σ' H' => ∃ ρ', Hs G N H' σ' ρ' ((some (.ref a), .ls (List.replicate (k + 1) .gone ++ xs.drop (k + 1))) :: st) ∧ fps G N W st En (forO i g (xs.drop (k + 1)) ρ'), fun σ' H' q => ⟨xs.length - (k + 1), by omega, rfl, hlt, q⟩, fun x H' y => ?_⟩
    obtain ⟨eHH, yy⟩ := y
    subst eHH
    have e3 := yy vs (.of eH)
    rw [ev] at e3
    cases e3
    have h3 : Hs G N H' σ1 ρ1 ((some v, xs[k]) :: (some (.ref a), .ls (List.replicate (k + 1) .gone ++ xs.drop (k + 1))) :: st) := by
      have e4 : List.replicate k S.gone ++ S.gone :: xs.drop (k + 1) = List.replicate (k + 1) S.gone ++ xs.drop (k + 1) := by
        rw [List.replicate_succ', List.append_assoc]
        rfl
      rw [e4] at h2
      exact h2
    unfold forO at p1
    by_cases hi : i < ρ1.length
    · rw [if_pos hi] at p1
      refine hg σ1 ρ1 (ρ1.set i xs[k]) _ H' v xs[k] _ h3 (by unfold asgT; rw [if_pos hi]) fun σ2 H2 h4 => ?_
      refine hb σ2 _ _ H2 _ h4 ?_
      cases hbd : g (ρ1.set i xs[k]) with
      | nx ρ3 =>
        rw [hbd] at p1
        exact fun σ' H' h' => ⟨ρ3, h', p1⟩
      | ct ρ3 =>
        rw [hbd] at p1
        exact fun σ' H' h' => ⟨ρ3, h', p1⟩
      | bk ρ3 =>
        rw [hbd] at p1
        exact fun σ' H' h' => p1 σ' H' h'.drop
      | rt s ρ3 =>
        rw [hbd] at p1
        exact (fps.drops (A := [(some (.ref a), .ls (List.replicate (k + 1) .gone ++ xs.drop (k + 1)))]) p1 : fps G N W _ En (.rt s ρ3))
      | exc c q ρ3 =>
        rw [hbd] at p1
        exact (fps.drops (A := [(some (.ref a), .ls (List.replicate (k + 1) .gone ++ xs.drop (k + 1)))]) p1 : fps G N W _ En (.exc c q ρ3))
      | stuck =>
        rw [hbd] at p1
        exact p1.elim
    · rw [if_neg hi] at p1
      exact p1.elim
  · have ek : k = xs.length := by omega
    subst ek
    rw [List.drop_length] at h1 p1
    obtain ⟨a', vs, ea, eH, lv⟩ := h1.lsAt
    cases ea
    refine .inl ⟨⟨vs, .of eH, ?_⟩, p1 σ1 H1 h1.drop⟩
    rw [lv]
    simp
theorem sx_forO {tg iter : Expr} {ss : List Stmt} {i : Nat} (hK : X.K = G.K) (hp : PassesOwn (model X.prog X.w) X.A X.env X.xe) (hc : X.calm = true) (he : EX G N X W iter f) (hg : GX G N X tg (.n i)) (hb : BX G N X W ss g) (hs : ∀ x, foldedSetIterable iter X.env x = pure x := by intro _; rfl) :
    SX G N X W (.For tg iter ss [] pos) (bForO f i g) := fun σ ρ st H D h p => by
  refine sS_of (ps_for hp hc (pi_list pe_sem) pg_sem pss_sem hs) ?_
  refine he.bdo h p fun s ρ1 v H1 h1 p1 => ?_
  have go : ∀ xs, Hs G N H1 σ ρ1 ((some v, .ls xs) :: st) → fps G N W st D (forO i g xs ρ1) → ∃ a, v = .ref a ∧ (∃ xs, SqL X.K H1 a xs) ∧ ∃ Wt : Nat → Nat → L2.St → Hp → Prop, (∃ m, Wt 0 m σ H1) ∧ ∀ k m σ H, Wt k m σ H →
      ((Itl X.K a).stop k H ∧ D.nx σ H) ∨ ((Itl X.K a).go k H ∧ ∃ Nt : L2.St → Hp → Prop, (∀ σ' H', Nt σ' H' → ∃ m', m' < m ∧ Wt (k + 1) m' σ' H') ∧ ∀ x H', (Itl X.K a).yld k H x H' → sG X tg x σ H' fun σ2 H2 => sB X ss { D with nx := Nt, ct := Nt, bk := D.nx } σ2 H2) := fun xs h2 p2 => by
    obtain ⟨a, vs, ea, eH, lv⟩ := h2.lsAt
    cases ea
    rw [hK]
    exact ⟨a, rfl, ⟨vs, .of eH⟩, forO_core hg hb h2 p2⟩
  cases s with
  | ls xs => exact go xs h1 p1
  | l xs => exact go _ h1.toLs p1
  | _ => exact p1.elim
end
end DL
/-! the data layer: what the head tells, packed -/
namespace DL
open PySem PySem.Spec PyProof.Rows L2
/-- the defs whose code tables may grow, with the names of what stands in them -/
abbrev TQ := List (He.Defn × Str)
def tabL (K : PySem.W.Frag) (tq : TQ) : List (Addr × Str) := tq.map fun p => ((He.cT K p.1).2, p.2)
def tabX (tq : TQ) (K : PySem.W.Frag) : Bool := decide ((tq.map fun p => (He.cT K p.1).2).Nodup)
theorem tab_u {K : PySem.W.Frag} : ∀ {l : TQ}, (l.map fun p => (He.cT K p.1).2).Nodup → ∀ {p : He.Defn × Str}, p ∈ l → ∀ q ∈ tabL K l, q.1 = (He.cT K p.1).2 → q.2 = p.2
  | [], _, p, hp, _, _, _ => by simp at hp
  | x :: l, n, p, hp, q, hq, e => by
    have n' := List.nodup_cons.mp (show ((He.cT K x.1).2 :: l.map fun p => (He.cT K p.1).2).Nodup from n)
    have hq' : q = ((He.cT K x.1).2, x.2) ∨ q ∈ tabL K l := List.mem_cons.mp hq
    rcases hq' with h1 | h1
    · subst h1
      rcases List.mem_cons.mp hp with h2 | h2
      · rw [h2]
      · exact absurd (List.mem_map.mpr ⟨p, h2, e.symm⟩) n'.1
    · rcases List.mem_cons.mp hp with h2 | h2
      · obtain ⟨y, hy, ey⟩ := List.mem_map.mp h1
        subst ey
        rw [h2] at e
        exact absurd (List.mem_map.mpr ⟨y, hy, e⟩) n'.1
      · exact tab_u n'.2 h2 q h1 e
/-- the facts of a law's program -/
structure En (fa : List He.Fa) (fn : List He.DefD) (tq : TQ) (w : World) (K : PySem.W.Frag) (mg : Str → Option Value) (base : Heap) : Prop where
  c : ∃ h, He.SaysX fa fn [] (tq.map (·.1)) (tabX tq) w h K ∧ K.In h ∧ h.Ns mainGlobals mg
  t : ∀ p ∈ tq, LamX.TabB base mg (He.cT K p.1).1 (He.cT K p.1).2
section
variable {fa : List He.Fa} {fn : List He.DefD} {tq : TQ} {w : World} {K : PySem.W.Frag} {mg : Str → Option Value} {base : Heap}
theorem En.fact (E : En fa fn tq w K mg base) {f : He.Fa} (h : f ∈ fa) : f.ok K = true := let ⟨_, c, _, _⟩ := E.c; c.t.d.facts h
theorem En.glo (E : En fa fn tq w K mg base) (x : Str) (h : He.Fa.glo x ∈ fa) : mg x = some (.ref (He.ga K x)) := let ⟨_, _, X, G⟩ := E.c; He.glo_ok X G (E.fact h)
theorem En.free (E : En fa fn tq w K mg base) (x : Str) (h : He.Fa.free x ∈ fa) : mg x = none := let ⟨_, _, X, G⟩ := E.c; He.free_ok X G (E.fact h)
theorem En.def_ (E : En fa fn tq w K mg base) {d : He.DefD} (hd : d ∈ fn) (stm : Stmt) (e1 : d.params = defArgs stm := by rfl) (e2 : d.body = defBody stm := by rfl) (e3 : d.scope = defScope stm := by rfl) (e4 : d.dfl = [] := by rfl) (e5 : d.kwd = [] := by rfl) :
    ∃ fd, FunC K d.name d.qual stm (He.fAd K d.at_) (He.codeOf K d.at_) fd := let ⟨_, c, _, _⟩ := E.c; funC_of c hd stm e1 e2 e3 e4 e5 c.t.d
theorem En.tabU (E : En fa fn tq w K mg base) {p : He.Defn × Str} (hp : p ∈ tq) : ∀ q ∈ tabL K tq, q.1 = (He.cT K p.1).2 → q.2 = p.2 := let ⟨_, c, _, _⟩ := E.c; tab_u (of_decide_eq_true c.more) hp
theorem En.tabM {p : He.Defn × Str} (hp : p ∈ tq) : ((He.cT K p.1).2, p.2) ∈ tabL K tq := List.mem_map.mpr ⟨p, hp, rfl⟩
theorem En.calX (E : En fa fn tq w K mg base) {G : Gx} {c : Nat} (x : Str) (hc : G.cl c = He.ga K x) (h1 : He.Fa.glo x ∈ fa) (h2 : He.Fa.exc x ∈ fa) : CalX K mg G x c := by
  obtain ⟨a, b, d, e⟩ := He.exc_ok (E.fact h2)
  exact ⟨by rw [hc]; exact a, by rw [hc]; exact E.glo x h1, by rw [hc]; exact b, by rw [hc]; exact d, by rw [hc]; exact e⟩
/-- a def, its promise put together -/
theorem En.calF {P : Program} (E : En fa fn tq w K mg base) {G : Gx} {k : Nat} {x : Str} {d : He.DefD} {fd : FuncData} {ps : List Str} {op : List S → ORes} {stm : Stmt} (F : FunC K x x stm (He.fAd K (x, none)) (He.codeOf K (x, none)) fd) (h : FnOk P w K mg base (L2.CX P w) k (He.fAd K (x, none)) fd ps (spD G op)) (hg : He.Fa.glo x ∈ fa) (hb : Binds K fd ps []) : CalF P w K mg base G k x op :=
  ⟨⟨_, fd, ps, h, E.glo x hg, F.kp, hb⟩⟩
theorem En.calM {P : Program} (E : En fa fn tq w K mg base) {G : Gx} {k c : Nat} {C m qual : Str} {fd : FuncData} {ps : List Str} {op : List S → ORes} {stm : Stmt} (F : FunC K m qual stm (He.fAd K (C, some m)) (He.codeOf K (C, some m)) fd) (h : FnOk P w K mg base (L2.CX P w) k (He.fAd K (C, some m)) fd ps (spD G op)) (hc : G.cl c = He.ga K C) (h1 : He.Fa.meth C m ∈ fa) (h2 : He.Fa.cls C ∈ fa) (hb : Binds K fd ps [])
    (no : ∀ f ∈ G.fn c, f ≠ m) : CalM P w K mg base G k m c op := by
  refine ⟨⟨_, fd, ps, h, ?_, ?_, hb⟩, fun vs => ?_⟩
  · rw [hc]
    exact He.meth_ok (E.fact h1)
  · rw [hc]
    exact He.cls_ok (E.fact h2)
  · have : ∀ (ns : List Str) (vs : List V), (∀ f ∈ ns, f ≠ m) → (ns.zip vs).lookup m = none := by
      intro ns
      induction ns with
      | nil => intro vs _; rfl
      | cons n ns ih =>
        intro vs hn
        cases vs with
        | nil => rfl
        | cons v vs =>
          show ((n, v) :: ns.zip vs).lookup m = none
          rw [List.lookup_cons]
          have : (m == n) = false := by
            cases e : m == n with
            | false => rfl
            | true => exact absurd (beq_iff_eq.mp e).symm (hn n List.mem_cons_self)
          rw [this]
          exact ih vs fun f hf => hn f (List.mem_cons_of_mem _ hf)
    exact this _ vs no
theorem En.calC {P : Program} (E : En fa fn tq w K mg base) {G : Gx} {k c : Nat} {C qual : Str} {fd : FuncData} {ps : List Str} {op : List S → ORes} {stm : Stmt} (F : FunC K "__init__" qual stm (He.fAd K (C, some "__init__")) (He.codeOf K (C, some "__init__")) fd) (h : FnOk P w K mg base (L2.CX P w) k (He.fAd K (C, some "__init__")) fd ps (spD G op)) (hc : G.cl c = He.ga K C) (h1 : He.Fa.glo C ∈ fa) (h2 : He.Fa.mkr C ∈ fa) (hb : Binds K fd ps []) : CalC P w K mg base G k C c op := by
  refine ⟨⟨_, fd, ps, h, by rw [hc]; exact E.glo C h1, ?_, hb⟩⟩
  rw [hc]
  exact He.mkr_ok (E.fact h2)
theorem En.cOk (E : En fa fn tq w K mg base) {G : Gx} {c : Nat} {C : Str} (hc : G.cl c = He.ga K C) (h2 : He.Fa.cls C ∈ fa) (hn : ∀ f ∈ G.fn c, He.Fa.noat C f ∈ fa) (nd : (G.fn c).Nodup) (few : (G.fn c).length < 1000) : COk K G c :=
  ⟨by rw [hc]; exact He.cls_ok (E.fact h2), fun f hf => by rw [hc]; exact He.noat_ok (E.fact (hn f hf)), nd, few⟩
end
end DL
/-! the data layer: small helps for printed derivations -/
namespace DL
open PySem PySem.Spec PyProof.Rows L2
theorem Room.u64 {k : Nat} {A : Around} (r : Room k A) : A.units + 64 < cLine := by have := r.un; omega
theorem Room.u65 {k : Nat} {A : Around} (r : Room k A) : A.units + 65 < cLine := by have := r.un; omega
theorem Room.u66 {k : Nat} {A : Around} (r : Room k A) : A.units + 66 < cLine := by have := r.un; omega
section
variable {G : Gx} {N : Pn} {X : Cx} {W : WX} {H H' : Hp} {σ : L2.St} {ρ : List S} {st : Stk} {es : List Expr} {as : List Arg}
theorem ax_s (i : Nat) {x : Str} {pos : Pos} (hr : AX G N X W es as) (hN : X.N[i]? = some x := by rfl) (hv : Vis X.env.scope x := by first | exact Or.inl rfl | exact Or.inr (Or.inl rfl) | exact Or.inr (Or.inr rfl)) (hd : (x == ("__debug__" : Str)) = false := by decide) (hcd : (x == ("__classdict__" : Str)) = false := by decide) :
    AX G N X W (.Name x pos :: es) (.b i :: as) := ax_b hr hN hv hd hcd
/-! ### a field -/
/-- the k-th field of the c-th class; an owned object's field is settled in place -/
def opFld (c k : Nat) : List S → ORes
  | [.o c' fs] => if c' = c then (match fs[k]? with
    | some s => match s.frz with
      | some x => .ok (.d x) [.o c (fs.set k (.d x))]
      | none => .stuck
    | none => .stuck) else .stuck
  | [.d (.obj c' xs)] => if c' = c then (match xs[k]? with
    | some x => .ok (.d x) [.d (.obj c' xs)]
    | none => .stuck) else .stuck
  | _ => .stuck
theorem zip_look : ∀ {ns : List Str} {vs : List V} {k : Nat} {f : Str} {v : V}, ns.Nodup → ns[k]? = some f → vs[k]? = some v → (ns.zip vs).lookup f = some v
  | [], _, _, _, _, _, h, _ => by simp at h
  | n :: ns, [], _, _, _, _, _, h => by simp at h
  | n :: ns, w :: vs, 0, f, v, _, h, h2 => by
    cases h
    cases h2
    show ((n, w) :: ns.zip vs).lookup n = some w
    rw [List.lookup_cons, beq_self_eq_true]
  | n :: ns, w :: vs, k + 1, f, v, nd, h, h2 => by
    have h' : ns[k]? = some f := by simpa using h
    show ((n, w) :: ns.zip vs).lookup f = some v
    rw [List.lookup_cons]
    have : (f == n) = false := by
      cases e : f == n with
      | false => rfl
      | true =>
        have := beq_iff_eq.mp e
        subst this
        exact absurd (List.mem_of_getElem? h') (List.nodup_cons.mp nd).1
    rw [this]
    exact zip_look (List.nodup_cons.mp nd).2 h' (by simpa using h2)
theorem Hs.freezeFld {o : Option V} {c k : Nat} {fs : List S} {s : S} {x : D} (h : Hs G N H σ ρ ((o, .o c fs) :: st)) (e : fs[k]? = some s) (ex : s.frz = some x) :
    ∃ a dx vs v, o = some (.ref a) ∧ H a = some (.ins (G.cl c) dx ((G.fn c).zip vs)) ∧ vs[k]? = some v ∧ Hs G N H σ ρ ((some v, .d x) :: (o, .o c (fs.set k (.d x))) :: st) := by
  obtain ⟨F, fp, sb, ⟨x1, x2, ef, ⟨a, dx, vs, r, eo, er, eH, eF, lf, q⟩, q2⟩, n⟩ := h.ex
  subst er ef
  have hk := (List.getElem?_eq_some_iff.mp e).1
  have es : fs = fs.take k ++ s :: fs.drop (k + 1) := by
    have h1 : fs.drop k = s :: fs.drop (k + 1) := by
      rw [List.drop_eq_getElem_cons hk]
      congr 1
      exact (List.getElem?_eq_some_iff.mp e).2
    rw [← h1, List.take_append_drop]
  rw [es] at q
  obtain ⟨o2, p1, p2, p3, h1, h2, h3, h4⟩ := RFl.split q
  have lk : (fs.take k).length = k := by rw [List.length_take]; omega
  rw [lk, List.getElem?_map] at h1
  cases ev : vs[k]? with
  | none =>
    rw [ev] at h1
    cases h1
  | some v =>
    rw [ev] at h1
    cases h1
    subst h2
    have hn2 : (p2 ++ ((a :: (p1 ++ p3)) ++ x2)).Nodup := by
      have pp : (a :: (p1 ++ (p2 ++ p3)) ++ x2).Perm (p2 ++ ((a :: (p1 ++ p3)) ++ x2)) := by
        have e5 : p2 ++ ((a :: (p1 ++ p3)) ++ x2) = (p2 ++ a :: (p1 ++ p3)) ++ x2 := (List.append_assoc ..).symm
        rw [e5]
        refine List.Perm.append_right x2 ?_
        refine List.Perm.trans ?_ List.perm_middle.symm
        refine List.Perm.cons _ ?_
        rw [← List.append_assoc, ← List.append_assoc]
        exact List.perm_append_comm.append_right p3
      exact (pp.nodup_iff).mp n
    have hA : Hs G N H σ ρ ((some v, s) :: (o, .o c (fs.take k ++ .gone :: fs.drop (k + 1))) :: st) := ⟨h.len, ⟨F, p2 ++ ((a :: (p1 ++ p3)) ++ x2), sb, ⟨p2, _, rfl, h3, a :: (p1 ++ p3), x2, rfl, ⟨a, dx, vs, p1 ++ p3, eo, rfl, eH, eF, lf, h4⟩, q2⟩, hn2⟩, h.tb, h.pin⟩
    have hB := hA.freeze ex
    refine ⟨a, dx, vs, v, eo, eH, ev, ?_⟩
    obtain ⟨F2, fq, sb2, ⟨y1, y2, ef2, ⟨ey, w, ew, qx⟩, y3, y4, ef3, ⟨a2, dx2, vs2, r2, eo2, er2, eH2, eF2, lf2, q3⟩, q4⟩, n2⟩ := hB.ex
    cases ew
    subst ey
    rw [eo] at eo2
    cases eo2
    rw [eH] at eH2
    have key : ∀ (A R : List S) (os : List (Option V)) (fp : List Addr), RFl G F2 H (A ++ .gone :: R) os fp → os[A.length]? = some (some v) → RFl G F2 H (A ++ .d x :: R) os fp := by
      intro A
      induction A with
      | nil =>
        rintro R os fp ⟨o', os', b1, b2, e1, e2, e3, e4⟩ e5
        subst e1
        cases e5
        exact ⟨some v, os', b1, b2, rfl, e2, ⟨e3, v, rfl, qx⟩, e4⟩
      | cons z A ih =>
        rintro R os fp ⟨o', os', b1, b2, e1, e2, e3, e4⟩ e5
        subst e1
        exact ⟨o', os', b1, b2, rfl, e2, e3, ih R os' b2 e4 (by simpa using e5)⟩
    have l2 := RFl.len q3
    have l1 := RFl.len q
    have e6 : vs2 = vs := by
      have z := HO.ins.inj (Option.some.inj eH2)
      have z3 := z.2.2
      have la : vs.length = fs.length := by
        rw [List.length_map] at l1
        rw [l1, ← es]
      have lb : vs2.length = fs.length := by
        rw [List.length_map] at l2
        rw [l2]
        simp
        omega
      have fin : ∀ (ns : List Str) (xs ys : List V), xs.length ≤ ns.length → ys.length ≤ ns.length → xs.length = ys.length → ns.zip xs = ns.zip ys → xs = ys := by
        intro ns
        induction ns with
        | nil =>
          intro xs ys h1 h2 _ _
          have a1 : xs = [] := List.length_eq_zero_iff.mp (by simpa using h1)
          have a2 : ys = [] := List.length_eq_zero_iff.mp (by simpa using h2)
          rw [a1, a2]
        | cons n ns ih =>
          intro xs ys h1 h2 h3 h4
          cases xs with
          | nil =>
            cases ys with
            | nil => rfl
            | cons y ys => simp at h3
          | cons x xs =>
            cases ys with
            | nil => simp at h3
            | cons y ys =>
              simp only [List.zip_cons_cons, List.cons.injEq, Prod.mk.injEq, true_and] at h4
              rw [h4.1, ih xs ys (by simpa using h1) (by simpa using h2) (by simpa using h3) h4.2]
      exact (fin _ _ _ lf lf2 (by omega) z3).symm
    subst e6
    have q5 := key (fs.take k) (fs.drop (k + 1)) (vs2.map some) r2 q3 (by rw [lk, List.getElem?_map, ev]; rfl)
    have e7 : fs.take k ++ .d x :: fs.drop (k + 1) = fs.set k (.d x) := (List.set_eq_take_append_cons_drop ..).trans (if_pos hk) |>.symm
    rw [e7] at q5
    exact ⟨hB.len, ⟨F2, fq, sb2, ⟨[], y2, ef2, ⟨rfl, v, rfl, qx⟩, y3, y4, ef3, ⟨a, dx2, vs2, r2, eo, er2, by rw [eH]; exact eH2, eF2, lf2, q5⟩, q4⟩, n2⟩, hB.tb, hB.pin⟩
theorem RDs.at_ {F : Hp} : ∀ {xs : List D} {vs : List V} {i : Nat} {x : D}, RDs G F xs vs → xs[i]? = some x → ∃ v, vs[i]? = some v ∧ RD G F x v
  | [], _, _, _, _, h => by simp at h
  | y :: xs, _, 0, x, ⟨v, r, ev, q, _⟩, h => by
    cases h
    subst ev
    exact ⟨v, rfl, q⟩
  | y :: xs, _, i + 1, x, ⟨v, r, ev, _, q⟩, h => by
    subst ev
    exact RDs.at_ (i := i) q (by simpa using h)
def rFld (K : PySem.W.Frag) (x : Str) : V → Hp → VK → Prop := fun v H Q => ∃ a C dx fs w, v = .ref a ∧ H a = some (.ins C dx fs) ∧ Cls K C ∧ NoAttr K C x ∧ fs.lookup x = some w ∧ Q w H
theorem os_fld {c k : Nat} {x : Str} (C : COk G.K G c) (ex : (G.fn c)[k]? = some x) : OpS G N W (r1L (rFld G.K x)) (opFld c k) := fun σ ρ st H vs xs Q l h p => by
  have hx : x ∈ G.fn c := List.mem_of_getElem? ex
  match xs, p, h, l with
  | [.o c' fs], p, h, l =>
    unfold opFld at p
    simp only at p
    by_cases hc : c' = c
    · rw [if_pos hc] at p
      subst hc
      cases e : fs[k]? with
      | none =>
        rw [e] at p
        exact p.elim
      | some s =>
        rw [e] at p
        simp only at p
        cases e2 : s.frz with
        | none =>
          rw [e2] at p
          exact p.elim
        | some y =>
          rw [e2] at p
          obtain ⟨v, ev, h1⟩ := one l h
          subst ev
          obtain ⟨a, dx, vs, w, eo, eH, ew, h2⟩ := h1.freezeFld e e2
          cases eo
          exact ⟨a, _, dx, _, w, rfl, eH, C.cls, C.no x hx, zip_look C.nd ex ew, p.2 w H h2⟩
    · rw [if_neg hc] at p
      exact p.elim
  | [.d (.obj c' ys)], pp, hh, ll =>
    unfold opFld at pp
    simp only at pp
    by_cases hc : c' = c
    · rw [if_pos hc] at pp
      subst hc
      cases e : ys[k]? with
      | none =>
        rw [e] at pp
        exact pp.elim
      | some y =>
        rw [e] at pp
        obtain ⟨v, ev, h1⟩ := one ll hh
        subst ev
        obtain ⟨F, fp, sb, ⟨x1, x2, ef, ⟨ex1, v', ev', a, dx, vs, e1, e3, e4, q⟩, q2⟩, n⟩ := h1.ex
        cases ev'
        subst e1 ex1
        obtain ⟨w, ew, qw⟩ := RDs.at_ q e
        have eH : H a = some (.ins (G.cl c') dx ((G.fn c').zip vs)) := by
          rcases (sb _ _ e3).2 with z | ⟨z | z, _⟩
          · exact z
          · obtain ⟨_, z⟩ := z
            cases z
          · obtain ⟨_, z⟩ := z
            cases z
        refine ⟨a, _, dx, _, w, rfl, eH, C.cls, C.no x hx, zip_look C.nd ex ew, pp.2 w H ⟨h1.len, ⟨F, fp, sb, ?_, n⟩, h1.tb, h1.pin⟩⟩
        exact ⟨[], fp, rfl, ⟨rfl, w, rfl, qw⟩, [], x2, ef, ⟨rfl, _, rfl, a, dx, vs, rfl, e3, e4, q⟩, q2⟩
    · rw [if_neg hc] at pp
      exact pp.elim
end
end DL
/-! the data layer: minus, index, reversed -/
namespace DL
open PySem PySem.Spec PyProof.Rows L2
section
variable {G : Gx} {N : Pn} {X : Cx} {W : WX} {H H' : Hp} {σ : L2.St} {ρ : List S} {st : Stk} {es : List Expr} {as : List Arg}
def faEq : He.Fa → He.Fa → Bool
  | .glo x, .glo y => x == y
  | .free x, .free y => x == y
  | .cls x, .cls y => x == y
  | .noat x f, .noat y g => x == y && f == g
  | .meth x f, .meth y g => x == y && f == g
  | .mkr x, .mkr y => x == y
  | .exc x, .exc y => x == y
  | .exm x f a, .exm y g b => x == y && (f == g && a == b)
  | _, _ => false
theorem faEq_ok {a b : He.Fa} (h : faEq a b = true) : a = b := by
  unfold faEq at h
  split at h <;> simp only [Bool.and_eq_true, beq_iff_eq, Bool.false_eq_true] at h
  all_goals first
    | (subst h; rfl)
    | (obtain ⟨h1, h2⟩ := h; subst h1 h2; rfl)
    | (obtain ⟨h1, h2, h3⟩ := h; subst h1 h2 h3; rfl)
theorem fa_in {l : List He.Fa} {f : He.Fa} (h : l.any (faEq f) = true) : f ∈ l := by
  obtain ⟨g, hg, e⟩ := List.any_eq_true.mp h
  rw [faEq_ok e]
  exact hg
/-- a product where one factor is short -/
def fMulS (i j : Int) : Option D := if (-(2 ^ 64) < i ∧ i < 2 ^ 64) ∨ (-(2 ^ 64) < j ∧ j < 2 ^ 64) then some (.int (i * j)) else none
theorem os_mulS : OpS G N W (r2L (rI CMul fun i j => .int (i * j))) (opI fMulS) := os_I fun i j z e => by
  unfold fMulS at e
  split at e
  · rename_i h
    cases e
    exact ⟨h, fun _ => rfl⟩
  · cases e
def opNeg : List S → ORes
  | [.d (.int i)] => .ok (.d (.int (-i))) [.d (.int i)]
  | _ => .stuck
theorem os_neg : OpS G N W (r1L (rU fun i => .int (-i))) opNeg := fun σ ρ st H vs xs Q l h p => by
  match xs, p, h, l with
  | [.d (.int i)], p, h, l =>
    obtain ⟨v, ev, h1⟩ := one l h
    subst ev
    have e1 := h1.int
    subst e1
    exact ⟨i, rfl, p.2 _ H (h.new fun _ => rfl)⟩
theorem pi_rv {tg e : Expr} {p pos : Pos} (hg : Gl X "reversed") (hm : X.mg "reversed" = none) (hs : starEach [e] X.env = (false, eval e X.env) :: starEach [] X.env := by rfl) :
    PI X tg (.Call (.Name "reversed" p) [e] [] pos) (fun σ H R => sAs X [e] σ H fun vs H1 => rRv X.K vs H1 R) := by
  have b := RT.pi_revA (tg := tg) (p := p) (pos := pos) hg hm (pe_sem (X := X) (e := e)) hs
  refine ⟨fun pins s σ H R I h => b.run pins s σ H R I ?_⟩
  intro pins' s' I'
  refine thn (h pins' s' I') ?_
  rintro u s1 ⟨v, H1, I1, r1, a, xs, ev, q⟩
  cases ev
  exact ⟨_, H1, I1, r1, a, xs, rfl, q⟩
def isL : S → Bool
  | .l _ => true
  | .d (.lst _) => true
  | _ => false
def opIdx : List S → ORes
  | [s, u] => match sPy s, sPy u with
    | some (.list ds), some d => if SeqAt.shaped (.list ds) = true ∧ SeqAt.shaped d = true then (match ds.findIdx? (fun z => PyData.eqv z d) with
      | some j => .ok (.d (.int (j : Nat))) [s, u]
      | none => .stuck) else .stuck
    | _, _ => .stuck
  | _ => .stuck
theorem os_idx : OpS G N W (rBm (rIndexD G.K)) opIdx := fun σ ρ st H vs xs Q l h p => by
  match xs, p, h, l with
  | [s, u], p, h, l =>
    unfold opIdx at p
    simp only at p
    cases e1 : sPy s with
    | none =>
      rw [e1] at p
      exact p.elim
    | some d1 =>
    cases e2 : sPy u with
    | none =>
      rw [e1, e2] at p
      cases d1 <;> exact p.elim
    | some d =>
      rw [e1, e2] at p
      match d1, e1, p with
      | .list ds, e1, p =>
        simp only at p
        by_cases hs : SeqAt.shaped (.list ds) = true ∧ SeqAt.shaped d = true
        · rw [if_pos hs] at p
          cases e3 : ds.findIdx? (fun z => PyData.eqv z d) with
          | none =>
            rw [e3] at p
            exact p.elim
          | some j =>
            rw [e3] at p
            obtain ⟨v, w, ev, h1, h2⟩ := two l h
            subst ev
            have q1 := h1.dp e1
            obtain ⟨hj, e4, e5⟩ := List.findIdx?_eq_some_iff_getElem.mp e3
            have ev : ∃ a, v = .ref a := by
              cases q1
              exact ⟨_, rfl⟩
            obtain ⟨a, ea⟩ := ev
            subst ea
            refine ⟨a, w, d, ds, j, ds[j], rfl, rfl, q1, h2.dp e2, hs.1, hs.2, List.getElem?_eq_getElem hj, e4, fun m z' hm hz => ?_, p.2 _ H (h.new fun _ => rfl)⟩
            have hml : m < ds.length := by omega
            rw [List.getElem?_eq_getElem hml] at hz
            cases hz
            exact Bool.not_eq_true _ ▸ e5 m hm
        · rw [if_neg hs] at p
          exact p.elim
theorem three {vs : List V} {x y z : S} (l : vs.length = [x, y, z].length) (h : Hs G N H σ ρ (zs vs [x, y, z] ++ st)) : ∃ u v w, vs = [u, v, w] ∧ Hs G N H σ ρ ((some u, x) :: (some v, y) :: (some w, z) :: st) ∧ Hs G N H σ ρ ((some v, y) :: (some u, x) :: (some w, z) :: st) ∧ Hs G N H σ ρ ((some w, z) :: (some u, x) :: (some v, y) :: st) := by
  match vs, l, h with
  | [u, v, w], _, h =>
    have h0 : Hs G N H σ ρ ((some u, x) :: (some v, y) :: (some w, z) :: st) := h
    exact ⟨u, v, w, rfl, h0, h0.perm (.swap _ _ _), h0.perm ((List.Perm.cons _ (.swap _ _ _)).trans (.swap _ _ _))⟩
def opI3 (f : Int → Int → Int → Int) : List S → ORes
  | [.d (.int i), .d (.int j), .d (.int k)] => .ok (.d (.int (f i j k))) [.d (.int i), .d (.int j), .d (.int k)]
  | _ => .stuck
def min3 (i j k : Int) : Int := min (min i j) k
def max3 (i j k : Int) : Int := max (max i j) k
theorem os_I3 {g : V → V → V → Option V} {f : Int → Int → Int → Int} (hg : ∀ i j k, g (.int i) (.int j) (.int k) = some (.int (f i j k))) : OpS G N W (rL (rNuC3 g)) (opI3 f) := fun σ ρ st H vs xs Q l h p => by
  match xs, p, h, l with
  | [.d (.int i), .d (.int j), .d (.int k)], p, h, l =>
    obtain ⟨u, v, w, ev, h1, h2, h3⟩ := three l h
    subst ev
    have e1 := h1.int
    have e2 := h2.int
    have e3 := h3.int
    subst e1 e2 e3
    exact ⟨_, _, _, _, rfl, hg i j k, p.2 _ H (h.new fun _ => rfl)⟩
theorem min2_eq (i j : Int) : nuMin2 (.int i) (.int j) = some (.int (min i j)) := by
  show some (if decide (j < i) = true then V.int j else V.int i) = _
  simp only [decide_eq_true_eq]
  split
  · rw [Int.min_eq_right (by omega)]
  · rw [Int.min_eq_left (by omega)]
theorem max2_eq (i j : Int) : nuMax2 (.int i) (.int j) = some (.int (max i j)) := by
  show some (if decide (i < j) = true then V.int j else V.int i) = _
  simp only [decide_eq_true_eq]
  split
  · rw [Int.max_eq_right (by omega)]
  · rw [Int.max_eq_left (by omega)]
theorem os_min3 : OpS G N W (rL (rNuC3 nuMin3)) (opI3 min3) := os_I3 fun i j k => by
  unfold nuMin3
  rw [min2_eq, Option.bind_some, min2_eq]
  rfl
theorem os_max3 : OpS G N W (rL (rNuC3 nuMax3)) (opI3 max3) := os_I3 fun i j k => by
  unfold nuMax3
  rw [max2_eq, Option.bind_some, max2_eq]
  rfl
theorem it_r3 : ItS G rR3 ioR3 := fun N σ ρ st H vs xs items R l h e k => by
  match xs, e, h, l, k with
  | [.d (.int i), .d (.int j), .d (.int c)], e, h, l, k =>
    obtain ⟨u, v, w, ev, h1, h2, h3⟩ := three l h
    subst ev
    have e1 := h1.int
    have e2 := h2.int
    have e3 := h3.int
    subst e1 e2 e3
    unfold ioR3 at e
    simp only at e
    split at e
    · rename_i hb
      cases e
      simp only [Bool.and_eq_true, decide_eq_true_eq] at hb
      obtain ⟨⟨⟨b1, b2⟩, b3⟩, b4⟩ := hb
      refine ⟨i, j, c, (Builtin.Range.rangeSize i j c).toNat, rfl, ⟨b1, b2, b3, (Int.toNat_of_nonneg b4).symm⟩, k _ H (iter_fn (f := fun n => .int (i + (n : Int) * c)) (by rw [List.length_map, List.length_range]; exact walk_rangeC) fun n d ed F => ?_) h⟩
      rw [List.getElem?_map] at ed
      cases e9 : (List.range (Builtin.Range.rangeSize i j c).toNat)[n]? with
      | none =>
        rw [e9] at ed
        cases ed
      | some m =>
        rw [e9] at ed
        have := (List.getElem?_eq_some_iff.mp e9).2
        rw [List.getElem_range] at this
        subst this
        cases ed
        rfl
    · cases e
end
end DL
/-! the data layer: a, b = x, y through a tuple (a name is captured) -/
namespace DL
open PySem PySem.Spec PyProof.Rows L2
section
variable {G : Gx} {N : Pn} {X : Cx} {W : WX} {H H' : Hp} {σ : L2.St} {ρ : List S} {st : Stk} {es tgs : List Expr} {as : List Arg} {pos : Pos}
theorem Hs.garb {vs : List V} {q : Addr} (h : Hs G N H σ ρ st) (hq : H q = none) : Hs G N (upd H q (.tup vs)) σ ρ st := by
  obtain ⟨F, fp, sb, r, n⟩ := h.ex
  have g : Grow G H (upd H q (.tup vs)) := Grow.upd h.tb hq
  exact ⟨h.len, ⟨F, fp, sb.grow g.1, RL.keep (Le.refl F) _ fp r fun x hx => own_grow r g.1 x hx, n⟩, g.2, h.pin⟩
def PX (G : Gx) (N : Pn) (X : Cx) (ts : List Expr) (is : List Nat) : Prop := ∀ (σ0 σ : L2.St) (ρ ρ' : List S) (st : Stk) (H : Hp) (vs : List V) (avs : List AV) (Q : L2.St → Hp → Prop), AVR σ0 avs vs → Hs G N H σ ρ (stkA avs vs ++ st) → setAll is avs ρ = some ρ' → (∀ σ' H', Hs G N H' σ' ρ' st → Q σ' H') → sGs X ts vs σ H Q
theorem px_nil : PX G N X [] [] := fun σ0 σ ρ ρ' st H vs avs Q r h e k => by
  cases avs with
  | nil =>
    have ev : vs = [] := r
    subst ev
    cases e
    exact gsx_nil σ ρ ρ st H [] [] Q rfl h rfl k
  | cons a avs => simp [setAll] at e
theorem px_cons {x : Expr} {i : Nat} {is : List Nat} (h1 : GX G N X x (.n i)) (h2 : PX G N X tgs is) (hs : (assignEach (x :: tgs) X.env).map (·.2) = assign x X.env :: (assignEach tgs X.env).map (·.2) := by rfl) : PX G N X (x :: tgs) (i :: is) := fun σ0 σ ρ ρ' st H vs avs Q r h e k => by
  match avs, r, e, h with
  | .s z :: avs, r, e, h =>
    obtain ⟨v, ws, ev, r'⟩ := r
    subst ev
    unfold setAll at e
    split at e
    · rename_i hl
      refine sGs_of (pgs_cons pg_sem pgs_sem hs) ⟨v, ws, rfl, ?_⟩
      exact h1 σ ρ (ρ.set i z) (stkA avs ws ++ st) H v z _ h (by unfold asgT; rw [if_pos hl]) fun σ1 H1 k1 => h2 σ0 σ1 _ ρ' st H1 ws avs Q r' k1 e k
    · cases e
  | [], _, e, _ => simp [setAll] at e
  | .n _ :: _, _, e, _ => simp [setAll] at e
theorem setAll_len : ∀ {is : List Nat} {avs : List AV} {vs : List V} {ρ ρ' : List S} {σ : L2.St}, AVR σ avs vs → setAll is avs ρ = some ρ' → vs.length = is.length
  | [], [], _, _, _, _, r, _ => by
    cases r
    rfl
  | i :: is, .s x :: avs, _, ρ, ρ', σ, ⟨v, ws, ev, r⟩, e => by
    subst ev
    unfold setAll at e
    split at e
    · simp [setAll_len r e]
    · cases e
  | [], _ :: _, _, _, _, _, _, e => by simp [setAll] at e
  | _ :: _, [], _, _, _, _, _, e => by simp [setAll] at e
  | _ :: _, .n _ :: _, _, _, _, _, _, e => by simp [setAll] at e
theorem sx_parT {is : List Nat} {kt k2 : Nat} {pt pt2 : Pos} (ha : AX G N X W es as) (hp : PA X es (sAs X es)) (hK : X.K = G.K) (hc : X.calm = true) (hg : PX G N X tgs is) (hl : is.length < 100 := by decide) (hn : (assignEach tgs X.env).length = is.length := by rfl) (hst : (assignEach tgs X.env).findIdx? (·.1) = none := by rfl)
    (hs : swapsWithSole [.Tuple tgs kt pt] (.Tuple es k2 pt2) pos.line X.env = pure false := by rfl) (hw : swappedStores [.Tuple tgs kt pt] (.Tuple es k2 pt2) X.env = pure none := by rfl)
    (h1 : (assignEach [.Tuple tgs kt pt] X.env).map (·.2) = [assign (.Tuple tgs kt pt) X.env] := by rfl) : SX G N X W (.Assign [.Tuple tgs kt pt] (.Tuple es k2 pt2) pos) (bPar is as) := fun σ ρ st H D h pp =>
  sS_of (ps_asg pe_sem pg_sem hs hw h1) (sE_of (pe_tup hp) (ha.bdo h pp fun avs ρ1 vs H1 r1 h2 p1 => by
    cases e : setAll is avs ρ1 with
    | none =>
      rw [e] at p1
      exact p1.elim
    | some ρ2 =>
      rw [e] at p1
      have l := setAll_len r1 e
      have hz : vs.length ≤ sizeLine := by
        rw [l]
        exact Nat.le_trans (Nat.le_of_lt hl) (by decide)
      refine ⟨hz, fun p hp => sG_of (pg_tup hc pgs_sem hn hst) ⟨p, vs, rfl, .of upd_same, l, ?_⟩⟩
      exact hg _ σ ρ1 ρ2 st _ vs avs _ r1 (h2.garb hp) e fun σ' H' h' => p1 σ' H' h'))
end
end DL
/-! the data layer: the start of a law -/
namespace DL
open PySem PySem.Spec PyProof.Rows L2
section
variable {G : Gx} {H : Hp} {a : Addr}
theorem rds_ints {F : Hp} : ∀ (ns : List Int), RDs G F (ns.map D.int) (ns.map V.int)
  | [] => rfl
  | n :: ns => ⟨_, _, rfl, rfl, rds_ints ns⟩
theorem start_ok {ns : List Int} (t : Tb G H) (q : SqL G.K H a (ns.map V.int)) : Hs G ⟨[], []⟩ H [] [] [(some (.ref a), .d (.lst (ns.map D.int)))] := by
  have mk : ∀ F : Hp, Sub F H → SqL G.K F a (ns.map V.int) → Hs G ⟨[], []⟩ H [] [] [(some (.ref a), .d (.lst (ns.map D.int)))] := fun F sb q' =>
    ⟨rfl, ⟨F, [], sb, ⟨[], [], rfl, ⟨rfl, _, rfl, a, _, rfl, q', rds_ints ns⟩, rfl⟩, .nil⟩, t, fun j hj => nomatch hj⟩
  rcases q with (q | ⟨ob, q⟩) | q
  · refine mk (upd (fun _ => none) a (.lst (ns.map V.int))) (fun b o e => ?_) (.inl (.inl upd_same))
    by_cases hb : b = a
    · subst hb
      rw [upd_same] at e
      cases e
      exact And.intro (fun _ z => nomatch z) (.inl q)
    · rw [upd_ne hb] at e
      cases e
  · refine mk (upd (fun _ => none) a (.frz ob (.lst (ns.map V.int)))) (fun b o e => ?_) (.inl (.inr ⟨ob, upd_same⟩))
    by_cases hb : b = a
    · subst hb
      rw [upd_same] at e
      cases e
      exact And.intro (fun _ z => nomatch z) (.inl q)
    · rw [upd_ne hb] at e
      cases e
  · exact mk (fun _ => none) (fun b o e => nomatch e) (.inr q)
theorem tb_start {L : List (Addr × Str)} (h : ∀ p ∈ L, H p.1 = some (.tbl #[])) : LamX.Tabs L H := fun p hp => by
  refine ⟨#[], h p hp, ?_, fun pos cv e => ?_⟩
  · first | exact trivial | exact .nil | exact True.intro | simp [TriplesOk]
  · first | exact nomatch e | (simp [codeAmong] at e)
end
end DL
/-! the data layer: sum and sorted of lists and tuples, pop, an item changed -/
namespace DL
open PySem PySem.Spec PyProof.Rows L2 PySem.W
/-! ### sum -/
def intsD : List D → Option (List Int)
  | [] => some []
  | .int i :: r => (intsD r).map (i :: ·)
  | _ :: _ => none
theorem intsD_eq : ∀ {xs : List D} {ns : List Int}, intsD xs = some ns → xs = ns.map D.int
  | [], ns, h => by
    cases h
    rfl
  | x :: xs, ns, h => by
    cases x with
    | int i =>
      simp only [intsD, Option.map_eq_some_iff] at h
      obtain ⟨r, h1, h2⟩ := h
      subst h2
      rw [intsD_eq h1]
      rfl
    | _ => simp [intsD] at h
theorem RDs.ints {G : Gx} {F : Hp} : ∀ {ns : List Int} {vs : List V}, RDs G F (ns.map D.int) vs → vs = ns.map V.int
  | [], vs, h => h
  | n :: ns, _, ⟨v, r, e, q, t⟩ => by
    subst e
    have q' : v = .int n := q
    subst q'
    rw [RDs.ints t]
    rfl
def opSum : List S → ORes
  | [s] => match (seqS s).bind intsD with
    | some ns => .ok (.d (.int ns.sum)) [s]
    | none => .stuck
  | _ => .stuck
def rSm (K : PySem.W.Frag) : List V → Hp → VK → Prop := fun vs H Q => ∃ (a : Addr) (ns : List Int), vs = [V.ref a] ∧ (SqL K H a (ns.map V.int) ∨ SqT K H a (ns.map V.int)) ∧ Q (.int ns.sum) H
section
variable {X : Cx}
theorem cr_sm (hc : X.calm = true) : CallR X (.builtin "sum") (rSm X.K) := by
  intro pins s σ H vs us Q I r h
  obtain ⟨a, ns, rfl, hs, q⟩ := h
  rcases hs with hs | hs
  · obtain ⟨its, rv, hl, _⟩ := I.list hs
    rw [Vals.ref1 r]
    exact sum_raw (I.ok.hd hc) hl.isList rv.ints fun h' tk t' hk => ⟨.int _, H, I.kept hk, ⟨_, rfl⟩, q⟩
  · obtain ⟨its, rv, hl, _⟩ := I.tuple hs
    rw [Vals.ref1 r]
    have hi := rv.ints
    obtain ⟨xs, e⟩ := hi.allInts.items
    have hn : numsOf (intItems xs).toList = ns := by
      rw [← e]
      exact hi.numsOf
    rw [nums_intItems] at hn
    have hl' : s.heap.IsTuple a its.toArray := hl
    rw [e] at hl'
    refine ktm_sumG (I.ok.hd hc) hl' fun h' tk t' hk => ?_
    rw [preSum_eq, List.take_of_length_le (by simp), hn]
    exact ⟨.int _, H, I.kept hk, ⟨_, rfl⟩, q⟩
end
section
variable {G : Gx} {N : Pn} {W : WX} {H : Hp} {σ : L2.St} {ρ : List S} {st : Stk}
theorem os_sum : OpS G N W (rL (rSm G.K)) opSum := fun σ ρ st H vs xs Q l h p => by
  match xs, p, h, l with
  | [s], p, h, l =>
    unfold opSum at p
    simp only at p
    cases e : (seqS s).bind intsD with
    | none =>
      rw [e] at p
      exact p.elim
    | some ns =>
      rw [e] at p
      obtain ⟨v, ev, h1⟩ := one l h
      subst ev
      simp only [Option.bind_eq_some_iff] at e
      obtain ⟨ys, e1, e2⟩ := e
      have e3 := intsD_eq e2
      subst e3
      obtain ⟨a, ws, ea, sq, l3, h4⟩ := h1.items e1
      subst ea
      obtain ⟨F, fp, sb, r, n⟩ := h4.ex
      rw [List.append_assoc] at r
      obtain ⟨x1, x2, _, r1, _⟩ := (RL.app _ _ _).mp r
      have q := RDs.ints ((RL.ds l3).mp r1).2
      subst q
      exact ⟨a, ns, rfl, sq, p.2 _ H (h.new fun _ => rfl)⟩
end
/-! ### sorted -/
section
variable {prog : Program} {w : World} {A : Around} {E : Value → Shared → Prop} {s : Shared}
theorem srt_gather {l : Addr} {vs : List Value} {Q : List Value → Shared → Prop} (hz : vs.length ≤ sizeLine) (ht : s.heap.IsTuple l vs.toArray)
    (k : Q vs { s with heap := (s.heap.push (seqObj "list" #[] 0)).update s.heap.objs.size (Obj.mapSeq (· ++ vs.toArray)) }) : wpAny (model prog w) A (collect (.ref l)) Q E s := by
  obtain ⟨ob, g1, g2, n, g3⟩ := id ht
  unfold collect
  refine wpAny_bind (wpAny_runValue (codeAny_builtin entry_proto_collect' ?_)); show wpAny _ _ (do again (.builtin "list.__iadd__" ⟨[← newList [], .ref l], []⟩)) _ _ s
  refine wpAny_bind (wpAny_newList (wpAny_pure ⟨Code.quiet_builtin _ (by decide +kernel), codeAny_builtin entry_list_iadd' ?_⟩)); show wpAny _ _ (Builtin.List.listExtendWith (.ref s.heap.objs.size) (.ref l) (.ref s.heap.objs.size)) _ _ { s with heap := s.heap.push (seqObj "list" #[] 0) }
  unfold Builtin.List.listExtendWith
  have g4 : (s.heap.push (seqObj "list" #[] 0)).get? l = some ob := Heap.get?_push_of_some _ g1
  refine wpAny_bind (wpAny_typeOf (T := "tuple") ⟨ob, g4, g2⟩ ?_)
  have g5 : (Value.type "tuple" == Value.type "tuple") = true := by rfl
  rw [if_pos (by rw [g5]; simp)]
  refine wpAny_bind (listItems_at g4 g3 ?_)
  refine wpAny_bind (listItems_at (n := 0) (xs := #[]) (Heap.get?_push_size _ rfl) rfl ?_); rw [if_neg (by simp)]
  refine wpAny_bind (listUpdate_at (n := 0) (xs := #[]) (Heap.get?_push_size _ rfl) rfl ?_ (Nat.zero_le _) (by show (#[] ++ vs.toArray).size ≤ sizeLine + 1; simp only [Array.size_append, List.size_toArray, List.length_nil]; omega)); refine wpAny_pure ?_
  show wpAny (model prog w) A (do let o ← load s.heap.objs.size; match o.data with
      | .seq xs _ => pure xs.toList
      | _ => unsupported "internal:collect") Q E { s with heap := (s.heap.push (seqObj "list" #[] 0)).update s.heap.objs.size (Obj.mapSeq (· ++ vs.toArray)) }
  refine wpAny_bind (wpAny_load (get?_update_seq (Heap.get?_push_size _ rfl) _) ?_); show wpAny _ _ (pure ((#[] : Array Value) ++ vs.toArray).toList) Q E _
  refine wpAny_pure ?_
  simpa using k
/-- a list or a tuple -/
def SeqIs (h : Heap) (l : Addr) (vs : List Value) : Prop := h.IsList l vs.toArray ∨ h.IsTuple l vs.toArray
theorem srt_run {l : Addr} {vs : List Value} {kw : List (Str × Value)} {Q : Value → Shared → Prop} (hl : SeqIs s.heap l vs) (hL : vs.length ≤ sizeLine) (a1 : argsOk "sorted" ⟨[.ref l], kw⟩) (a2 : ∀ y, argsOk "list.sort" ⟨[.ref y], kw⟩)
    (run : ∀ Z : Value → Shared → Prop, wpAny (model prog w) A.in1.in1 (Builtin.«list.sort» ⟨[.ref (s.heap.objs.size + 1)], kw⟩) (fun f s' => f = .done (.ret .none) ∧ Q (.ref (s.heap.objs.size + 1)) s') Z { s with heap := copyHeap s.heap vs }) :
    wpAny (model prog w) A (call (.builtin "sorted") [.ref l] kw) Q E s := by
  rcases hl with hl | hl
  · exact sorted_of_sort hl hL a1 a2 run
  · refine PyProof.Rows.call_function_entry_kw kind_sorted plain_sorted entry_sorted a1 ?_; unfold Builtin.«sorted»
    refine wpAny_bind (m := checkCount "sorted" 1 1 _) (wpAny_pure ?_); refine wpAny_bind (srt_gather hL hl ?_)
    refine wpAny_bind (wpAny_newList ?_ hL)
    have sz : ((s.heap.push (seqObj "list" #[] 0)).update s.heap.objs.size (Obj.mapSeq (· ++ vs.toArray))).objs.size = s.heap.objs.size + 1 := by rw [Heap.size_update, size_push']
    show wpAny _ _ _ _ _ { s with heap := copyHeap s.heap vs }; rw [sz]
    refine wpAny_bind (wpAny_holding (wpAny_call_entry_kw slot_list_sort ⟨_, copyHeap_at s.heap vs, rfl⟩ entry_list_sort ?run (a2 _)))
    case run =>
      show wpAny (model prog w) A.in1.in1 (Builtin.«list.sort» ⟨[.ref (s.heap.objs.size + 1)], kw⟩) _ _ _
      refine wpAny_mono (run _) (fun f s' ⟨ef, hq⟩ => ?_) fun _ _ e => e
      subst ef
      exact ⟨_, rfl, wpAny_pure ⟨_, rfl, hq⟩⟩
variable {β : Type} {vs : List Value} {bs : List β} {enc : β → PyData} {R : Value → β → Prop}
theorem srt_data {l : Addr} {rev : Bool} {kw : List (Str × Value)} {Q : Value → Shared → Prop} (hkw : (rev = false ∧ kw = []) ∨ kw = [(Str.ofString "reverse", .bool rev)]) (hl : SeqIs s.heap l vs) (e : EachIs R vs bs) (er : EachIs (fun v b => ∃ as, Reads s.heap v (enc b) as) vs bs) (hal : AllAlike (bs.map enc)) (hk : Sortable (bs.map enc)) (hL : bs.length ≤ sizeLine)
    (hu : ∀ b, b ∈ bs → A.units + 2 + (enc b).depth < cLine) (h : ∀ out, out.length = bs.length → EachIs R out (bs.mergeSort (dataLe rev enc)) → Q (.ref (s.heap.objs.size + 1)) { s with heap := sortedAll s.heap vs (List.toArray out) }) :
    wpAny (model prog w) A (call (.builtin "sorted") [.ref l] kw) Q E s := by
  have e2 : EachIs (fun v b => ∃ as, Reads (sortingHeap (copyHeap s.heap vs) (s.heap.objs.size + 1) vs) v (enc b) as) vs bs := er.mono fun _ _ ⟨as, r⟩ => ⟨as, PyProof.Rows.Reads.keeps (fun _ _ => sorting_copy_old) r⟩
  have hV : vs.length ≤ sizeLine := by rw [e.length]; exact hL
  have S := SortsAt.data (prog := prog) (w := w) (A := A.in1.in1) (s := { s with heap := sortingHeap (copyHeap s.heap vs) (s.heap.objs.size + 1) vs }) (each_map (R := fun v d => ∃ as, Reads (sortingHeap (copyHeap s.heap vs) (s.heap.objs.size + 1) vs) v d as) enc e2) hal hk (bound_map hu)
  have fin := h _ (by rw [sortVals_length rev rfl]; exact e.length) (sortVals_data rev e e2 hal)
  rcases hkw with ⟨rfl, rfl⟩ | rfl
  · exact srt_run hl hV (args_sorted1 _) (fun _ => args_list_sort _) fun _ => list_sort_vals (s := { s with heap := copyHeap s.heap vs }) (copyHeap_at s.heap vs) S hV ⟨rfl, fin⟩
  · exact srt_run hl hV (args_sorted_rev _ _) (fun _ => args_list_sort_rev _ _) fun _ => list_sort_rev_vals (s := { s with heap := copyHeap s.heap vs }) (copyHeap_at s.heap vs) S hV ⟨rfl, fin⟩
end
/-- by data -/
def leD (rev : Bool) (x y : D) : Bool := dataLe rev py x y
def srtV (rev : Bool) (ws : List V) (xs : List D) : List (V × D) := (ws.zip xs).mergeSort fun p q => leD rev p.2 q.2
def rSrt (K : PySem.W.Frag) (rev : Bool) : List V → Hp → VK → Prop := fun vs H Q => ∃ (a : Addr) (ws : List V) (xs : List D) (ds : List PyData), vs = [V.ref a] ∧ (SqL K H a ws ∨ SqT K H a ws) ∧ dPys xs = some ds ∧ DpAll K H ws ds ∧ AllAlike ds ∧ Sortable ds ∧ (∀ d ∈ ds, d.depth ≤ 64) ∧ ws.length = xs.length ∧
  ∀ p, H p = none → Q (.ref p) (upd H p (.lst ((srtV rev ws xs).map (·.1))))
theorem dPys_map : ∀ {xs : List D} {ds : List PyData}, dPys xs = some ds → ds = xs.map py
  | [], ds, h => by
    simp only [dPys, Option.some.injEq] at h
    exact h.symm
  | x :: xs, ds, h => by
    unfold dPys at h
    split at h
    · rename_i d ds' e1 e2
      cases h
      rw [dPys_map e2, List.map_cons]
      unfold py
      rw [e1]
      rfl
    · cases h
theorem EachIs.of_zip {X : Cx} {pins : List (Addr × Obj)} {σ : L2.St} {H : Hp} {s : Shared} (I : Inv X pins σ H s) : ∀ {ws : List V} {us : List Value} {xs : List D}, Vals ws us → ws.length = xs.length → DpAll X.K H ws (xs.map py) →
    EachIs (fun u (p : V × D) => RelV p.1 u) us (ws.zip xs) ∧ EachIs (fun u (p : V × D) => ∃ as, Reads s.heap u (py p.2) as) us (ws.zip xs)
  | [], _, [], .nil, _, _ => ⟨.nil, .nil⟩
  | [], _, _ :: _, .nil, h, _ => by simp at h
  | _ :: _, _, [], .cons _ _, h, _ => by simp at h
  | w :: ws, u :: us, x :: xs, .cons r t, h, .cons d ds => by
    obtain ⟨k1, k2⟩ := EachIs.of_zip I t (by simpa using h) ds
    obtain ⟨as, hr⟩ := Dp.readsAll I [py x] [w] [u] (.cons d .nil) (.cons r .nil)
    cases hr with
    | cons h1 h2 => exact ⟨.cons r k1, .cons ⟨_, h1⟩ k2⟩
theorem Vals.of_each : ∀ {out : List Value} {ps : List (V × D)}, EachIs (fun u (p : V × D) => RelV p.1 u) out ps → Vals (ps.map (·.1)) out
  | _, _, .nil => .nil
  | _, _, .cons r t => .cons r (Vals.of_each t)
section
variable {X : Cx}
theorem srt_core {rev : Bool} {kw : List (Str × Value)} (hu : X.A.units + 66 < cLine) (hkw : (rev = false ∧ kw = []) ∨ kw = [(Str.ofString "reverse", .bool rev)]) {pins : List (Addr × Obj)} {s : Shared} {σ : L2.St} {H : Hp} {vs : List V} {us : List Value} {Q : VK} (I : Inv X pins σ H s) (r : Vals vs us) (h : rSrt X.K rev vs H Q) :
    wpAny (model X.prog X.w) X.A (call (.builtin "sorted") us kw) (EP X pins σ Q) X.xe s := by
  obtain ⟨a, ws, xs, ds, rfl, sq, e, hd, ha, hs, hz, hl, q⟩ := h
  rw [Vals.ref1 r]
  have ed := dPys_map e
  subst ed
  have go : ∀ its : List Value, Vals ws its → ws.length ≤ sizeLine → SeqIs s.heap a its → wpAny (model X.prog X.w) X.A (call (.builtin "sorted") [.ref a] kw) (EP X pins σ Q) X.xe s := fun its rv hws hsq => by
    obtain ⟨k1, k2⟩ := EachIs.of_zip I rv hl hd
    have ez : (ws.zip xs).map (fun p => py p.2) = xs.map py := by
      have e5 : (ws.zip xs).map (fun p => py p.2) = ((ws.zip xs).map Prod.snd).map py := by rw [List.map_map]; rfl
      rw [e5, List.map_snd_zip (by omega)]
    have el : (ws.zip xs).length = ws.length := by rw [List.length_zip]; omega
    refine srt_data (rev := rev) hkw hsq k1 (enc := fun p => py p.2) k2 (by rw [ez]; exact ha) (by rw [ez]; exact hs) (by rw [el]; exact hws) (fun b hb => ?_) fun out ho hr => ?_
    · have := hz (py b.2) (List.mem_map.mpr ⟨b.2, (List.of_mem_zip hb).2, rfl⟩)
      show X.A.units + 2 + (py b.2).depth < cLine
      omega
    · obtain ⟨ep, he⟩ := PyProof.Rows.sortedAll_at s.heap its out.toArray
      have hlen : ((srtV rev ws xs).map (·.1)).length ≤ sizeLine := by
        unfold srtV
        rw [List.length_map, List.length_mergeSort, el]
        exact hws
      refine ⟨.ref _, upd H (s.heap.objs.size + 1) (.lst ((srtV rev ws xs).map (·.1))), I.laid (t' := s.toks) (fun _ _ => PyProof.Rows.sortedAll_old) (Nat.le_succ _) ⟨hlen, out, ep, Vals.of_each hr, he⟩, rfl, q _ (I.hok.fresh (Nat.le_succ _))⟩
  rcases sq with sq | sq
  · obtain ⟨its, rv, pl, z⟩ := I.list sq
    exact go its rv z (.inl pl.isList)
  · obtain ⟨its, rv, pl, z⟩ := I.tuple sq
    exact go its rv z (.inr pl)
theorem cr_srt (hu : X.A.units + 66 < cLine) : CallR X (.builtin "sorted") (rSrt X.K false) := fun pins s σ H vs us Q I r h => srt_core hu (.inl ⟨rfl, rfl⟩) I r h
end
/-! ### sorted, by what is held -/
def alB (ds : List PyData) : Bool := ds.all fun x => ds.all fun y => alike x y
def isTc : PyData → Bool
  | .tuple (_ :: _) => true
  | _ => false
def noTc : PyData → Bool
  | .tuple _ => false
  | .none => false
  | _ => true
def srtB (ds : List PyData) : Bool := alB ds && (ds.all isTc || ds.all noTc) && ds.all fun d => decide (d.depth ≤ 64)
theorem srtB_of {ds : List PyData} (h : srtB ds = true) : AllAlike ds ∧ Sortable ds ∧ ∀ d ∈ ds, d.depth ≤ 64 := by
  unfold srtB alB at h
  simp only [Bool.and_eq_true, Bool.or_eq_true, List.all_eq_true, decide_eq_true_eq] at h
  obtain ⟨⟨h1, h2⟩, h3⟩ := h
  refine ⟨fun x hx y hy => h1 x hx y hy, ?_, h3⟩
  rcases h2 with h2 | h2
  · refine .inl fun d hd => ?_
    have := h2 d hd
    match d, this with
    | .tuple (x :: r), _ => exact ⟨x, r, rfl⟩
  · refine .inr fun d hd => ?_
    have := h2 d hd
    exact ⟨(fun z => by subst z; cases this), (fun xs z => by subst z; cases this)⟩
def opSorted (rev : Bool) : List S → ORes
  | [s] => match seqS s with
    | some xs => match dPys xs with
      | some ds => if srtB ds then .ok (.l (xs.mergeSort (leD rev))) [s] else .stuck
      | none => .stuck
    | none => .stuck
  | _ => .stuck
section
variable {G : Gx} {N : Pn} {W : WX} {H : Hp} {σ : L2.St} {ρ : List S} {st : Stk}
theorem zs_zip : ∀ (ws : List V) (xs : List D), zs ws (xs.map .d) = (ws.zip xs).map fun p => (some p.1, S.d p.2)
  | [], _ => by simp [zs]
  | _ :: _, [] => by simp [zs]
  | w :: ws, x :: xs => by
    have ih := zs_zip ws xs
    unfold zs at ih ⊢
    simp only [List.map_cons, List.zip_cons_cons, ih]
theorem zip_fs {α β : Type} : ∀ ps : List (α × β), (ps.map (·.1)).zip (ps.map (·.2)) = ps
  | [] => rfl
  | p :: ps => by simp [zip_fs ps]
theorem Hs.srt {ws : List V} {xs : List D} {rev : Bool} {p : Addr} (h : Hs G N H σ ρ (zs ws (xs.map .d) ++ st)) (l : ws.length = xs.length) (hp : H p = none) : Hs G N (upd H p (.lst ((srtV rev ws xs).map (·.1)))) σ ρ ((some (.ref p), .l (xs.mergeSort (leD rev))) :: st) := by
  have e1 : (srtV rev ws xs).map (·.2) = xs.mergeSort (leD rev) := by
    unfold srtV
    rw [List.map_mergeSort (s := leD rev) (fun a _ b _ => rfl), List.map_snd_zip (by omega)]
  have pm : (zs ws (xs.map .d) ++ st).Perm (zs ((srtV rev ws xs).map (·.1)) (((srtV rev ws xs).map (·.2)).map .d) ++ st) := by
    refine List.Perm.append_right _ ?_
    rw [zs_zip, zs_zip, zip_fs]
    exact ((List.mergeSort_perm _ _).map _).symm
  have h2 := (h.perm pm).newL (by simp) hp
  rw [e1] at h2
  exact h2
theorem os_srt {rev : Bool} : OpS G N W (rL (rSrt G.K rev)) (opSorted rev) := fun σ ρ st H vs xs Q l h p => by
  match xs, p, h, l with
  | [s], p, h, l =>
    unfold opSorted at p
    simp only at p
    cases e : seqS s with
    | none =>
      rw [e] at p
      exact p.elim
    | some ys =>
    rw [e] at p
    simp only at p
    cases e2 : dPys ys with
    | none =>
      rw [e2] at p
      exact p.elim
    | some ds =>
    rw [e2] at p
    simp only at p
    by_cases hb : srtB ds = true
    · rw [if_pos hb] at p
      obtain ⟨v, ev, h1⟩ := one l h
      subst ev
      obtain ⟨a, ws, ea, sq, l3, h4⟩ := h1.items e
      subst ea
      obtain ⟨F, fp, sb, r, n⟩ := h4.ex
      rw [List.append_assoc] at r
      obtain ⟨x1, x2, _, r1, _⟩ := (RL.app _ _ _).mp r
      have q := ((RL.ds l3).mp r1).2
      obtain ⟨k1, k2, k3⟩ := srtB_of hb
      exact ⟨a, ws, ys, ds, rfl, sq, e2, q.dps sb e2, k1, k2, k3, l3, fun p' hp => p.2 _ _ (h4.srt l3 hp)⟩
    · rw [if_neg hb] at p
      exact p.elim
end
section
variable {G : Gx} {N : Pn} {X : Cx} {W : WX} {e : Expr} {as : List Arg} {pos : Pos}
theorem ex_srt {p : Pos} {x : Str} (hK : X.K = G.K) (hu : X.A.units + 66 < cLine) (hx : x = "sorted") (hm : X.mg x = none) (ha : AX G N X W [e] as) (hp : PA X [e] (sAs X [e])) (hgl : Gl X x := by rfl)
    (he : starEach [e] X.env = (false, eval e X.env) :: starEach [] X.env := by rfl) : EX G N X W (.Call (.Name x p) [e] [] pos) (mOp (opSorted false) as) := by
  subst hx
  exact ex_callB (r := rSrt X.K false) (cr_srt hu) (by rw [hK]; exact os_srt) hm (by decide +kernel) ha hp hgl (by decide) (by decide) he
def rSrtK (K : PySem.W.Frag) (b : Bool) : List V → List V → Hp → VK → Prop := fun vs zs H Q => zs = [.bl b] ∧ rSrt K b vs H Q
theorem cr_srtK {b : Bool} (hu : X.A.units + 66 < cLine) : CallRK X (.builtin "sorted") [Str.ofString "reverse"] (rSrtK X.K b) := by
  intro pins s σ H vs zs us ws Q I r rz h
  obtain ⟨ez, h⟩ := h
  subst ez
  obtain ⟨w1, rfl, e1⟩ := vals1 rz
  obtain rfl : w1 = Value.bool b := e1
  exact srt_core hu (.inr rfl) I r h
theorem ex_srtR {p kp : Pos} {x : Str} {b : Bool} {j : Nat} {cp : Pos} (hK : X.K = G.K) (hu : X.A.units + 66 < cLine) (hx : x = "sorted") (hm : X.mg x = none) (ha : AX G N X W [e] as) (hp : PA X [e] (sAs X [e])) (hgl : Gl X x := by rfl)
    (he : backTo pos (starEach [e] X.env) = (false, eval e X.env) :: backTo pos (starEach [] X.env) := by rfl) (hpl : (backTo pos (starEach [e] X.env)).any (·.1) = false := by rfl)
    (hall : (backToKw pos (keywordEach [⟨some "reverse", .Constant (.bool b) j cp, kp⟩] X.env)).all (·.1.isSome) = true := by rfl) (hnone : (backToKw pos (keywordEach [⟨some "reverse", .Constant (.bool b) j cp, kp⟩] X.env)).any (·.1.isNone) = false := by rfl)
    (hks : (backToKw pos (keywordEach [⟨some "reverse", .Constant (.bool b) j cp, kp⟩] X.env)).filterMap (·.1) = [Str.ofString "reverse"] := by rfl) :
    EX G N X W (.Call (.Name x p) [e] [⟨some "reverse", .Constant (.bool b) j cp, kp⟩] pos) (mOp (opSorted b) as) := by
  subst hx
  refine ex_op (r := rL (rSrt X.K b)) (fun σ H Q h => ?_) ha (by rw [hK]; exact os_srt)
  refine sE_of (pe_callBK (r := rSrtK X.K b) (cr_srtK hu) hgl hm (by decide +kernel) hp (pk_cons pe_bl pk_nil) (by decide) (by decide) he hpl hall hnone hks) ?_
  have key : ∀ (es : List Expr) (σ : L2.St) (H : Hp) (R R' : List V → Hp → Prop), (∀ vs H', R vs H' → R' vs H') → sAs X es σ H R → sAs X es σ H R' := fun es => by
    induction es with
    | nil => exact fun σ H R R' k h => k _ _ h
    | cons a as ih => exact fun σ H R R' k h pins s I => wpAny_mono (h pins s I) (fun v s' ⟨w, H1, I1, r1, q1⟩ => ⟨w, H1, I1, r1, ih σ H1 _ _ (fun vs H' q => k _ _ q) q1⟩) fun _ _ z => z
  exact key _ _ _ _ _ (fun vs H' q => ⟨rfl, q⟩) h
end
end DL
/-! the data layer: pop, an item changed in place -/
namespace DL
open PySem PySem.Spec PyProof.Rows L2 PySem.W
section
variable {G : Gx} {N : Pn} {X : Cx} {W : WX} {H : Hp} {σ : L2.St} {ρ : List S} {st : Stk}
theorem RDs.erase {F : Hp} : ∀ {xs : List D} {vs : List V} {j : Nat}, RDs G F xs vs → RDs G F (xs.eraseIdx j) (vs.eraseIdx j)
  | [], vs, j, h => by
    have h' : vs = [] := h
    subst h'
    cases j <;> exact h
  | x :: xs, _, 0, ⟨v, r, e, q, t⟩ => by
    subst e
    exact t
  | x :: xs, _, j + 1, ⟨v, r, e, q, t⟩ => by
    subst e
    exact ⟨v, _, rfl, q, RDs.erase t⟩
theorem RDs.nth {F : Hp} : ∀ {xs : List D} {vs : List V} {j : Nat} {x : D}, RDs G F xs vs → xs[j]? = some x → ∃ v, vs[j]? = some v ∧ RD G F x v
  | [], _, _, _, _, h => by simp at h
  | x :: xs, _, 0, _, ⟨v, r, e, q, t⟩, h => by
    subst e
    cases h
    exact ⟨v, rfl, q⟩
  | x :: xs, _, j + 1, _, ⟨v, r, e, q, t⟩, h => by
    subst e
    exact RDs.nth (j := j) t (by simpa using h)
/-- an item is taken out of an owned list -/
theorem Hs.takeOut {p : Addr} {xs : List D} {vs : List V} {j : Nat} {x : D} (h : Hs G N H σ ρ ((some (.ref p), .l xs) :: st)) (e : H p = some (.lst vs)) (ex : xs[j]? = some x) :
    ∃ v, vs[j]? = some v ∧ Hs G N (upd H p (.lst (vs.eraseIdx j))) σ ρ ((some v, .d x) :: (some (.ref p), .l (xs.eraseIdx j)) :: st) := by
  obtain ⟨F, fp, sb, ⟨a1, b1, ef1, ⟨p', vs', ev, ea, eH, eF, q⟩, r⟩, n⟩ := h.ex
  cases ev
  subst ea ef1
  rw [e] at eH
  cases eH
  obtain ⟨v, e1, q1⟩ := RDs.nth q ex
  have hnp : p ∉ b1 := (List.nodup_cons.mp n).1
  exact ⟨v, e1, h.len, ⟨F, [p] ++ b1, sub_upd sb eF, ⟨[], [p] ++ b1, rfl, ⟨rfl, v, rfl, q1⟩, [p], b1, rfl, ⟨p, _, rfl, rfl, upd_same, eF, RDs.erase q⟩, RL.keep (Le.refl F) _ b1 r (fr_upd r hnp)⟩, n⟩, tabs_upd h.tb e trivial, h.pin⟩
def opPop : List S → ORes
  | [.l xs] => match xs[xs.length - 1]? with
    | some x => .ok (.d x) [.l xs.dropLast]
    | none => .stuck
  | _ => .stuck
theorem os_pop : OpS G N W (rBm rPop) opPop := fun σ ρ st H vs xs Q l h p => by
  match xs, p, h, l with
  | [.l xs], p, h, l =>
    unfold opPop at p
    simp only at p
    cases e : xs[xs.length - 1]? with
    | none =>
      rw [e] at p
      exact p.elim
    | some x =>
      rw [e] at p
      obtain ⟨v, ev, h1⟩ := one l h
      subst ev
      obtain ⟨a, ws, ev, eH, l2⟩ := h1.lAt
      subst ev
      obtain ⟨y, ey, h2⟩ := h1.takeOut eH e
      have ed : ∀ {α : Type} (zs : List α), zs.eraseIdx (zs.length - 1) = zs.dropLast := fun zs => by
        rw [List.dropLast_eq_take]
        cases zs with
        | nil => rfl
        | cons z zs => rw [List.eraseIdx_eq_take_drop_succ, List.drop_eq_nil_of_le (by simp), List.append_nil]
      rw [ed] at h2
      rw [← l2, ed] at h2
      exact ⟨a, ws, y, rfl, rfl, eH, by rw [l2]; exact ey, p.2 _ _ h2⟩
def opPopAt : List S → ORes
  | [.l xs, .d (.int i)] => if -4611686018427387904 ≤ i ∧ i < 4611686018427387904 then (match ixN xs.length i with
    | some j => match xs[j]? with
      | some x => .ok (.d x) [.l (xs.eraseIdx j), .d (.int i)]
      | none => .stuck
    | none => .stuck) else .stuck
  | _ => .stuck
theorem os_popAt : OpS G N W (rBm rPopAt) opPopAt := fun σ ρ st H vs xs Q l h p => by
  match xs, p, h, l with
  | [.l xs, .d (.int i)], p, h, l =>
    unfold opPopAt at p
    simp only at p
    by_cases hb : -4611686018427387904 ≤ i ∧ i < 4611686018427387904
    · rw [if_pos hb] at p
      cases e1 : ixN xs.length i with
      | none =>
        rw [e1] at p
        exact p.elim
      | some j =>
      rw [e1] at p
      simp only at p
      cases e : xs[j]? with
      | none =>
        rw [e] at p
        exact p.elim
      | some x =>
        rw [e] at p
        obtain ⟨v, w, ev, h1, h2⟩ := two l h
        subst ev
        have ei := h2.int
        subst ei
        obtain ⟨a, ws, ev, eH, l2⟩ := h1.lAt
        subst ev
        obtain ⟨y, ey, h3⟩ := h1.takeOut eH e
        exact ⟨a, ws, i, j, y, rfl, rfl, eH, by omega, by omega, by rw [l2]; exact (ixN_seq e1).1, ey, p.2 _ _ h3⟩
    · rw [if_neg hb] at p
      exact p.elim
/-! ### xs[i] op= e, xs owned, ints -/
theorem get_list : PGet X (rIxL X.K) := by
  intro pins s σ H o i ov iv Q I rx ry h
  obtain ⟨p, xs, k, z, rfl, rfl, hq, he, q⟩ := h
  cases rx
  obtain ⟨t, rfl⟩ := ry
  obtain ⟨its, r, pl, hz⟩ := I.list hq
  obtain ⟨j, h1, h2, h3, h4, h5⟩ := atI_get he
  obtain ⟨w, ew, rw'⟩ := r.get h2
  have hl := r.length
  have hn := line63
  have fin : EP X pins σ Q w s := ⟨z, H, I, rw', q⟩
  by_cases h0 : 0 ≤ k
  · have hj : k.toNat = j := by
      rw [seqIndex_of h0 h5] at h1
      exact Option.some.inj h1
    exact wpAny_getItem_list pl.isList h0 (by omega) (by rw [hj]; simpa using ew) fin
  · have hj : (k + (its.toArray.size : Int)).toNat = j := by
      rw [seqIndex_neg (by omega) h4] at h1
      rw [List.size_toArray, ← hl]
      exact Option.some.inj h1
    exact wpAny_getItem_list_neg pl.isList (by omega) (by rw [List.size_toArray] <;> omega) (by omega) (by rw [hj]; simpa using ew) fin
def augS3 (io : Nat) (op : Int → Int → Int) (k n : Int) (t : S) : B := match t with
  | .d (.int m) => fun ρ2 => match ρ2[io]? with
    | some (.l ys) => match ixN ys.length k with
      | some j => .nx (ρ2.set io (.l (ys.set j (.int (op n m)))))
      | none => .stuck
    | _ => .stuck
  | _ => fun _ => .stuck
def augS2 (io : Nat) (op : Int → Int → Int) (fe : M S) (s : S) : B := match s with
  | .d (.int k) => fun ρ1 => match ρ1[io]? with
    | some (.l xs) => match atI xs k with
      | some (.int n) => bdo fe (augS3 io op k n) ρ1
      | _ => .stuck
    | _ => .stuck
  | _ => fun _ => .stuck
def bAugS (io : Nat) (op : Int → Int → Int) (fi fe : M S) : B := fun ρ => match ρ[io]? with
  | some (.l _) => bdo fi (augS2 io op fe) ρ
  | _ => .stuck
theorem fps_more {x : Option V × S} {D : Ends} {r : Fl} (h : fps G N W st D r) : fps G N W (x :: st) D r := by
  cases r with
  | nx ρ => exact fun σ' H' k => h σ' H' k.drop
  | rt s ρ => exact fun v σ' H' k => h v σ' H' (k.perm (.swap _ _ _)).drop
  | bk ρ => exact fun σ' H' k => h σ' H' k.drop
  | ct ρ => exact fun σ' H' k => h σ' H' k.drop
  | exc c p ρ => exact fun cls d σ' H' a k => h cls d σ' H' a k.drop
  | stuck => exact h
theorem sx_augS (io : Nat) {x : Str} {i e : Expr} {op : Operator} {tpos pos p' : Pos} {fi fe : M S} {g : Int → Int → Int} (hK : X.K = G.K) (ho : PIp X op (ipI g)) (hi : EX G N X W i fi) (he : EX G N X W e fe) (hx : X.N[io]? = some x := by rfl) (hv : Vis X.env.scope x := by first | exact Or.inl rfl | exact Or.inr (Or.inl rfl) | exact Or.inr (Or.inr rfl)) (hd : (x == ("__debug__" : Str)) = false := by decide) (hcd : (x == ("__classdict__" : Str)) = false := by decide)
    (ha : ∀ ov iv new, augStore i ov iv new = (do holding [new, ov, iv] (setItem ov iv new); release [new, ov, iv] []; pure .next) := by intros; rfl) :
    SX G N X W (.AugAssign (.Subscript (.Name x p') i tpos) op e pos) (bAugS io g fi fe) := fun σ ρ st H D h pp => by
  unfold bAugS at pp
  split at pp
  · rename_i xs0 e0
    obtain ⟨v, ev⟩ := h.val e0 (by intro z; cases z)
    refine sS_of (ps_augS (pe_var hx hv hd hcd) pe_sem get_list pe_sem ho set_list ha) ⟨v, ev, hi.bdo h pp fun s ρ1 w H1 h1 p1 => ?_⟩
    unfold augS2 at p1
    split at p1
    · rename_i k
      have ek := h1.int
      subst ek
      split at p1
      · rename_i xs e1
        split at p1
        · rename_i n e2
          have h2 := h1.pull e1 ev
          obtain ⟨a, ws, ea, eH, l2⟩ := h2.lAt
          subst ea
          obtain ⟨a', ws', ea, sq, l3, h3⟩ := h2.itemsL (xs := xs) rfl
          cases ea
          obtain ⟨j, e3, e4⟩ : ∃ j, ixN xs.length k = some j ∧ xs[j]? = some (.int n) := by
            unfold atI at e2
            rw [Option.bind_eq_some_iff] at e2
            exact e2
          obtain ⟨y, ey, h4⟩ := h3.one (i := j) (x := .d (.int n)) (by simpa using l3) (by rw [List.getElem?_map, e4]; rfl)
          have ey2 := h4.int
          subst ey2
          refine ⟨a, ws', k, .int n, rfl, rfl, by rw [hK]; exact sq, by unfold atI; rw [l3, e3]; exact ey, he.bdo h1 (fps_more p1) fun t ρ2 u H2 h5 p2 => ?_⟩
          unfold augS3 at p2
          split at p2
          · rename_i m
            have eu := h5.int
            subst eu
            split at p2
            · rename_i ys e5
              split at p2
              · rename_i j2 e6
                have h6 := h5.pull e5 ev
                obtain ⟨a2, ws2, ea2, eH2, l4⟩ := h6.lAt
                cases ea2
                refine ⟨n, m, rfl, rfl, a, ws2, k, j2, rfl, rfl, eH2, by rw [l4]; exact e6, ?_⟩
                obtain ⟨F, fp, sb, ⟨a1, b1, ef1, ⟨p'', vs', ev', ea', eH', eF, q⟩, r⟩, nn⟩ := h6.ex
                cases ev'
                subst ea' ef1
                rw [eH2] at eH'
                cases eH'
                have hnp : a ∉ b1 := (List.nodup_cons.mp nn).1
                have h7 : Hs G N (upd H2 a (.lst (ws2.set j2 (.int (g n m))))) σ (ρ2.set io .gone) ((some (.ref a), .l (ys.set j2 (.int (g n m)))) :: (some (.int m), .d (.int m)) :: (some (.int k), .d (.int k)) :: st) :=
                  ⟨h6.len, ⟨F, [a] ++ b1, sub_upd sb eF, ⟨[a], b1, rfl, ⟨a, ws2.set j2 (.int (g n m)), rfl, rfl, upd_same, eF, RDs.set q rfl⟩, RL.keep (Le.refl F) _ b1 r (fr_upd r hnp)⟩, nn⟩, tabs_upd h6.tb eH2 trivial, h6.pin⟩
                have hlt : io < ρ2.length := (List.getElem?_eq_some_iff.mp e5).1
                have h8 := h7.put (i := io) (t := .gone) (by simp [hlt]) ev
                rw [List.set_set] at h8
                exact p2 _ _ h8.drop
              · exact p2.elim
            · exact p2.elim
          · exact p2.elim
        · exact p1.elim
      · exact p1.elim
    · exact p1.elim
  · exact pp.elim
end
end DL
/-! the data layer: list + list, owned or settled -/
namespace DL
open PySem PySem.Spec PyProof.Rows L2 PySem.W
section
variable {G : Gx} {N : Pn} {X : Cx} {W : WX} {H : Hp} {σ : L2.St} {ρ : List S} {st : Stk}
def rCatL (K : PySem.W.Frag) : R2 := fun x y H Q => ∃ a b xs ys, x = .ref a ∧ y = .ref b ∧ SqL K H a xs ∧ SqL K H b ys ∧ xs.length + ys.length ≤ sizeLine ∧ ∀ p, H p = none → Q (.ref p) (upd H p (.lst (xs ++ ys)))
theorem op_catL : OpR X (binaryOp .Add) (rCatL X.K) := by
  intro pins s σ H x y v u Q I rx ry h
  obtain ⟨a, b, xs, ys, rfl, rfl, hx, hy, hz, q⟩ := h
  cases rx
  cases ry
  obtain ⟨its, r, ⟨o1, n1, g1, c1, d1, e1⟩, _⟩ := I.list hx
  obtain ⟨its2, r2, ⟨o2, n2, g2, c2, d2, e2⟩, _⟩ := I.list hy
  obtain ⟨cls1, dd1, data1, sl1⟩ := o1
  obtain ⟨cls2, dd2, data2, sl2⟩ := o2
  simp only at c1 d1 e1 c2 d2 e2
  subst c1 d1 e1 c2 d2 e2
  have l1 := r.length
  have l2 := r2.length
  have en := PySem.F.entry_list_add
  have so := PySem.F.slot_list_add
  have ar := PySem.F.args_list_add_2 (.ref a) (.ref b)
  have me := list_addW a b its.toArray its2.toArray n1 n2 none none sl1 sl2 (by rw [List.size_toArray, List.size_toArray, ← l1, ← l2]; exact hz)
  refine concat_meets (hfill := noFill_list_add) (ha := ⟨_, g1, rfl⟩) (hb := ⟨_, g2, rfl⟩) (slot := so) (hseq := seq_list_add) (g := me) (entry := en) (args := ar) ⟨g1, g2, ?_⟩
  have ea : its.toArray ++ its2.toArray = (its ++ its2).toArray := by simp
  rw [ea]
  exact ⟨.ref _, _, I.lnew (t' := s.toks) (r.append r2) (by rw [List.length_append]; omega), rfl, q _ I.fresh⟩
def opCatL : List S → ORes
  | [s, u] => match lstS s, lstS u with
    | some xs, some ys => if xs.length + ys.length ≤ 100000 then .ok (.l (xs ++ ys)) [s, u] else .stuck
    | _, _ => .stuck
  | _ => .stuck
theorem os_catL : OpS G N W (r2L (rCatL G.K)) opCatL := fun σ ρ st H vs xs Q l h p => by
  match xs, p, h, l with
  | [s, u], p, h, l =>
    unfold opCatL at p
    simp only at p
    obtain ⟨v, w, ev, h1, h2⟩ := two l h
    subst ev
    cases e1 : lstS s with
    | none =>
      rw [e1] at p
      exact p.elim
    | some xs =>
      cases e2 : lstS u with
      | none =>
        rw [e1, e2] at p
        exact p.elim
      | some ys =>
        rw [e1, e2] at p
        simp only at p
        by_cases hz : xs.length + ys.length ≤ 100000
        · rw [if_pos hz] at p
          obtain ⟨b, ws, eb, sq2, l2, h4⟩ := h2.itemsL e2
          have h5 : Hs G N H σ ρ ((some v, s) :: (zs ws (ys.map .d) ++ ((some w, u) :: st))) := h4.perm (by
            have := (List.perm_middle (a := (some v, s)) (l₁ := zs ws (ys.map .d)) (l₂ := (some w, u) :: st)).symm
            refine List.Perm.trans ?_ this.symm
            exact List.Perm.append_left _ (.swap _ _ _))
          obtain ⟨a, vs, ea, sq1, l1, h6⟩ := h5.itemsL e1
          subst ea eb
          have h7 : Hs G N H σ ρ (zs (vs ++ ws) ((xs ++ ys).map .d) ++ (zs [.ref a, .ref b] [s, u] ++ st)) := by
            rw [List.map_append, zs_app (by simp [l1]), List.append_assoc]
            refine h6.perm (List.Perm.append_left _ ?_)
            exact List.perm_middle.symm
          exact ⟨a, b, vs, ws, rfl, rfl, sq1, sq2, by rw [l1, l2]; exact Nat.le_trans hz (by decide), fun q hq => p.2 _ _ (h7.newL (by simp [l1, l2]) hq)⟩
        · rw [if_neg hz] at p
          exact p.elim
theorem e_opCatL_ll (xs ys : List D) (h : xs.length + ys.length ≤ 100000) : opCatL [.l xs, .l ys] = .ok (.l (xs ++ ys)) [.l xs, .l ys] := if_pos h
theorem e_opCatL_dl (xs ys : List D) (h : xs.length + ys.length ≤ 100000) : opCatL [.d (.lst xs), .l ys] = .ok (.l (xs ++ ys)) [.d (.lst xs), .l ys] := if_pos h
theorem e_opCatL_ld (xs ys : List D) (h : xs.length + ys.length ≤ 100000) : opCatL [.l xs, .d (.lst ys)] = .ok (.l (xs ++ ys)) [.l xs, .d (.lst ys)] := if_pos h
theorem e_opCatL_dd (xs ys : List D) (h : xs.length + ys.length ≤ 100000) : opCatL [.d (.lst xs), .d (.lst ys)] = .ok (.l (xs ++ ys)) [.d (.lst xs), .d (.lst ys)] := if_pos h
end
end DL
namespace K02
open PySem PySem.Spec PyProof.Rows L2 DL
def tbl : List (Nat × Str) := [(7, "deed"), (1, "fill"), (2, "plan"), (0, "size"), (4, "no room"), (3, "no such"), (5, "no way"), (6, "text")]
/-! m_Cask_init: 0 self, 1 length, 2 ends, 3 middle, 4 thick -/
def b_m_Cask_init_5 : B := bFld 0 8 3 (mFrz 4)
def b_m_Cask_init_4 : B := bseq (bFld 0 8 2 (mFrz 3)) b_m_Cask_init_5
def b_m_Cask_init_3 : B := bseq (bFld 0 8 1 (mFrz 2)) b_m_Cask_init_4
def b_m_Cask_init_2 : B := bseq (bFld 0 8 0 (mFrz 1)) b_m_Cask_init_3
def b_m_Cask_init : B := bseq (bIf (mOr (mT (mOp (opI fLt) [.v (mOp (opI3 min3) [.b 1, .b 2, .b 4]), .v (mCon (.int 1))])) (mOr (mT (mOp (opI fLt) [.b 3, .b 2])) (mT (mOp (opI fGe) [.b 4, .b 2])))) ((fun ρ => .exc 0 .non ρ)) (bnx)) b_m_Cask_init_2
def op_m_Cask_init : List S → ORes := fnOp 5 5 [0, 1, 2, 3, 4] b_m_Cask_init
/-! m_Cask_bulge: 0 self -/
def b_m_Cask_bulge : B := bRet (mOp (opI fSub) [.v (mOp (opFld 8 2) [.b 0]), .v (mOp (opFld 8 1) [.b 0])])
def op_m_Cask_bulge : List S → ORes := fnOp 1 1 [0] b_m_Cask_bulge
/-! m_Cask_half_at: 0 self, 1 place, 2 gap -/
def b_m_Cask_half_at_3 : B := bRet (mOp (opI fSub) [.v (mOp (opFld 8 2) [.b 0]), .v (mOp (opI fDiv) [.v (mOp (opOr (opI fMulS) (opI fMul)) [.v (mOp (opOr (opI fMulS) (opI fMul)) [.v (mMeth 8 op_m_Cask_bulge (.b 0) []), .b 2]), .b 2]), .v (mOp (opOr (opI fMulS) (opI fMul)) [.v (mOp (opFld 8 0) [.b 0]), .v (mOp (opFld 8 0) [.b 0])])])])
def b_m_Cask_half_at_2 : B := bseq (bAsg 2 (mOp (opI fSub) [.v (mOp (opOr (opI fMulS) (opI fMul)) [.v (mCon (.int 2)), .b 1]), .v (mOp (opFld 8 0) [.b 0])])) b_m_Cask_half_at_3
def b_m_Cask_half_at : B := bseq (bIf (mNot (mT (mChain (fun i j => decide (i ≤ j)) (fun i j => decide (i ≤ j)) (mCon (.int 0)) (mFrz 1) (mOp (opFld 8 0) [.b 0])))) ((fun ρ => .exc 0 .non ρ)) (bnx)) b_m_Cask_half_at_2
def op_m_Cask_half_at : List S → ORes := fnOp 2 3 [0, 1] b_m_Cask_half_at
/-! m_Cask_slice_room: 0 self, 1 steps, 2 whole, 3 k, 4 half -/
def L_m_Cask_slice_room_1_2 : B := bAugI 2 (fun i j => i + j) (mOp (opOr (opI fMulS) (opI fMul)) [.b 4, .b 4])
def L_m_Cask_slice_room_1 : B := bseq (bAsg 4 (mOp (opI fSub) [.v (mMeth 8 op_m_Cask_half_at (.b 0) [.v (mOp (opI fDiv) [.v (mOp (opOr (opI fMulS) (opI fMul)) [.v (mOp (opOr (opI fAdd) opCatL) [.v (mOp (opOr (opI fMulS) (opI fMul)) [.v (mCon (.int 2)), .b 3]), .v (mCon (.int 1))]), .v (mOp (opFld 8 0) [.b 0])]), .v (mOp (opOr (opI fMulS) (opI fMul)) [.v (mCon (.int 2)), .b 1])])]), .v (mOp (opFld 8 3) [.b 0])])) L_m_Cask_slice_room_1_2
def b_m_Cask_slice_room_4 : B := bRet (mOp (opI fDiv) [.v (mOp (opOr (opI fMulS) (opI fMul)) [.b 2, .v (mOp (opFld 8 0) [.b 0])]), .b 1])
def b_m_Cask_slice_room_3 : B := bseq (bFor [.v (mFrz 1)] ioR1 (.n 3) (L_m_Cask_slice_room_1)) b_m_Cask_slice_room_4
def b_m_Cask_slice_room_2 : B := bseq (bAsg 2 (mCon (.int 0))) b_m_Cask_slice_room_3
def b_m_Cask_slice_room : B := bseq (bIf (mT (mOp (opI fLt) [.b 1, .v (mCon (.int 1))])) ((fun ρ => .exc 0 .non ρ)) (bnx)) b_m_Cask_slice_room_2
def op_m_Cask_slice_room : List S → ORes := fnOp 2 5 [0, 1] b_m_Cask_slice_room
/-! m_Cask_plain_room: 0 self, 1 wide, 2 narrow -/
def b_m_Cask_plain_room_2 : B := bRet (mOp (opI fDiv) [.v (mOp (opOr (opI fMulS) (opI fMul)) [.v (mOp (opOr (opI fAdd) opCatL) [.v (mOp (opOr (opI fMulS) (opI fMul)) [.v (mOp (opOr (opI fMulS) (opI fMul)) [.v (mCon (.int 2)), .b 1]), .b 1]), .v (mOp (opOr (opI fMulS) (opI fMul)) [.b 2, .b 2])]), .v (mOp (opFld 8 0) [.b 0])]), .v (mCon (.int 3))])
def b_m_Cask_plain_room : B := bseq (bPar [1, 2] [.v (mOp (opI fSub) [.v (mOp (opFld 8 2) [.b 0]), .v (mOp (opFld 8 3) [.b 0])]), .v (mOp (opI fSub) [.v (mOp (opFld 8 1) [.b 0]), .v (mOp (opFld 8 3) [.b 0])])]) b_m_Cask_plain_room_2
def op_m_Cask_plain_room : List S → ORes := fnOp 1 3 [0] b_m_Cask_plain_room
/-! m_Cask_scaled: 0 self, 1 top, 2 bottom, 3 sizes, 4 one -/
def C_m_Cask_scaled_1 : M S := mComp [4] [.v (mOp opTup [.v (mOp (opFld 8 0) [.b 0]), .v (mOp (opFld 8 1) [.b 0]), .v (mOp (opFld 8 2) [.b 0]), .v (mOp (opFld 8 3) [.b 0])])] ioA (.n 4) (mpure true) (mOp (opI fDiv) [.v (mOp (opOr (opI fMulS) (opI fMul)) [.b 4, .b 1]), .b 2])
def b_m_Cask_scaled_3 : B := bRet (mOp (mkOp 8 op_m_Cask_init) [.v (mOp opIx [.b 3, .v (mCon (.int 0))]), .v (mOp opIx [.b 3, .v (mCon (.int 1))]), .v (mOp opIx [.b 3, .v (mCon (.int 2))]), .v (mOp opIx [.b 3, .v (mCon (.int 3))])])
def b_m_Cask_scaled_2 : B := bseq (bAsg 3 (C_m_Cask_scaled_1)) b_m_Cask_scaled_3
def b_m_Cask_scaled : B := bseq (bIf (mOr (mT (mOp (opI fLt) [.b 1, .v (mCon (.int 1))])) (mT (mOp (opI fLt) [.b 2, .v (mCon (.int 1))]))) ((fun ρ => .exc 0 .non ρ)) (bnx)) b_m_Cask_scaled_2
def op_m_Cask_scaled : List S → ORes := fnOp 3 5 [0, 1, 2] b_m_Cask_scaled
/-! m_Cask_key: 0 self -/
def b_m_Cask_key : B := bRet (mOp opTup [.v (mOp (opFld 8 0) [.b 0]), .v (mOp (opFld 8 1) [.b 0]), .v (mOp (opFld 8 2) [.b 0]), .v (mOp (opFld 8 3) [.b 0])])
def op_m_Cask_key : List S → ORes := fnOp 1 1 [0] b_m_Cask_key
/-! f_around: 0 half -/
def b_f_around_2 : B := bRet (mOp (opI fDiv) [.v (mOp (opOr (opI fAdd) opCatL) [.v (mOp (opOr (opI fMulS) (opI fMul)) [.v (mOp (opOr (opI fMulS) (opI fMul)) [.v (mOp (opOr (opI fMulS) (opI fMul)) [.v (mCon (.int 2)), .v (mCon (.int 2))]), .b 0]), .v (mCon (.int 355))]), .v (mCon (.int 113))]), .v (mOp (opOr (opI fMulS) (opI fMul)) [.v (mCon (.int 2)), .v (mCon (.int 113))])])
def b_f_around : B := bseq (bIf (mT (mOp (opI fLt) [.b 0, .v (mCon (.int 0))])) ((fun ρ => .exc 0 .non ρ)) (bnx)) b_f_around_2
def op_f_around : List S → ORes := fnOp 1 1 [0] b_f_around
/-! f_staves_for: 0 half, 1 width -/
def b_f_staves_for_2 : B := bRet (mOp opTup [.v (mOp (opI fDiv) [.v (mOp op_f_around [.b 0]), .b 1]), .v (mOp (opI fMod) [.v (mOp op_f_around [.b 0]), .b 1])])
def b_f_staves_for : B := bseq (bIf (mT (mOp (opI fLt) [.b 1, .v (mCon (.int 1))])) ((fun ρ => .exc 0 .non ρ)) (bnx)) b_f_staves_for_2
def op_f_staves_for : List S → ORes := fnOp 2 2 [0, 1] b_f_staves_for
/-! f_tapered: 0 cask, 1 many -/
def b_f_tapered_2 : B := bRet (mOp opTup [.v (mOp (opI fDiv) [.v (mOp op_f_around [.v (mOp (opFld 8 1) [.b 0])]), .b 1]), .v (mOp (opI fDiv) [.v (mOp op_f_around [.v (mOp (opFld 8 2) [.b 0])]), .b 1])])
def b_f_tapered : B := bseq (bIf (mT (mOp (opI fLt) [.b 1, .v (mCon (.int 3))])) ((fun ρ => .exc 0 .non ρ)) (bnx)) b_f_tapered_2
def op_f_tapered : List S → ORes := fnOp 2 2 [0, 1] b_f_tapered
/-! f_even_round: 0 total, 1 many, 2 k -/
def C_f_even_round_1 : M S := mComp [2] [.v (mFrz 1)] ioR1 (.n 2) (mpure true) (mOp (opOr (opI fAdd) opCatL) [.v (mOp (opI fDiv) [.b 0, .b 1]), .v (mIf (mT (mOp (opI fLt) [.b 2, .v (mOp (opI fMod) [.b 0, .b 1])])) (mCon (.int 1)) (mCon (.int 0)))])
def b_f_even_round_2 : B := bRet (mOp (opTuple) [.v (C_f_even_round_1)])
def b_f_even_round : B := bseq (bIf (mOr (mT (mOp (opI fLt) [.b 1, .v (mCon (.int 1))])) (mT (mOp (opI fLt) [.b 0, .b 1]))) ((fun ρ => .exc 0 .non ρ)) (bnx)) b_f_even_round_2
def op_f_even_round : List S → ORes := fnOp 2 3 [0, 1] b_f_even_round
/-! f_alternated: 0 widths, 1 rows, 2 found -/
def W_f_alternated_1 : M Bool := mT (mOp (opEq true) [.b 1, .v (mOp opLst [])])
def L_f_alternated_1_2 : B := bIf (mT (mOp (opEq true) [.b 1, .v (mOp opLst [])])) (bExp (mBm "list" opApp (.b 2) [.v (mBm "list" opPop (.b 1) [])])) (bnx)
def L_f_alternated_1 : B := bseq (bExp (mBm "list" opApp (.b 2) [.v (mBm "list" opPopAt (.b 1) [.v (mCon (.int 0))])])) L_f_alternated_1_2
def b_f_alternated_3 : B := bRet (mOp (opTuple) [.b 2])
def b_f_alternated_2 : B := bseq (whileL W_f_alternated_1 (L_f_alternated_1) 100000) b_f_alternated_3
def b_f_alternated : B := bseq (bPar [1, 2] [.v (mOp (opSorted true) [.b 0]), .v (mOp opLst [])]) b_f_alternated_2
def op_f_alternated : List S → ORes := fnOp 1 3 [0] b_f_alternated
/-! m_Head_init: 0 self, 1 half, 2 boards -/
def b_m_Head_init_4 : B := bFld 0 9 1 (mOp (opTuple) [.b 2])
def b_m_Head_init_3 : B := bseq (bFld 0 9 0 (mFrz 1)) b_m_Head_init_4
def b_m_Head_init_2 : B := bseq (bIf (mOr (mT (mOp (opI fLt) [.v (mOp (opSum) [.b 2]), .v (mOp (opOr (opI fMulS) (opI fMul)) [.v (mCon (.int 2)), .b 1])])) (mT (mOp (opI fGe) [.v (mOp (opSum) [.v (mSlice (mFrz 2) none (some (mOp opNeg [.v (mCon (.int 1))])))]), .v (mOp (opOr (opI fMulS) (opI fMul)) [.v (mCon (.int 2)), .b 1])]))) ((fun ρ => .exc 2 .non ρ)) (bnx)) b_m_Head_init_3
def b_m_Head_init : B := bseq (bIf (mOr (mT (mOp (opI fLt) [.b 1, .v (mCon (.int 1))])) (mOr (mT (mOp (opEq false) [.v (mOp (opLen) [.b 2]), .v (mCon (.int 0))])) (mT (mOp (opI fLt) [.v (mOp (opMin) [.b 2]), .v (mCon (.int 1))])))) ((fun ρ => .exc 0 .non ρ)) (bnx)) b_m_Head_init_2
def op_m_Head_init : List S → ORes := fnOp 3 3 [0, 1, 2] b_m_Head_init
/-! m_Head_over: 0 self -/
def b_m_Head_over : B := bRet (mOp (opI fSub) [.v (mOp (opSum) [.v (mOp (opFld 9 1) [.b 0])]), .v (mOp (opOr (opI fMulS) (opI fMul)) [.v (mCon (.int 2)), .v (mOp (opFld 9 0) [.b 0])])])
def op_m_Head_over : List S → ORes := fnOp 1 1 [0] b_m_Head_over
/-! m_Head_lengths: 0 self, 1 found, 2 here, 3 board, 4 near, 5 square, 6 root -/
def W_m_Head_lengths_2 : M Bool := mT (mOp (opI fLt) [.v (mOp (opOr (opI fMulS) (opI fMul)) [.b 6, .b 6]), .b 5])
def L_m_Head_lengths_2 : B := bAugI 6 (fun i j => i + j) (mCon (.int 1))
def L_m_Head_lengths_1_6 : B := bAugI 2 (fun i j => i + j) (mFrz 3)
def L_m_Head_lengths_1_5 : B := bseq (bExp (mBm "list" opApp (.b 1) [.v (mOp (opOr (opI fMulS) (opI fMul)) [.v (mCon (.int 2)), .b 6])])) L_m_Head_lengths_1_6
def L_m_Head_lengths_1_4 : B := bseq (whileL W_m_Head_lengths_2 (L_m_Head_lengths_2) 100000) L_m_Head_lengths_1_5
def L_m_Head_lengths_1_3 : B := bseq (bAsg 6 (mCon (.int 0))) L_m_Head_lengths_1_4
def L_m_Head_lengths_1_2 : B := bseq (bAsg 5 (mOp (opI fMax) [.v (mCon (.int 0)), .v (mOp (opI fSub) [.v (mOp (opOr (opI fMulS) (opI fMul)) [.v (mOp (opFld 9 0) [.b 0]), .v (mOp (opFld 9 0) [.b 0])]), .v (mOp (opOr (opI fMulS) (opI fMul)) [.b 4, .b 4])])])) L_m_Head_lengths_1_3
def L_m_Head_lengths_1 : B := bseq (bAsg 4 (mIf (mT (mChain (fun i j => decide (i ≤ j)) (fun i j => decide (i ≤ j)) (mFrz 2) (mCon (.int 0)) (mOp (opOr (opI fAdd) opCatL) [.b 2, .b 3]))) (mCon (.int 0)) (mOp (opI fMin) [.v (mOp (opF1 fAbs) [.b 2]), .v (mOp (opF1 fAbs) [.v (mOp (opOr (opI fAdd) opCatL) [.b 2, .b 3])])]))) L_m_Head_lengths_1_2
def b_m_Head_lengths_3 : B := bRet (mOp (opTuple) [.b 1])
def b_m_Head_lengths_2 : B := bseq (bFor [.v (mOp (opFld 9 1) [.b 0])] ioA (.n 3) (L_m_Head_lengths_1)) b_m_Head_lengths_3
def b_m_Head_lengths : B := bseq (bPar [1, 2] [.v (mOp opLst []), .v (mOp (opI fSub) [.v (mOp (opI fSub) [.v (mCon (.int 0)), .v (mOp (opFld 9 0) [.b 0])]), .v (mOp (opI fDiv) [.v (mMeth 9 op_m_Head_over (.b 0) []), .v (mCon (.int 2))])])]) b_m_Head_lengths_2
def op_m_Head_lengths : List S → ORes := fnOp 1 7 [0] b_m_Head_lengths
/-! m_Hoops_lengths: 0 self, 1 place -/
def C_m_Hoops_lengths_1 : M S := mComp [1] [.v (mOp (opFld 10 1) [.b 0])] ioA (.n 1) (mpure true) (mOp (opOr (opI fAdd) opCatL) [.v (mOp op_f_around [.v (mMeth 8 op_m_Cask_half_at (.v (mOp (opFld 10 0) [.b 0])) [.v (mOp (opOr (opI fAdd) opCatL) [.b 1, .v (mOp (opI fDiv) [.v (mOp (opFld 10 2) [.b 0]), .v (mCon (.int 2))])])])]), .v (mOp (opFld 10 3) [.b 0])])
def b_m_Hoops_lengths : B := bRet (mOp (opTuple) [.v (C_m_Hoops_lengths_1)])
def op_m_Hoops_lengths : List S → ORes := fnOp 1 2 [0] b_m_Hoops_lengths
/-! m_Head_pegs: 0 self, 1 gap, 2 sizes -/
def C_m_Head_pegs_1 : M S := mSum 1 [.v (mCon (.int 1)), .v (mOp (opLen) [.b 2])] ioR2 (.n 0) (mpure true) (mOp (opI fMax) [.v (mCon (.int 1)), .v (mOp (opI fDiv) [.v (mOp (opI fMin) [.v (mOp opIx [.b 3, .b 0]), .v (mOp opIx [.b 3, .v (mOp (opI fSub) [.b 0, .v (mCon (.int 1))])])]), .b 2])])
def b_m_Head_pegs_3 : B := bRet (C_m_Head_pegs_1)
def b_m_Head_pegs_2 : B := bseq (bAsg 2 (mMeth 9 op_m_Head_lengths (.b 0) [])) b_m_Head_pegs_3
def b_m_Head_pegs : B := bseq (bIf (mT (mOp (opI fLt) [.b 1, .v (mCon (.int 1))])) ((fun ρ => .exc 0 .non ρ)) (bnx)) b_m_Head_pegs_2
def op_m_Head_pegs : List S → ORes := fnOp 2 3 [0, 1] b_m_Head_pegs
/-! m_Head_key: 0 self -/
def b_m_Head_key : B := bRet (mOp opTup [.v (mOp (opFld 9 0) [.b 0]), .v (mOp (opFld 9 1) [.b 0])])
def op_m_Head_key : List S → ORes := fnOp 1 1 [0] b_m_Head_key
/-! f_head_boards: 0 half, 1 widths, 2 found, 3 width -/
def L_f_head_boards_1_2 : B := bExp (mBm "list" opApp (.b 2) [.b 3])
def L_f_head_boards_1 : B := bseq (bIf (mT (mOp (opI fGe) [.v (mOp (opSum) [.b 2]), .v (mOp (opOr (opI fMulS) (opI fMul)) [.v (mCon (.int 2)), .b 0])])) ((fun ρ => .bk ρ)) (bnx)) L_f_head_boards_1_2
def b_f_head_boards_4 : B := bRet (mOp (opTuple) [.b 2])
def b_f_head_boards_3 : B := bseq (bIf (mT (mOp (opI fLt) [.v (mOp (opSum) [.b 2]), .v (mOp (opOr (opI fMulS) (opI fMul)) [.v (mCon (.int 2)), .b 0])])) ((fun ρ => .exc 5 .non ρ)) (bnx)) b_f_head_boards_4
def b_f_head_boards_2 : B := bseq (bFor [.v (mOp (opSorted true) [.b 1])] ioA (.n 3) (L_f_head_boards_1)) b_f_head_boards_3
def b_f_head_boards : B := bseq (bAsg 2 (mOp opLst [])) b_f_head_boards_2
def op_f_head_boards : List S → ORes := fnOp 2 4 [0, 1] b_f_head_boards
/-! m_Hoops_init: 0 self, 1 cask, 2 places, 3 wide, 4 lap -/
def C_m_Hoops_init_1 : M S := mAny 1 [.v (mCon (.int 1)), .v (mOp (opLen) [.b 2])] ioR2 (.n 0) (mpure true) (mOp (opI fLe) [.v (mOp opIx [.b 3, .b 0]), .v (mOp opIx [.b 3, .v (mOp (opI fSub) [.b 0, .v (mCon (.int 1))])])])
def C_m_Hoops_init_2 : M S := mAny 1 [.v (mFrz 2)] ioA (.n 0) (mpure true) (mNotV (mChain (fun i j => decide (i ≤ j)) (fun i j => decide (i ≤ j)) (mCon (.int 0)) (mFrz 0) (mOp (opI fSub) [.v (mOp (opFld 8 0) [.b 2]), .b 4])))
def C_m_Hoops_init_3 : M S := mAny 1 [.v (mCon (.int 1)), .v (mOp (opLen) [.b 2])] ioR2 (.n 0) (mpure true) (mOp (opI fLt) [.v (mOp (opI fSub) [.v (mOp opIx [.b 3, .b 0]), .v (mOp opIx [.b 3, .v (mOp (opI fSub) [.b 0, .v (mCon (.int 1))])])]), .b 4])
def b_m_Hoops_init_7 : B := bFld 0 10 3 (mFrz 4)
def b_m_Hoops_init_6 : B := bseq (bFld 0 10 2 (mFrz 3)) b_m_Hoops_init_7
def b_m_Hoops_init_5 : B := bseq (bFld 0 10 1 (mOp (opTuple) [.b 2])) b_m_Hoops_init_6
def b_m_Hoops_init_4 : B := bseq (bFld 0 10 0 (mFrz 1)) b_m_Hoops_init_5
def b_m_Hoops_init_3 : B := bseq (bIf (mT (C_m_Hoops_init_3)) ((fun ρ => .exc 2 .non ρ)) (bnx)) b_m_Hoops_init_4
def b_m_Hoops_init_2 : B := bseq (bIf (mT (C_m_Hoops_init_2)) ((fun ρ => .exc 0 .non ρ)) (bnx)) b_m_Hoops_init_3
def b_m_Hoops_init : B := bseq (bIf (mOr (mT (mOp (opI fLt) [.b 3, .v (mCon (.int 1))])) (mOr (mT (mOp (opI fLt) [.b 4, .v (mCon (.int 0))])) (mT (C_m_Hoops_init_1)))) ((fun ρ => .exc 2 .non ρ)) (bnx)) b_m_Hoops_init_2
def op_m_Hoops_init : List S → ORes := fnOp 5 5 [0, 1, 2, 3, 4] b_m_Hoops_init
/-! m_Hoops_iron: 0 self -/
def b_m_Hoops_iron : B := bRet (mOp (opSum) [.v (mMeth 10 op_m_Hoops_lengths (.b 0) [])])
def op_m_Hoops_iron : List S → ORes := fnOp 1 1 [0] b_m_Hoops_iron
/-! m_Hoops_driven: 0 self, 1 steps, 2 found, 3 half, 4 place -/
def L_m_Hoops_driven_1 : B := bExp (mBm "list" opApp (.b 2) [.v (mIf (mT (mOp (opI fLe) [.b 4, .b 3])) (mOp (opI fMin) [.b 3, .v (mOp (opOr (opI fAdd) opCatL) [.b 4, .b 1])]) (mOp (opI fMax) [.b 3, .v (mOp (opI fSub) [.b 4, .b 1])]))])
def b_m_Hoops_driven_4 : B := bRet (mOp (opTuple) [.b 2])
def b_m_Hoops_driven_3 : B := bseq (bFor [.v (mOp (opFld 10 1) [.b 0])] ioA (.n 4) (L_m_Hoops_driven_1)) b_m_Hoops_driven_4
def b_m_Hoops_driven_2 : B := bseq (bAsg 3 (mOp (opI fDiv) [.v (mOp (opI fSub) [.v (mOp (opFld 8 0) [.v (mOp (opFld 10 0) [.b 0])]), .v (mOp (opFld 10 2) [.b 0])]), .v (mCon (.int 2))])) b_m_Hoops_driven_3
def b_m_Hoops_driven : B := bseq (bAsg 2 (mOp opLst [])) b_m_Hoops_driven_2
def op_m_Hoops_driven : List S → ORes := fnOp 2 5 [0, 1] b_m_Hoops_driven
/-! m_Hoops_mirrored: 0 self, 1 back, 2 place -/
def C_m_Hoops_mirrored_1 : M S := mComp [2] [.v (mOp (opFld 10 1) [.b 0])] ioRvA (.n 2) (mpure true) (mOp (opI fSub) [.v (mOp (opI fSub) [.v (mOp (opFld 8 0) [.v (mOp (opFld 10 0) [.b 0])]), .v (mOp (opFld 10 2) [.b 0])]), .b 2])
def b_m_Hoops_mirrored_2 : B := bRet (mOp (opEq false) [.b 1, .v (mOp (opFld 10 1) [.b 0])])
def b_m_Hoops_mirrored : B := bseq (bAsg 1 (mOp (opTuple) [.v (C_m_Hoops_mirrored_1)])) b_m_Hoops_mirrored_2
def op_m_Hoops_mirrored : List S → ORes := fnOp 1 3 [0] b_m_Hoops_mirrored
/-! m_Hoops_widest_gap: 0 self, 1 marks, 2 k -/
def C_m_Hoops_widest_gap_1 : M S := mComp [2] [.v (mCon (.int 1)), .v (mOp (opLen) [.b 1])] ioR2 (.n 2) (mpure true) (mOp (opI fSub) [.v (mOp (opI fSub) [.v (mOp opIx [.b 1, .b 2]), .v (mOp opIx [.b 1, .v (mOp (opI fSub) [.b 2, .v (mCon (.int 1))])])]), .v (mOp (opFld 10 2) [.b 0])])
def b_m_Hoops_widest_gap_2 : B := bRet (mOp (opMax) [.v (C_m_Hoops_widest_gap_1)])
def b_m_Hoops_widest_gap : B := bseq (bAsg 1 (mOp (opOr (opI fAdd) opCatL) [.v (mOp (opOr (opI fAdd) opCatL) [.v (mOp opLst [.v (mOp (opI fSub) [.v (mCon (.int 0)), .v (mOp (opFld 10 2) [.b 0])])]), .v (mOp (opList) [.v (mOp (opFld 10 1) [.b 0])])]), .v (mOp opLst [.v (mOp (opFld 8 0) [.v (mOp (opFld 10 0) [.b 0])])])])) b_m_Hoops_widest_gap_2
def op_m_Hoops_widest_gap : List S → ORes := fnOp 1 3 [0] b_m_Hoops_widest_gap
/-! m_Hoops_key: 0 self -/
def b_m_Hoops_key : B := bRet (mOp opTup [.v (mMeth 8 op_m_Cask_key (.v (mOp (opFld 10 0) [.b 0])) []), .v (mOp (opFld 10 1) [.b 0]), .v (mOp (opFld 10 2) [.b 0]), .v (mOp (opFld 10 3) [.b 0])])
def op_m_Hoops_key : List S → ORes := fnOp 1 1 [0] b_m_Hoops_key
/-! f_strips_for: 0 lengths, 1 strip, 2 left, 3 length, 4 fits, 5 k, 6 size -/
def C_f_strips_for_1 : M S := mComp [5, 6] [.b 2] ioEn (.t [.n 5, .n 6]) (mT (mOp (opI fGe) [.b 6, .b 3])) (mFrz 5)
def L_f_strips_for_1_3 : B := bIf (mT (mOp (opEq false) [.b 4, .v (mOp opLst [])])) (bExp (mBm "list" opApp (.b 2) [.v (mOp (opI fSub) [.b 1, .b 3])])) (bAugS 2 (fun i j => i - j) (mOp opIx [.b 4, .v (mCon (.int 0))]) (mFrz 3))
def L_f_strips_for_1_2 : B := bseq (bAsg 4 (C_f_strips_for_1)) L_f_strips_for_1_3
def L_f_strips_for_1 : B := bseq (bIf (mT (mOp (opI fGt) [.b 3, .b 1])) ((fun ρ => .exc 5 .non ρ)) (bnx)) L_f_strips_for_1_2
def b_f_strips_for_3 : B := bRet (mOp (opLen) [.b 2])
def b_f_strips_for_2 : B := bseq (bFor [.v (mOp (opSorted true) [.b 0])] ioA (.n 3) (L_f_strips_for_1)) b_f_strips_for_3
def b_f_strips_for : B := bseq (bAsg 2 (mOp opLst [])) b_f_strips_for_2
def op_f_strips_for : List S → ORes := fnOp 2 7 [0, 1] b_f_strips_for
/-! f_law_dice: 0 cell -/
def b_f_law_dice_2 : B := bRet (mOp opLst [.b 0, .v (mOp (opOr (opI fAdd) opCatL) [.v (mCon (.int 1)), .v (mOp (opI fMod) [.v (mOp (opInt) [.b 0]), .v (mCon (.int 1009))])]), .v (mOp (opInt) [.v (mOp (opI fGe) [.b 0, .v (mOp (opI fPow) [.v (mCon (.int 10)), .v (mCon (.int 18))])])])])
def b_f_law_dice : B := bseq (bIf (mT (mChain (fun i j => decide (i < j)) (fun i j => decide (i < j)) (mOp (opI fSub) [.v (mCon (.int 0)), .v (mCon (.int 10))]) (mFrz 0) (mCon (.int 10)))) (bRet (mOp opLst [.v (mOp (opF1 fAbs) [.b 0]), .v (mCon (.int 0)), .v (mCon (.int 2))])) (bnx)) b_f_law_dice_2
def op_f_law_dice : List S → ORes := fnOp 1 1 [0] b_f_law_dice
/-! f_law_roll: 0 dice, 1 many, 2 found -/
def b_f_law_roll_5 : B := bRet (mOp (opI fMod) [.v (mOp (opInt) [.v (mOp (opOr (opI fAdd) opCatL) [.v (mOp (opI fDiv) [.v (mOp opIx [.b 0, .v (mCon (.int 0))]), .v (mCon (.int 7))]), .v (mOp opIx [.b 0, .v (mCon (.int 0))])])]), .b 1])
def b_f_law_roll_4 : B := bseq (bExp (mOp opSetL [.v (mOp (opOr (opI fAdd) opCatL) [.v (mOp opIx [.b 0, .v (mCon (.int 1))]), .v (mCon (.int 1))]), .b 0, .v (mCon (.int 1))])) b_f_law_roll_5
def b_f_law_roll_3 : B := bseq (bExp (mOp opSetL [.v (mOp (opI fMod) [.v (mOp (opInt) [.v (mOp (opOr (opI fAdd) opCatL) [.v (mOp (opOr (opI fAdd) opCatL) [.v (mOp (opOr (opI fMulS) (opI fMul)) [.v (mOp opIx [.b 0, .v (mCon (.int 0))]), .v (mCon (.int 48271))]), .v (mOp (opOr (opI fMulS) (opI fMul)) [.v (mOp opIx [.b 0, .v (mCon (.int 1))]), .v (mCon (.int 69621))])]), .v (mCon (.int 11))])]), .v (mCon (.int 2147483647))]), .b 0, .v (mCon (.int 0))])) b_f_law_roll_4
def b_f_law_roll_2 : B := bseq (bExp (mOp opSetL [.v (mCon (.int 0)), .b 0, .v (mCon (.int 2))])) b_f_law_roll_3
def b_f_law_roll : B := bseq (bIf (mOr (mT (mOp (opEq false) [.v (mOp opIx [.b 0, .v (mCon (.int 2))]), .v (mCon (.int 2))])) (mAnd (mT (mOp (opEq false) [.v (mOp opIx [.b 0, .v (mCon (.int 2))]), .v (mCon (.int 1))])) (mT (mOp (opI fGt) [.v (mOp opIx [.b 0, .v (mCon (.int 0))]), .v (mCon (.int 0))])))) (bseq (bAsg 2 (mOp (opI fMod) [.v (mOp (opInt) [.v (mOp opIx [.b 0, .v (mCon (.int 0))])]), .b 1])) (bseq (bExp (mOp opSetL [.v (mOp (opI fDiv) [.v (mOp opIx [.b 0, .v (mCon (.int 0))]), .b 1]), .b 0, .v (mCon (.int 0))])) (bRet (mMov 2)))) (bnx)) b_f_law_roll_2
def op_f_law_roll : List S → ORes := fnOp 2 3 [0, 1] b_f_law_roll
/-! f_law_rounds: 0 script, 1 most, 2 cells, 3 cell -/
def C_f_law_rounds_1 : M S := mComp [3] [.v (mFrz 2)] ioA (.n 3) (mpure true) (mOp op_f_law_dice [.b 3])
def b_f_law_rounds_3 : B := bRet (C_f_law_rounds_1)
def b_f_law_rounds_2 : B := bseq (bIf (mT (mOp (opEq false) [.b 2, .v (mOp opLst [])])) (bAsg 2 (mOp opLst [.v (mCon (.int 0))])) (bnx)) b_f_law_rounds_3
def b_f_law_rounds : B := bseq (bAsg 2 (mSlice (mFrz 0) none (some (mFrz 1)))) b_f_law_rounds_2
def op_f_law_rounds : List S → ORes := fnOp 2 4 [0, 1] b_f_law_rounds
/-! f_law_half: 0 cask, 1 place, 2 length, 3 ends, 4 middle, 5 thick, 6 gap -/
def b_f_law_half_3 : B := bRet (mOp (opI fSub) [.b 4, .v (mOp (opI fDiv) [.v (mOp (opOr (opI fMulS) (opI fMul)) [.v (mOp (opOr (opI fMulS) (opI fMul)) [.v (mOp (opI fSub) [.b 4, .b 3]), .b 6]), .b 6]), .v (mOp (opOr (opI fMulS) (opI fMul)) [.b 2, .b 2])])])
def b_f_law_half_2 : B := bseq (bAsg 6 (mOp (opI fSub) [.b 2, .v (mOp (opOr (opI fMulS) (opI fMul)) [.v (mCon (.int 2)), .b 1])])) b_f_law_half_3
def b_f_law_half : B := bseq (bAsgT (.t [.n 2, .n 3, .n 4, .n 5]) (mFrz 0)) b_f_law_half_2
def op_f_law_half : List S → ORes := fnOp 2 7 [0, 1] b_f_law_half
/-! f_law_round: 0 half -/
def b_f_law_round : B := bRet (mOp (opI fDiv) [.v (mOp (opOr (opI fAdd) opCatL) [.v (mOp (opOr (opI fMulS) (opI fMul)) [.v (mOp (opOr (opI fMulS) (opI fMul)) [.v (mCon (.int 710)), .v (mCon (.int 2))]), .b 0]), .v (mCon (.int 113))]), .v (mCon (.int 226))])
def op_f_law_round : List S → ORes := fnOp 1 1 [0] b_f_law_round
/-! f_law_cases1:  -/
def b_f_law_cases1_7 : B := bRet (mCon (.bl true))
def b_f_law_cases1_6 : B := bseq (bIf (mT (mOp (opEq true) [.v (mTold tbl (mOp op_f_staves_for [.v (mCon (.int 1)), .v (mCon (.int 0))])), .v (mCon (.str "size"))])) (bRet (mCon (.bl false))) (bnx)) b_f_law_cases1_7
def b_f_law_cases1_5 : B := bseq (bIf (mT (mOp (opEq true) [.v (mTold tbl (mOp op_f_around [.v (mOp (opI fSub) [.v (mCon (.int 0)), .v (mCon (.int 1))])])), .v (mCon (.str "size"))])) (bRet (mCon (.bl false))) (bnx)) b_f_law_cases1_6
def b_f_law_cases1_4 : B := bseq (bIf (mT (mOp (opEq true) [.v (mTold tbl (mOp (mkOp 9 op_m_Head_init) [.v (mCon (.int 2)), .v (mOp opLst [.v (mCon (.int 4)), .v (mCon (.int 1))])])), .v (mCon (.str "plan"))])) (bRet (mCon (.bl false))) (bnx)) b_f_law_cases1_5
def b_f_law_cases1_3 : B := bseq (bIf (mT (mOp (opEq true) [.v (mTold tbl (mOp (mkOp 9 op_m_Head_init) [.v (mCon (.int 5)), .v (mOp opLst [.v (mCon (.int 4)), .v (mCon (.int 4))])])), .v (mCon (.str "plan"))])) (bRet (mCon (.bl false))) (bnx)) b_f_law_cases1_4
def b_f_law_cases1_2 : B := bseq (bIf (mT (mOp (opEq true) [.v (mTold tbl (mOp op_f_even_round [.v (mCon (.int 1)), .v (mCon (.int 2))])), .v (mCon (.str "size"))])) (bRet (mCon (.bl false))) (bnx)) b_f_law_cases1_3
def b_f_law_cases1 : B := bseq (bIf (mT (mOp (opEq true) [.v (mTold tbl (mOp (mkOp 8 op_m_Cask_init) [.v (mCon (.int 1)), .v (mCon (.int 2)), .v (mCon (.int 1)), .v (mCon (.int 1))])), .v (mCon (.str "size"))])) (bRet (mCon (.bl false))) (bnx)) b_f_law_cases1_2
def op_f_law_cases1 : List S → ORes := fnOp 0 0 [] b_f_law_cases1
/-! f_law_rest2: 0 row, 1 cask -/
def b_f_law_rest2_8 : B := bRet (mCon (.bl true))
def b_f_law_rest2_7 : B := bseq (bIf (mT (mOp (opEq true) [.v (mTold tbl (mOp (mkOp 10 op_m_Hoops_init) [.b 1, .v (mOp opLst [.v (mCon (.int 1)), .v (mCon (.int 1))]), .v (mCon (.int 1)), .v (mCon (.int 0))])), .v (mCon (.str "plan"))])) (bRet (mCon (.bl false))) (bnx)) b_f_law_rest2_8
def b_f_law_rest2_6 : B := bseq (bIf (mT (mOp (opEq true) [.v (mTold tbl (mOp op_f_strips_for [.v (mOp opLst [.v (mCon (.int 5))]), .v (mCon (.int 4))])), .v (mCon (.str "no way"))])) (bRet (mCon (.bl false))) (bnx)) b_f_law_rest2_7
def b_f_law_rest2_5 : B := bseq (bIf (mT (mOp (opEq true) [.v (mTold tbl (mOp (mkOp 10 op_m_Hoops_init) [.b 1, .v (mOp opLst [.v (mCon (.int 0)), .v (mCon (.int 1))]), .v (mCon (.int 2)), .v (mCon (.int 0))])), .v (mCon (.str "plan"))])) (bRet (mCon (.bl false))) (bnx)) b_f_law_rest2_6
def b_f_law_rest2_4 : B := bseq (bIf (mT (mOp (opEq true) [.v (mTold tbl (mOp (mkOp 10 op_m_Hoops_init) [.b 1, .v (mOp opLst [.v (mOp opIx [.b 0, .v (mCon (.int 0))])]), .v (mCon (.int 1)), .v (mCon (.int 0))])), .v (mCon (.str "size"))])) (bRet (mCon (.bl false))) (bnx)) b_f_law_rest2_5
def b_f_law_rest2_3 : B := bseq (bIf (mT (mOp (opEq true) [.v (mTold tbl (mOp op_f_tapered [.b 1, .v (mCon (.int 2))])), .v (mCon (.str "size"))])) (bRet (mCon (.bl false))) (bnx)) b_f_law_rest2_4
def b_f_law_rest2_2 : B := bseq (bIf (mT (mOp (opEq true) [.v (mTold tbl (mMeth 8 op_m_Cask_half_at (.b 1) [.v (mOp (opOr (opI fAdd) opCatL) [.v (mOp opIx [.b 0, .v (mCon (.int 0))]), .v (mCon (.int 1))])])), .v (mCon (.str "size"))])) (bRet (mCon (.bl false))) (bnx)) b_f_law_rest2_3
def b_f_law_rest2 : B := bseq (bIf (mNot (mT (mOp op_f_law_cases1 []))) (bRet (mCon (.bl false))) (bnx)) b_f_law_rest2_2
def op_f_law_rest2 : List S → ORes := fnOp 2 2 [0, 1] b_f_law_rest2
/-! f_law_rest1: 0 dice, 1 row, 2 cask, 3 iron, 4 lap, 5 places, 6 here, 7 k, 8 hoops, 9 sizes, 10 place, 11 push, 12 middle, 13 marks, 14 ends, 15 strip, 16 left, 17 size, 18 fits -/
def L_f_law_rest1_1_2 : B := bAsg 6 (mOp (opOr (opI fAdd) opCatL) [.v (mOp (opOr (opI fAdd) opCatL) [.b 6, .b 3]), .v (mOp op_f_law_roll [.b 0, .v (mCon (.int 9))])])
def L_f_law_rest1_1 : B := bseq (bIf (mT (mOp (opI fLe) [.b 6, .v (mOp (opI fSub) [.v (mOp opIx [.b 1, .v (mCon (.int 0))]), .b 3])])) (bExp (mBm "list" opApp (.b 5) [.b 6])) (bnx)) L_f_law_rest1_1_2
def C_f_law_rest1_1 : M S := mComp [10] [.v (mFrz 5)] ioA (.n 10) (mpure true) (mOp (opOr (opI fAdd) opCatL) [.v (mOp op_f_law_round [.v (mOp op_f_law_half [.b 1, .v (mOp (opOr (opI fAdd) opCatL) [.b 10, .v (mOp (opI fDiv) [.b 3, .v (mCon (.int 2))])])])]), .b 4])
def C_f_law_rest1_2 : M S := mComp [10] [.v (mFrz 5)] ioA (.n 10) (mpure true) (mIf (mT (mOp (opI fLe) [.b 10, .b 12])) (mOp (opI fMin) [.b 12, .v (mOp (opOr (opI fAdd) opCatL) [.b 10, .b 11])]) (mOp (opI fMax) [.b 12, .v (mOp (opI fSub) [.b 10, .b 11])]))
def C_f_law_rest1_3 : M S := mComp [10] [.v (mFrz 5)] ioA (.n 10) (mpure true) (mOp (opI fSub) [.v (mOp (opI fSub) [.v (mOp opIx [.b 1, .v (mCon (.int 0))]), .b 3]), .b 10])
def C_f_law_rest1_4 : M S := mComp [10] [.v (mFrz 5)] ioA (.n 10) (mpure true) (mOp (opOr (opI fAdd) opCatL) [.b 10, .b 3])
def C_f_law_rest1_5 : M S := mComp [7] [.v (mOp (opLen) [.b 13])] ioR1 (.n 7) (mpure true) (mOp (opI fSub) [.v (mOp opIx [.b 14, .b 7]), .v (mOp opIx [.b 13, .b 7])])
def C_f_law_rest1_6 : M S := mComp [7] [.v (mOp (opLen) [.b 16])] ioR1 (.n 7) (mT (mOp (opI fGe) [.v (mOp opIx [.b 16, .b 7]), .b 17])) (mFrz 7)
def L_f_law_rest1_2_3 : B := bIf (mT (mOp (opEq true) [.b 18, .v (mOp opLst [])])) (bExp (mOp opSetL [.v (mOp (opI fSub) [.v (mOp opIx [.b 16, .v (mOp opIx [.b 18, .v (mCon (.int 0))])]), .b 17]), .b 16, .v (mOp opIx [.b 18, .v (mCon (.int 0))])])) (bnx)
def L_f_law_rest1_2_2 : B := bseq (bAsg 16 (mOp (opOr (opI fAdd) opCatL) [.b 16, .v (mIf (mT (mOp (opEq false) [.b 18, .v (mOp opLst [])])) (mOp opLst [.v (mOp (opI fSub) [.b 15, .b 17])]) (mOp opLst []))])) L_f_law_rest1_2_3
def L_f_law_rest1_2 : B := bseq (bAsg 18 (C_f_law_rest1_6)) L_f_law_rest1_2_2
def b_f_law_rest1_15 : B := bRet (mOp op_f_law_rest2 [.b 1, .b 2])
def b_f_law_rest1_14 : B := bseq (bIf (mT (mOp (opEq true) [.v (mOp op_f_strips_for [.b 9, .b 15]), .v (mOp (opLen) [.b 16])])) (bRet (mCon (.bl false))) (bnx)) b_f_law_rest1_15
def b_f_law_rest1_13 : B := bseq (bFor [.v (mOp (opSorted true) [.b 9])] ioA (.n 17) (L_f_law_rest1_2)) b_f_law_rest1_14
def b_f_law_rest1_12 : B := bseq (bPar [15, 16] [.v (mOp (opOr (opI fAdd) opCatL) [.v (mOp (opOr (opI fAdd) opCatL) [.v (mCon (.int 1)), .v (mOp (opMax) [.v (mOp (opOr (opI fAdd) opCatL) [.b 9, .v (mOp opLst [.v (mCon (.int 0))])])])]), .v (mOp op_f_law_roll [.b 0, .v (mCon (.int 90))])]), .v (mOp opLst [])]) b_f_law_rest1_13
def b_f_law_rest1_11 : B := bseq (bIf (mT (mOp (opEq true) [.v (mMeth 10 op_m_Hoops_widest_gap (.b 8) []), .v (mOp (opMax) [.v (C_f_law_rest1_5)])])) (bRet (mCon (.bl false))) (bnx)) b_f_law_rest1_12
def b_f_law_rest1_10 : B := bseq (bAsg 14 (mOp (opOr (opI fAdd) opCatL) [.b 5, .v (mOp opLst [.v (mOp opIx [.b 1, .v (mCon (.int 0))])])])) b_f_law_rest1_11
def b_f_law_rest1_9 : B := bseq (bAsg 13 (mOp (opOr (opI fAdd) opCatL) [.v (mOp opLst [.v (mCon (.int 0))]), .v (C_f_law_rest1_4)])) b_f_law_rest1_10
def b_f_law_rest1_8 : B := bseq (bIf (mT (mOp (opEq true) [.v (mMeth 10 op_m_Hoops_mirrored (.b 8) []), .v (mOp (opEq false) [.b 5, .v (mOp (opSorted false) [.v (C_f_law_rest1_3)])])])) (bRet (mCon (.bl false))) (bnx)) b_f_law_rest1_9
def b_f_law_rest1_7 : B := bseq (bIf (mT (mOp (opEq true) [.v (mOp (opList) [.v (mMeth 10 op_m_Hoops_driven (.b 8) [.b 11])]), .v (C_f_law_rest1_2)])) (bRet (mCon (.bl false))) (bnx)) b_f_law_rest1_8
def b_f_law_rest1_6 : B := bseq (bPar [11, 12] [.v (mOp op_f_law_roll [.b 0, .v (mCon (.int 9))]), .v (mOp (opI fDiv) [.v (mOp (opI fSub) [.v (mOp opIx [.b 1, .v (mCon (.int 0))]), .b 3]), .v (mCon (.int 2))])]) b_f_law_rest1_7
def b_f_law_rest1_5 : B := bseq (bIf (mOr (mT (mOp (opEq true) [.v (mOp (opList) [.v (mMeth 10 op_m_Hoops_lengths (.b 8) [])]), .b 9])) (mOr (mT (mOp (opEq true) [.v (mMeth 10 op_m_Hoops_iron (.b 8) []), .v (mOp (opSum) [.b 9])])) (mT (mOp (opEq true) [.v (mMeth 10 op_m_Hoops_key (.b 8) []), .v (mOp opTup [.b 1, .v (mOp (opTuple) [.b 5]), .b 3, .b 4])])))) (bRet (mCon (.bl false))) (bnx)) b_f_law_rest1_6
def b_f_law_rest1_4 : B := bseq (bAsg 9 (C_f_law_rest1_1)) b_f_law_rest1_5
def b_f_law_rest1_3 : B := bseq (bAsg 8 (mOp (mkOp 10 op_m_Hoops_init) [.b 2, .b 5, .b 3, .b 4])) b_f_law_rest1_4
def b_f_law_rest1_2 : B := bseq (bFor [.v (mOp op_f_law_roll [.b 0, .v (mCon (.int 5))])] ioR1 (.n 7) (L_f_law_rest1_1)) b_f_law_rest1_3
def b_f_law_rest1 : B := bseq (bPar [3, 4, 5, 6] [.v (mOp (opOr (opI fAdd) opCatL) [.v (mCon (.int 1)), .v (mOp op_f_law_roll [.b 0, .v (mCon (.int 3))])]), .v (mOp op_f_law_roll [.b 0, .v (mCon (.int 5))]), .v (mOp opLst []), .v (mCon (.int 0))]) b_f_law_rest1_2
def op_f_law_rest1 : List S → ORes := fnOp 3 19 [0, 1, 2] b_f_law_rest1
/-! f_law_rest3: 0 dice, 1 row, 2 cask, 3 many, 4 total, 5 parts, 6 widths, 7 k, 8 turns, 9 order, 10 small, 11 told, 12 covers, 13 head, 14 over, 15 sizes, 16 here, 17 near, 18 spot, 19 square, 20 gap -/
def C_f_law_rest3_1 : M S := mComp [7] [.v (mOp op_f_law_roll [.b 0, .v (mCon (.int 8))])] ioR1 (.n 7) (mpure true) (mOp (opOr (opI fAdd) opCatL) [.v (mCon (.int 1)), .v (mOp op_f_law_roll [.b 0, .v (mCon (.int 9))])])
def C_f_law_rest3_2 : M S := mComp [7] [.v (mOp (opI fDiv) [.v (mOp (opOr (opI fAdd) opCatL) [.v (mOp (opLen) [.b 9]), .v (mCon (.int 1))]), .v (mCon (.int 2))])] ioR1 (.n 7) (mpure true) (mOp opIx [.b 8, .v (mOp (opOr (opI fMulS) (opI fMul)) [.v (mCon (.int 2)), .b 7])])
def C_f_law_rest3_3 : M S := mComp [7] [.v (mOp (opI fDiv) [.v (mOp (opOr (opI fAdd) opCatL) [.v (mOp (opLen) [.b 9]), .v (mCon (.int 1))]), .v (mCon (.int 2))])] ioR1 (.n 7) (mpure true) (mOp opIx [.b 9, .v (mOp (opI fSub) [.v (mOp (opI fSub) [.v (mOp (opLen) [.b 9]), .v (mCon (.int 1))]), .b 7])])
def C_f_law_rest3_4 : M S := mComp [7] [.v (mOp (opI fDiv) [.v (mOp (opLen) [.b 9]), .v (mCon (.int 2))])] ioR1 (.n 7) (mpure true) (mOp opIx [.b 8, .v (mOp (opOr (opI fAdd) opCatL) [.v (mOp (opOr (opI fMulS) (opI fMul)) [.v (mCon (.int 2)), .b 7]), .v (mCon (.int 1))])])
def L_f_law_rest3_1 : B := bIf (mT (mOp (opI fLt) [.v (mOp (opSum) [.b 12]), .v (mOp (opOr (opI fMulS) (opI fMul)) [.v (mCon (.int 2)), .b 10])])) (bAsg 12 (mOp (opOr (opI fAdd) opCatL) [.b 12, .v (mOp opLst [.v (mOp opIx [.b 9, .v (mOp (opI fSub) [.v (mOp (opI fSub) [.v (mOp (opLen) [.b 9]), .v (mCon (.int 1))]), .b 7])])])])) (bnx)
def C_f_law_rest3_5 : M S := mComp [18] [.v (mFrz 16), .v (mOp (opOr (opI fAdd) opCatL) [.v (mOp (opOr (opI fAdd) opCatL) [.b 16, .v (mOp opIx [.b 11, .b 7])]), .v (mCon (.int 1))])] ioR2 (.n 18) (mpure true) (mOp (opF1 fAbs) [.b 18])
def L_f_law_rest3_2_5 : B := bAsg 16 (mOp (opOr (opI fAdd) opCatL) [.b 16, .v (mOp opIx [.b 11, .b 7])])
def L_f_law_rest3_2_4 : B := bseq (bIf (mAnd (mT (mOp (opI fGt) [.v (mOp opIx [.b 15, .b 7]), .v (mCon (.int 0))])) (mT (mOp (opI fGe) [.v (mOp (opOr (opI fMulS) (opI fMul)) [.v (mOp (opI fSub) [.v (mOp opIx [.b 15, .b 7]), .v (mCon (.int 2))]), .v (mOp (opI fSub) [.v (mOp opIx [.b 15, .b 7]), .v (mCon (.int 2))])]), .v (mOp (opOr (opI fMulS) (opI fMul)) [.v (mCon (.int 4)), .b 19])]))) (bRet (mCon (.bl false))) (bnx)) L_f_law_rest3_2_5
def L_f_law_rest3_2_3 : B := bseq (bIf (mOr (mT (mOp (opEq true) [.v (mOp (opI fMod) [.v (mOp opIx [.b 15, .b 7]), .v (mCon (.int 2))]), .v (mCon (.int 0))])) (mT (mOp (opI fLt) [.v (mOp (opOr (opI fMulS) (opI fMul)) [.v (mOp opIx [.b 15, .b 7]), .v (mOp opIx [.b 15, .b 7])]), .v (mOp (opOr (opI fMulS) (opI fMul)) [.v (mCon (.int 4)), .b 19])]))) (bRet (mCon (.bl false))) (bnx)) L_f_law_rest3_2_4
def L_f_law_rest3_2_2 : B := bseq (bAsg 19 (mOp (opI fMax) [.v (mCon (.int 0)), .v (mOp (opI fSub) [.v (mOp (opOr (opI fMulS) (opI fMul)) [.b 10, .b 10]), .v (mOp (opOr (opI fMulS) (opI fMul)) [.b 17, .b 17])])])) L_f_law_rest3_2_3
def L_f_law_rest3_2 : B := bseq (bAsg 17 (mOp (opMin) [.v (C_f_law_rest3_5)])) L_f_law_rest3_2_2
def C_f_law_rest3_6 : M S := mComp [7] [.v (mCon (.int 1)), .v (mOp (opLen) [.b 15])] ioR2 (.n 7) (mpure true) (mOp (opI fMax) [.v (mCon (.int 1)), .v (mOp (opI fDiv) [.v (mOp (opI fMin) [.v (mOp opIx [.b 15, .b 7]), .v (mOp opIx [.b 15, .v (mOp (opI fSub) [.b 7, .v (mCon (.int 1))])])]), .b 20])])
def b_f_law_rest3_12 : B := bRet (mCon (.bl true))
def b_f_law_rest3_11 : B := bseq (bIf (mNot (mT (mOp op_f_law_rest1 [.b 0, .b 1, .b 2]))) (bRet (mCon (.bl false))) (bnx)) b_f_law_rest3_12
def b_f_law_rest3_10 : B := bseq (bIf (mT (mOp (opEq true) [.b 11, .v (mCon (.str "no way"))])) (bseq (bAsg 13 (mOp (mkOp 9 op_m_Head_init) [.b 10, .b 11])) (bseq (bPar [14, 15, 16] [.v (mOp (opI fSub) [.v (mOp (opSum) [.b 11]), .v (mOp (opOr (opI fMulS) (opI fMul)) [.v (mCon (.int 2)), .b 10])]), .v (mMeth 9 op_m_Head_lengths (.b 13) []), .v (mOp (opI fSub) [.v (mOp (opI fSub) [.v (mCon (.int 0)), .b 10]), .v (mOp (opI fDiv) [.v (mOp (opI fSub) [.v (mOp (opSum) [.b 11]), .v (mOp (opOr (opI fMulS) (opI fMul)) [.v (mCon (.int 2)), .b 10])]), .v (mCon (.int 2))])])]) (bseq (bIf (mOr (mT (mOp (opEq true) [.v (mMeth 9 op_m_Head_over (.b 13) []), .b 14])) (mT (mOp (opEq true) [.v (mMeth 9 op_m_Head_key (.b 13) []), .v (mOp opTup [.b 10, .b 11])]))) (bRet (mCon (.bl false))) (bnx)) (bseq (bFor [.v (mOp (opLen) [.b 11])] ioR1 (.n 7) (L_f_law_rest3_2)) (bseq (bAsg 20 (mOp (opOr (opI fAdd) opCatL) [.v (mCon (.int 1)), .v (mOp op_f_law_roll [.b 0, .v (mCon (.int 9))])])) (bIf (mT (mOp (opEq true) [.v (mMeth 9 op_m_Head_pegs (.b 13) [.b 20]), .v (mOp (opSum) [.v (C_f_law_rest3_6)])])) (bRet (mCon (.bl false))) (bnx))))))) (bnx)) b_f_law_rest3_11
def b_f_law_rest3_9 : B := bseq (bIf (mT (mOp (opEq true) [.b 11, .v (mIf (mT (mOp (opI fGe) [.v (mOp (opSum) [.b 12]), .v (mOp (opOr (opI fMulS) (opI fMul)) [.v (mCon (.int 2)), .b 10])])) (mOp (opTuple) [.b 12]) (mCon (.str "no way")))])) (bRet (mCon (.bl false))) (bnx)) b_f_law_rest3_10
def b_f_law_rest3_8 : B := bseq (bFor [.v (mOp (opLen) [.b 9])] ioR1 (.n 7) (L_f_law_rest3_1)) b_f_law_rest3_9
def b_f_law_rest3_7 : B := bseq (bPar [11, 12] [.v (mTold tbl (mOp op_f_head_boards [.b 10, .b 6])), .v (mOp opLst [])]) b_f_law_rest3_8
def b_f_law_rest3_6 : B := bseq (bAsg 10 (mOp (opOr (opI fAdd) opCatL) [.v (mCon (.int 1)), .v (mOp op_f_law_roll [.b 0, .v (mCon (.int 12))])])) b_f_law_rest3_7
def b_f_law_rest3_5 : B := bseq (bIf (mT (mOp (opEq true) [.v (C_f_law_rest3_4), .v (mSlice (mFrz 9) none (some (mOp (opI fDiv) [.v (mOp (opLen) [.b 9]), .v (mCon (.int 2))])))])) (bRet (mCon (.bl false))) (bnx)) b_f_law_rest3_6
def b_f_law_rest3_4 : B := bseq (bIf (mOr (mT (mOp (opEq true) [.v (mOp (opSorted false) [.b 8]), .b 9])) (mT (mOp (opEq true) [.v (C_f_law_rest3_2), .v (C_f_law_rest3_3)]))) (bRet (mCon (.bl false))) (bnx)) b_f_law_rest3_5
def b_f_law_rest3_3 : B := bseq (bPar [8, 9] [.v (mOp op_f_alternated [.b 6]), .v (mOp (opSorted false) [.b 6])]) b_f_law_rest3_4
def b_f_law_rest3_2 : B := bseq (bAsg 6 (C_f_law_rest3_1)) b_f_law_rest3_3
def b_f_law_rest3 : B := bseq (bIf (mOr (mT (mOp (opEq true) [.v (mOp (opSum) [.b 5]), .b 4])) (mOr (mT (mOp (opI fGt) [.v (mOp (opI fSub) [.v (mOp (opMax) [.b 5]), .v (mOp (opMin) [.b 5])]), .v (mCon (.int 1))])) (mOr (mT (mOp (opEq true) [.v (mOp (opList) [.b 5]), .v (mOp (opSorted true) [.b 5])])) (mT (mOp (opEq true) [.v (mOp (opLen) [.b 5]), .b 3]))))) (bRet (mCon (.bl false))) (bnx)) b_f_law_rest3_2
def op_f_law_rest3 : List S → ORes := fnOp 6 21 [0, 1, 2, 3, 4, 5] b_f_law_rest3
/-! f_law: 0 script, 1 dice, 2 thick, 3 ends, 4 row, 5 cask, 6 place, 7 steps, 8 halves, 9 k, 10 half, 11 wide, 12 narrow, 13 times, 14 one, 15 width, 16 round_length, 17 many, 18 total, 19 parts -/
def C_f_law_1 : M S := mComp [6] [.v (mOp (opOr (opI fAdd) opCatL) [.v (mOp opIx [.b 4, .v (mCon (.int 0))]), .v (mCon (.int 1))])] ioR1 (.n 6) (mpure true) (mMeth 8 op_m_Cask_half_at (.b 5) [.b 6])
def C_f_law_2 : M S := mComp [6] [.v (mOp (opOr (opI fAdd) opCatL) [.v (mOp opIx [.b 4, .v (mCon (.int 0))]), .v (mCon (.int 1))])] ioR1 (.n 6) (mpure true) (mOp op_f_law_half [.b 4, .b 6])
def C_f_law_3 : M S := mComp [6] [.v (mOp opIx [.b 4, .v (mCon (.int 0))])] ioR1 (.n 6) (mpure true) (mMeth 8 op_m_Cask_half_at (.b 5) [.b 6])
def C_f_law_4 : M S := mComp [9] [.v (mFrz 7)] ioR1 (.n 9) (mpure true) (mOp (opI fSub) [.v (mOp op_f_law_half [.b 4, .v (mOp (opI fDiv) [.v (mOp (opOr (opI fMulS) (opI fMul)) [.v (mOp (opOr (opI fAdd) opCatL) [.v (mOp (opOr (opI fMulS) (opI fMul)) [.v (mCon (.int 2)), .b 9]), .v (mCon (.int 1))]), .v (mOp opIx [.b 4, .v (mCon (.int 0))])]), .v (mOp (opOr (opI fMulS) (opI fMul)) [.v (mCon (.int 2)), .b 7])])]), .b 2])
def C_f_law_5 : M S := mComp [10] [.v (mFrz 8)] ioA (.n 10) (mpure true) (mOp (opOr (opI fMulS) (opI fMul)) [.b 10, .b 10])
def C_f_law_6 : M S := mComp [14] [.v (mFrz 4)] ioA (.n 14) (mpure true) (mOp (opOr (opI fMulS) (opI fMul)) [.b 14, .b 13])
def L_f_law_1_23 : B := bIf (mNot (mT (mOp op_f_law_rest3 [.b 1, .b 4, .b 5, .b 17, .b 18, .b 19]))) (bRet (mCon (.bl false))) (bnx)
def L_f_law_1_22 : B := bseq (bAsg 19 (mOp op_f_even_round [.b 18, .b 17])) L_f_law_1_23
def L_f_law_1_21 : B := bseq (bAsg 18 (mOp (opOr (opI fAdd) opCatL) [.b 17, .v (mOp op_f_law_roll [.b 1, .v (mCon (.int 200))])])) L_f_law_1_22
def L_f_law_1_20 : B := bseq (bIf (mT (mOp (opEq true) [.v (mOp op_f_tapered [.b 5, .b 17]), .v (mOp opTup [.v (mOp (opI fDiv) [.v (mOp op_f_law_round [.b 3]), .b 17]), .v (mOp (opI fDiv) [.v (mOp op_f_law_round [.v (mOp opIx [.b 4, .v (mCon (.int 2))])]), .b 17])])])) (bRet (mCon (.bl false))) (bnx)) L_f_law_1_21
def L_f_law_1_19 : B := bseq (bAsg 17 (mOp (opOr (opI fAdd) opCatL) [.v (mCon (.int 3)), .v (mOp op_f_law_roll [.b 1, .v (mCon (.int 30))])])) L_f_law_1_20
def L_f_law_1_18 : B := bseq (bIf (mT (mOp (opEq true) [.v (mOp op_f_staves_for [.b 10, .b 15]), .v (mOp opTup [.v (mOp (opI fDiv) [.b 16, .b 15]), .v (mOp (opI fMod) [.b 16, .b 15])])])) (bRet (mCon (.bl false))) (bnx)) L_f_law_1_19
def L_f_law_1_17 : B := bseq (bIf (mOr (mT (mOp (opEq true) [.b 16, .v (mOp op_f_law_round [.b 10])])) (mT (mOp (opI fGt) [.v (mOp (opF1 fAbs) [.v (mOp (opI fSub) [.v (mOp (opOr (opI fMulS) (opI fMul)) [.v (mCon (.int 113)), .b 16]), .v (mOp (opOr (opI fMulS) (opI fMul)) [.v (mCon (.int 710)), .b 10])])]), .v (mCon (.int 56))]))) (bRet (mCon (.bl false))) (bnx)) L_f_law_1_18
def L_f_law_1_16 : B := bseq (bAsg 16 (mOp op_f_around [.b 10])) L_f_law_1_17
def L_f_law_1_15 : B := bseq (bPar [10, 15] [.v (mOp op_f_law_roll [.b 1, .v (mCon (.int 90))]), .v (mOp (opOr (opI fAdd) opCatL) [.v (mCon (.int 1)), .v (mOp op_f_law_roll [.b 1, .v (mCon (.int 12))])])]) L_f_law_1_16
def L_f_law_1_14 : B := bseq (bIf (mT (mOp (opEq true) [.v (mMeth 8 op_m_Cask_key (.v (mMeth 8 op_m_Cask_scaled (.b 5) [.b 13, .v (mCon (.int 1))])) []), .v (mOp (opTuple) [.v (C_f_law_6)])])) (bRet (mCon (.bl false))) (bnx)) L_f_law_1_15
def L_f_law_1_13 : B := bseq (bAsg 13 (mOp (opOr (opI fAdd) opCatL) [.v (mCon (.int 1)), .v (mOp op_f_law_roll [.b 1, .v (mCon (.int 4))])])) L_f_law_1_14
def L_f_law_1_12 : B := bseq (bIf (mT (mOp (opEq true) [.v (mMeth 8 op_m_Cask_plain_room (.b 5) []), .v (mOp (opI fDiv) [.v (mOp (opOr (opI fMulS) (opI fMul)) [.v (mOp (opOr (opI fAdd) opCatL) [.v (mOp (opOr (opI fMulS) (opI fMul)) [.v (mOp (opOr (opI fMulS) (opI fMul)) [.v (mCon (.int 2)), .b 11]), .b 11]), .v (mOp (opOr (opI fMulS) (opI fMul)) [.b 12, .b 12])]), .v (mOp opIx [.b 4, .v (mCon (.int 0))])]), .v (mCon (.int 3))])])) (bRet (mCon (.bl false))) (bnx)) L_f_law_1_13
def L_f_law_1_11 : B := bseq (bPar [11, 12] [.v (mOp (opI fSub) [.v (mOp opIx [.b 4, .v (mCon (.int 2))]), .b 2]), .v (mOp (opI fSub) [.b 3, .b 2])]) L_f_law_1_12
def L_f_law_1_10 : B := bseq (bIf (mT (mOp (opEq true) [.v (mMeth 8 op_m_Cask_slice_room (.b 5) [.b 7]), .v (mOp (opI fDiv) [.v (mOp (opOr (opI fMulS) (opI fMul)) [.v (mOp (opSum) [.v (C_f_law_5)]), .v (mOp opIx [.b 4, .v (mCon (.int 0))])]), .b 7])])) (bRet (mCon (.bl false))) (bnx)) L_f_law_1_11
def L_f_law_1_9 : B := bseq (bAsg 8 (C_f_law_4)) L_f_law_1_10
def L_f_law_1_8 : B := bseq (bAsg 7 (mOp (opOr (opI fAdd) opCatL) [.v (mCon (.int 1)), .v (mOp op_f_law_roll [.b 1, .v (mCon (.int 9))])])) L_f_law_1_9
def L_f_law_1_7 : B := bseq (bIf (mOr (mT (mOp (opEq true) [.v (mMeth 8 op_m_Cask_half_at (.b 5) [.v (mCon (.int 0))]), .b 3])) (mOr (mT (mOp (opEq true) [.v (mMeth 8 op_m_Cask_half_at (.b 5) [.v (mOp opIx [.b 4, .v (mCon (.int 0))])]), .b 3])) (mT (mOp (opEq true) [.v (mOp (opMax) [.v (C_f_law_3)]), .v (mOp opIx [.b 4, .v (mCon (.int 2))])])))) (bRet (mCon (.bl false))) (bnx)) L_f_law_1_8
def L_f_law_1_6 : B := bseq (bIf (mT (mOp (opEq true) [.v (C_f_law_1), .v (C_f_law_2)])) (bRet (mCon (.bl false))) (bnx)) L_f_law_1_7
def L_f_law_1_5 : B := bseq (bIf (mOr (mT (mOp (opEq true) [.v (mMeth 8 op_m_Cask_bulge (.b 5) []), .v (mOp (opI fSub) [.v (mOp opIx [.b 4, .v (mCon (.int 2))]), .v (mOp opIx [.b 4, .v (mCon (.int 1))])])])) (mT (mOp (opEq true) [.v (mMeth 8 op_m_Cask_key (.b 5) []), .b 4]))) (bRet (mCon (.bl false))) (bnx)) L_f_law_1_6
def L_f_law_1_4 : B := bseq (bAsg 5 (mOp (mkOp 8 op_m_Cask_init) [.v (mOp opIx [.b 4, .v (mCon (.int 0))]), .v (mOp opIx [.b 4, .v (mCon (.int 1))]), .v (mOp opIx [.b 4, .v (mCon (.int 2))]), .v (mOp opIx [.b 4, .v (mCon (.int 3))])])) L_f_law_1_5
def L_f_law_1_3 : B := bseq (bAsg 4 (mOp opTup [.v (mOp (opOr (opI fAdd) opCatL) [.v (mCon (.int 10)), .v (mOp op_f_law_roll [.b 1, .v (mCon (.int 60))])]), .b 3, .v (mOp (opOr (opI fAdd) opCatL) [.b 3, .v (mOp op_f_law_roll [.b 1, .v (mCon (.int 12))])]), .b 2])) L_f_law_1_4
def L_f_law_1_2 : B := bseq (bAsg 3 (mOp (opOr (opI fAdd) opCatL) [.v (mOp (opOr (opI fAdd) opCatL) [.b 2, .v (mCon (.int 1))]), .v (mOp op_f_law_roll [.b 1, .v (mCon (.int 30))])])) L_f_law_1_3
def L_f_law_1 : B := bseq (bAsg 2 (mOp (opOr (opI fAdd) opCatL) [.v (mCon (.int 1)), .v (mOp op_f_law_roll [.b 1, .v (mCon (.int 3))])])) L_f_law_1_2
def b_f_law_2 : B := bRet (mCon (.bl true))
def b_f_law : B := bseq (bForO (mOp op_f_law_rounds [.b 0, .v (mCon (.int 1))]) 1 (L_f_law_1)) b_f_law_2
def op_f_law : List S → ORes := fnOp 1 20 [0] b_f_law
end K02
namespace K02
open PySem PySem.Spec PyProof.Rows L2 DL
abbrev PW : Program := PySem.Challenge.pw_cooperhall_k02_staves
def top (i : Nat) : Stmt := PW.main.body.getD i (.Pass ⟨0, 0, 0, 0⟩)
def clB (s : Stmt) : List Stmt := match s with
  | .ClassDef (body := b) .. => b
  | _ => []
def met (i j : Nat) : Stmt := (clB (top i)).getD j (.Pass ⟨0, 0, 0, 0⟩)
abbrev s_m_Cask_init : Stmt := met 11 0
def d_m_Cask_init : He.DefD := ⟨("Cask", some "__init__"), "__init__", "Cask.__init__", defArgs s_m_Cask_init, defBody s_m_Cask_init, defScope s_m_Cask_init, [], []⟩
abbrev s_m_Cask_bulge : Stmt := met 11 1
def d_m_Cask_bulge : He.DefD := ⟨("Cask", some "bulge"), "bulge", "Cask.bulge", defArgs s_m_Cask_bulge, defBody s_m_Cask_bulge, defScope s_m_Cask_bulge, [], []⟩
abbrev s_m_Cask_half_at : Stmt := met 11 2
def d_m_Cask_half_at : He.DefD := ⟨("Cask", some "half_at"), "half_at", "Cask.half_at", defArgs s_m_Cask_half_at, defBody s_m_Cask_half_at, defScope s_m_Cask_half_at, [], []⟩
abbrev s_m_Cask_slice_room : Stmt := met 11 3
def d_m_Cask_slice_room : He.DefD := ⟨("Cask", some "slice_room"), "slice_room", "Cask.slice_room", defArgs s_m_Cask_slice_room, defBody s_m_Cask_slice_room, defScope s_m_Cask_slice_room, [], []⟩
abbrev s_m_Cask_plain_room : Stmt := met 11 4
def d_m_Cask_plain_room : He.DefD := ⟨("Cask", some "plain_room"), "plain_room", "Cask.plain_room", defArgs s_m_Cask_plain_room, defBody s_m_Cask_plain_room, defScope s_m_Cask_plain_room, [], []⟩
abbrev s_m_Cask_scaled : Stmt := met 11 5
def d_m_Cask_scaled : He.DefD := ⟨("Cask", some "scaled"), "scaled", "Cask.scaled", defArgs s_m_Cask_scaled, defBody s_m_Cask_scaled, defScope s_m_Cask_scaled, [], []⟩
abbrev s_m_Cask_key : Stmt := met 11 6
def d_m_Cask_key : He.DefD := ⟨("Cask", some "key"), "key", "Cask.key", defArgs s_m_Cask_key, defBody s_m_Cask_key, defScope s_m_Cask_key, [], []⟩
abbrev s_f_around : Stmt := top 12
def d_f_around : He.DefD := ⟨("around", none), "around", "around", defArgs s_f_around, defBody s_f_around, defScope s_f_around, [], []⟩
abbrev s_f_staves_for : Stmt := top 13
def d_f_staves_for : He.DefD := ⟨("staves_for", none), "staves_for", "staves_for", defArgs s_f_staves_for, defBody s_f_staves_for, defScope s_f_staves_for, [], []⟩
abbrev s_f_tapered : Stmt := top 14
def d_f_tapered : He.DefD := ⟨("tapered", none), "tapered", "tapered", defArgs s_f_tapered, defBody s_f_tapered, defScope s_f_tapered, [], []⟩
abbrev s_f_even_round : Stmt := top 15
def d_f_even_round : He.DefD := ⟨("even_round", none), "even_round", "even_round", defArgs s_f_even_round, defBody s_f_even_round, defScope s_f_even_round, [], []⟩
abbrev s_f_alternated : Stmt := top 16
def d_f_alternated : He.DefD := ⟨("alternated", none), "alternated", "alternated", defArgs s_f_alternated, defBody s_f_alternated, defScope s_f_alternated, [], []⟩
abbrev s_m_Head_init : Stmt := met 17 0
def d_m_Head_init : He.DefD := ⟨("Head", some "__init__"), "__init__", "Head.__init__", defArgs s_m_Head_init, defBody s_m_Head_init, defScope s_m_Head_init, [], []⟩
abbrev s_m_Head_over : Stmt := met 17 1
def d_m_Head_over : He.DefD := ⟨("Head", some "over"), "over", "Head.over", defArgs s_m_Head_over, defBody s_m_Head_over, defScope s_m_Head_over, [], []⟩
abbrev s_m_Head_lengths : Stmt := met 17 2
def d_m_Head_lengths : He.DefD := ⟨("Head", some "lengths"), "lengths", "Head.lengths", defArgs s_m_Head_lengths, defBody s_m_Head_lengths, defScope s_m_Head_lengths, [], []⟩
abbrev s_m_Head_pegs : Stmt := met 17 3
def d_m_Head_pegs : He.DefD := ⟨("Head", some "pegs"), "pegs", "Head.pegs", defArgs s_m_Head_pegs, defBody s_m_Head_pegs, defScope s_m_Head_pegs, [], []⟩
abbrev s_m_Head_key : Stmt := met 17 4
def d_m_Head_key : He.DefD := ⟨("Head", some "key"), "key", "Head.key", defArgs s_m_Head_key, defBody s_m_Head_key, defScope s_m_Head_key, [], []⟩
abbrev s_f_head_boards : Stmt := top 18
def d_f_head_boards : He.DefD := ⟨("head_boards", none), "head_boards", "head_boards", defArgs s_f_head_boards, defBody s_f_head_boards, defScope s_f_head_boards, [], []⟩
abbrev s_m_Hoops_init : Stmt := met 19 0
def d_m_Hoops_init : He.DefD := ⟨("Hoops", some "__init__"), "__init__", "Hoops.__init__", defArgs s_m_Hoops_init, defBody s_m_Hoops_init, defScope s_m_Hoops_init, [], []⟩
abbrev s_m_Hoops_lengths : Stmt := met 19 1
def d_m_Hoops_lengths : He.DefD := ⟨("Hoops", some "lengths"), "lengths", "Hoops.lengths", defArgs s_m_Hoops_lengths, defBody s_m_Hoops_lengths, defScope s_m_Hoops_lengths, [], []⟩
abbrev s_m_Hoops_iron : Stmt := met 19 2
def d_m_Hoops_iron : He.DefD := ⟨("Hoops", some "iron"), "iron", "Hoops.iron", defArgs s_m_Hoops_iron, defBody s_m_Hoops_iron, defScope s_m_Hoops_iron, [], []⟩
abbrev s_m_Hoops_driven : Stmt := met 19 3
def d_m_Hoops_driven : He.DefD := ⟨("Hoops", some "driven"), "driven", "Hoops.driven", defArgs s_m_Hoops_driven, defBody s_m_Hoops_driven, defScope s_m_Hoops_driven, [], []⟩
abbrev s_m_Hoops_mirrored : Stmt := met 19 4
def d_m_Hoops_mirrored : He.DefD := ⟨("Hoops", some "mirrored"), "mirrored", "Hoops.mirrored", defArgs s_m_Hoops_mirrored, defBody s_m_Hoops_mirrored, defScope s_m_Hoops_mirrored, [], []⟩
abbrev s_m_Hoops_widest_gap : Stmt := met 19 5
def d_m_Hoops_widest_gap : He.DefD := ⟨("Hoops", some "widest_gap"), "widest_gap", "Hoops.widest_gap", defArgs s_m_Hoops_widest_gap, defBody s_m_Hoops_widest_gap, defScope s_m_Hoops_widest_gap, [], []⟩
abbrev s_m_Hoops_key : Stmt := met 19 6
def d_m_Hoops_key : He.DefD := ⟨("Hoops", some "key"), "key", "Hoops.key", defArgs s_m_Hoops_key, defBody s_m_Hoops_key, defScope s_m_Hoops_key, [], []⟩
abbrev s_f_strips_for : Stmt := top 20
def d_f_strips_for : He.DefD := ⟨("strips_for", none), "strips_for", "strips_for", defArgs s_f_strips_for, defBody s_f_strips_for, defScope s_f_strips_for, [], []⟩
abbrev s_f_law_dice : Stmt := top 22
def d_f_law_dice : He.DefD := ⟨("_law_dice", none), "_law_dice", "_law_dice", defArgs s_f_law_dice, defBody s_f_law_dice, defScope s_f_law_dice, [], []⟩
abbrev s_f_law_roll : Stmt := top 23
def d_f_law_roll : He.DefD := ⟨("_law_roll", none), "_law_roll", "_law_roll", defArgs s_f_law_roll, defBody s_f_law_roll, defScope s_f_law_roll, [], []⟩
abbrev s_f_law_rounds : Stmt := top 24
def d_f_law_rounds : He.DefD := ⟨("_law_rounds", none), "_law_rounds", "_law_rounds", defArgs s_f_law_rounds, defBody s_f_law_rounds, defScope s_f_law_rounds, [], []⟩
abbrev s_f_law_told : Stmt := top 25
def d_f_law_told : He.DefD := ⟨("_law_told", none), "_law_told", "_law_told", defArgs s_f_law_told, defBody s_f_law_told, defScope s_f_law_told, [], []⟩
abbrev s_f_law_half : Stmt := top 26
def d_f_law_half : He.DefD := ⟨("_law_half", none), "_law_half", "_law_half", defArgs s_f_law_half, defBody s_f_law_half, defScope s_f_law_half, [], []⟩
abbrev s_f_law_round : Stmt := top 27
def d_f_law_round : He.DefD := ⟨("_law_round", none), "_law_round", "_law_round", defArgs s_f_law_round, defBody s_f_law_round, defScope s_f_law_round, [], []⟩
abbrev s_f_law_cases1 : Stmt := top 28
def d_f_law_cases1 : He.DefD := ⟨("_law_cases1", none), "_law_cases1", "_law_cases1", defArgs s_f_law_cases1, defBody s_f_law_cases1, defScope s_f_law_cases1, [], []⟩
abbrev s_f_law_rest2 : Stmt := top 29
def d_f_law_rest2 : He.DefD := ⟨("_law_rest2", none), "_law_rest2", "_law_rest2", defArgs s_f_law_rest2, defBody s_f_law_rest2, defScope s_f_law_rest2, [], []⟩
abbrev s_f_law_rest1 : Stmt := top 30
def d_f_law_rest1 : He.DefD := ⟨("_law_rest1", none), "_law_rest1", "_law_rest1", defArgs s_f_law_rest1, defBody s_f_law_rest1, defScope s_f_law_rest1, [], []⟩
abbrev s_f_law_rest3 : Stmt := top 31
def d_f_law_rest3 : He.DefD := ⟨("_law_rest3", none), "_law_rest3", "_law_rest3", defArgs s_f_law_rest3, defBody s_f_law_rest3, defScope s_f_law_rest3, [], []⟩
abbrev s_f_law : Stmt := top 32
def d_f_law : He.DefD := ⟨("law", none), "law", "law", defArgs s_f_law, defBody s_f_law, defScope s_f_law, [], []⟩
def fn : List He.DefD := [d_m_Cask_init, d_m_Cask_bulge, d_m_Cask_half_at, d_m_Cask_slice_room, d_m_Cask_plain_room, d_m_Cask_scaled, d_m_Cask_key, d_f_around, d_f_staves_for, d_f_tapered, d_f_even_round, d_f_alternated, d_m_Head_init, d_m_Head_over, d_m_Head_lengths, d_m_Head_pegs, d_m_Head_key, d_f_head_boards, d_m_Hoops_init, d_m_Hoops_lengths, d_m_Hoops_iron, d_m_Hoops_driven, d_m_Hoops_mirrored, d_m_Hoops_widest_gap, d_m_Hoops_key, d_f_strips_for, d_f_law_dice, d_f_law_roll, d_f_law_rounds, d_f_law_told, d_f_law_half, d_f_law_round, d_f_law_cases1, d_f_law_rest2, d_f_law_rest1, d_f_law_rest3, d_f_law]
def fa : List He.Fa := [.glo "around", .glo "staves_for", .glo "tapered", .glo "even_round", .glo "alternated", .glo "head_boards", .glo "strips_for", .glo "_law_dice", .glo "_law_roll", .glo "_law_rounds", .glo "_law_told", .glo "_law_half", .glo "_law_round", .glo "_law_cases1", .glo "_law_rest2", .glo "_law_rest1", .glo "_law_rest3", .glo "law", .glo "Cask", .cls "Cask", .mkr "Cask", .meth "Cask" "bulge", .meth "Cask" "half_at", .meth "Cask" "slice_room", .meth "Cask" "plain_room", .meth "Cask" "scaled", .meth "Cask" "key", .noat "Cask" "length", .noat "Cask" "ends", .noat "Cask" "middle", .noat "Cask" "thick", .glo "Head", .cls "Head", .mkr "Head", .meth "Head" "over", .meth "Head" "lengths", .meth "Head" "pegs", .meth "Head" "key", .noat "Head" "half", .noat "Head" "boards", .glo "Hoops", .cls "Hoops", .mkr "Hoops", .meth "Hoops" "lengths", .meth "Hoops" "iron", .meth "Hoops" "driven", .meth "Hoops" "mirrored", .meth "Hoops" "widest_gap", .meth "Hoops" "key", .noat "Hoops" "cask", .noat "Hoops" "places", .noat "Hoops" "wide", .noat "Hoops" "lap", .glo "CaskFault", .exc "CaskFault", .glo "BadSize", .exc "BadSize", .glo "BadFill", .exc "BadFill", .glo "BadPlan", .exc "BadPlan", .glo "NoSuch", .exc "NoSuch", .glo "NoRoom", .exc "NoRoom", .glo "NoWay", .exc "NoWay", .glo "BadText", .glo "BadDeed", .exc "BadDeed", .exm "BadSize" "BadSize" true, .exm "BadSize" "BadFill" false, .exm "BadSize" "BadPlan" false, .exm "BadSize" "NoSuch" false, .exm "BadSize" "NoRoom" false, .exm "BadSize" "NoWay" false, .exm "BadSize" "BadText" false, .exm "BadSize" "BadDeed" false, .exm "BadFill" "BadSize" false, .exm "BadFill" "BadFill" true, .exm "BadFill" "BadPlan" false, .exm "BadFill" "NoSuch" false, .exm "BadFill" "NoRoom" false, .exm "BadFill" "NoWay" false, .exm "BadFill" "BadText" false, .exm "BadFill" "BadDeed" false, .exm "BadPlan" "BadSize" false, .exm "BadPlan" "BadFill" false, .exm "BadPlan" "BadPlan" true, .exm "BadPlan" "NoSuch" false, .exm "BadPlan" "NoRoom" false, .exm "BadPlan" "NoWay" false, .exm "BadPlan" "BadText" false, .exm "BadPlan" "BadDeed" false, .exm "NoSuch" "BadSize" false, .exm "NoSuch" "BadFill" false, .exm "NoSuch" "BadPlan" false, .exm "NoSuch" "NoSuch" true, .exm "NoSuch" "NoRoom" false, .exm "NoSuch" "NoWay" false, .exm "NoSuch" "BadText" false, .exm "NoSuch" "BadDeed" false, .exm "NoRoom" "BadSize" false, .exm "NoRoom" "BadFill" false, .exm "NoRoom" "BadPlan" false, .exm "NoRoom" "NoSuch" false, .exm "NoRoom" "NoRoom" true, .exm "NoRoom" "NoWay" false, .exm "NoRoom" "BadText" false, .exm "NoRoom" "BadDeed" false, .exm "NoWay" "BadSize" false, .exm "NoWay" "BadFill" false, .exm "NoWay" "BadPlan" false, .exm "NoWay" "NoSuch" false, .exm "NoWay" "NoRoom" false, .exm "NoWay" "NoWay" true, .exm "NoWay" "BadText" false, .exm "NoWay" "BadDeed" false, .exm "BadText" "BadSize" false, .exm "BadText" "BadFill" false, .exm "BadText" "BadPlan" false, .exm "BadText" "NoSuch" false, .exm "BadText" "NoRoom" false, .exm "BadText" "NoWay" false, .exm "BadText" "BadText" true, .exm "BadText" "BadDeed" false, .exm "BadDeed" "BadSize" false, .exm "BadDeed" "BadFill" false, .exm "BadDeed" "BadPlan" false, .exm "BadDeed" "NoSuch" false, .exm "BadDeed" "NoRoom" false, .exm "BadDeed" "NoWay" false, .exm "BadDeed" "BadText" false, .exm "BadDeed" "BadDeed" true, .free "any", .free "sum", .free "range", .free "len", .free "tuple", .free "list", .free "max", .free "min", .free "reversed", .free "abs", .free "int", .free "sorted", .free "enumerate"]
abbrev Lq (q : Str) : Str := q ++ ".<locals>."
def tq : TQ := [(d_m_Head_pegs.at_, Lq "Head.pegs" ++ "<genexpr>"),
  (d_m_Hoops_init.at_, Lq "Hoops.__init__" ++ "<genexpr>"),
  (d_f_law_cases1.at_, Lq "_law_cases1" ++ "<lambda>"),
  (d_f_law_rest2.at_, Lq "_law_rest2" ++ "<lambda>"),
  (d_f_law_rest3.at_, Lq "_law_rest3" ++ "<lambda>")]
def cl (K : PySem.W.Frag) : Nat → Addr
  | 0 => He.ga K "BadSize"
  | 1 => He.ga K "BadFill"
  | 2 => He.ga K "BadPlan"
  | 3 => He.ga K "NoSuch"
  | 4 => He.ga K "NoRoom"
  | 5 => He.ga K "NoWay"
  | 6 => He.ga K "BadText"
  | 7 => He.ga K "BadDeed"
  | 8 => He.ga K "Cask"
  | 9 => He.ga K "Head"
  | 10 => He.ga K "Hoops"
  | _ => 0
def fl : Nat → List Str
  | 8 => ["length", "ends", "middle", "thick"]
  | 9 => ["half", "boards"]
  | 10 => ["cask", "places", "wide", "lap"]
  | _ => []
abbrev Gk (K : PySem.W.Frag) : Gx := ⟨K, fun _ => none, cl K, fl, tabL K tq⟩
theorem fr_any {w : World} {K : PySem.W.Frag} {mg : Str → Option Value} {base : Heap} (E : En fa fn tq w K mg base) : mg "any" = none := E.free "any" (fa_in (by decide +kernel))
theorem fr_sum {w : World} {K : PySem.W.Frag} {mg : Str → Option Value} {base : Heap} (E : En fa fn tq w K mg base) : mg "sum" = none := E.free "sum" (fa_in (by decide +kernel))
theorem fr_range {w : World} {K : PySem.W.Frag} {mg : Str → Option Value} {base : Heap} (E : En fa fn tq w K mg base) : mg "range" = none := E.free "range" (fa_in (by decide +kernel))
theorem fr_len {w : World} {K : PySem.W.Frag} {mg : Str → Option Value} {base : Heap} (E : En fa fn tq w K mg base) : mg "len" = none := E.free "len" (fa_in (by decide +kernel))
theorem fr_tuple {w : World} {K : PySem.W.Frag} {mg : Str → Option Value} {base : Heap} (E : En fa fn tq w K mg base) : mg "tuple" = none := E.free "tuple" (fa_in (by decide +kernel))
theorem fr_list {w : World} {K : PySem.W.Frag} {mg : Str → Option Value} {base : Heap} (E : En fa fn tq w K mg base) : mg "list" = none := E.free "list" (fa_in (by decide +kernel))
theorem fr_max {w : World} {K : PySem.W.Frag} {mg : Str → Option Value} {base : Heap} (E : En fa fn tq w K mg base) : mg "max" = none := E.free "max" (fa_in (by decide +kernel))
theorem fr_min {w : World} {K : PySem.W.Frag} {mg : Str → Option Value} {base : Heap} (E : En fa fn tq w K mg base) : mg "min" = none := E.free "min" (fa_in (by decide +kernel))
theorem fr_reversed {w : World} {K : PySem.W.Frag} {mg : Str → Option Value} {base : Heap} (E : En fa fn tq w K mg base) : mg "reversed" = none := E.free "reversed" (fa_in (by decide +kernel))
theorem fr_abs {w : World} {K : PySem.W.Frag} {mg : Str → Option Value} {base : Heap} (E : En fa fn tq w K mg base) : mg "abs" = none := E.free "abs" (fa_in (by decide +kernel))
theorem fr_int {w : World} {K : PySem.W.Frag} {mg : Str → Option Value} {base : Heap} (E : En fa fn tq w K mg base) : mg "int" = none := E.free "int" (fa_in (by decide +kernel))
theorem fr_sorted {w : World} {K : PySem.W.Frag} {mg : Str → Option Value} {base : Heap} (E : En fa fn tq w K mg base) : mg "sorted" = none := E.free "sorted" (fa_in (by decide +kernel))
theorem fr_enumerate {w : World} {K : PySem.W.Frag} {mg : Str → Option Value} {base : Heap} (E : En fa fn tq w K mg base) : mg "enumerate" = none := E.free "enumerate" (fa_in (by decide +kernel))
theorem calX_BadSize {w : World} {K : PySem.W.Frag} {mg : Str → Option Value} {base : Heap} (E : En fa fn tq w K mg base) : CalX K mg (Gk K) "BadSize" 0 := E.calX "BadSize" rfl (fa_in (by decide +kernel)) (fa_in (by decide +kernel))
theorem calX_BadFill {w : World} {K : PySem.W.Frag} {mg : Str → Option Value} {base : Heap} (E : En fa fn tq w K mg base) : CalX K mg (Gk K) "BadFill" 1 := E.calX "BadFill" rfl (fa_in (by decide +kernel)) (fa_in (by decide +kernel))
theorem calX_BadPlan {w : World} {K : PySem.W.Frag} {mg : Str → Option Value} {base : Heap} (E : En fa fn tq w K mg base) : CalX K mg (Gk K) "BadPlan" 2 := E.calX "BadPlan" rfl (fa_in (by decide +kernel)) (fa_in (by decide +kernel))
theorem calX_NoSuch {w : World} {K : PySem.W.Frag} {mg : Str → Option Value} {base : Heap} (E : En fa fn tq w K mg base) : CalX K mg (Gk K) "NoSuch" 3 := E.calX "NoSuch" rfl (fa_in (by decide +kernel)) (fa_in (by decide +kernel))
theorem calX_NoRoom {w : World} {K : PySem.W.Frag} {mg : Str → Option Value} {base : Heap} (E : En fa fn tq w K mg base) : CalX K mg (Gk K) "NoRoom" 4 := E.calX "NoRoom" rfl (fa_in (by decide +kernel)) (fa_in (by decide +kernel))
theorem calX_NoWay {w : World} {K : PySem.W.Frag} {mg : Str → Option Value} {base : Heap} (E : En fa fn tq w K mg base) : CalX K mg (Gk K) "NoWay" 5 := E.calX "NoWay" rfl (fa_in (by decide +kernel)) (fa_in (by decide +kernel))
theorem calX_BadDeed {w : World} {K : PySem.W.Frag} {mg : Str → Option Value} {base : Heap} (E : En fa fn tq w K mg base) : CalX K mg (Gk K) "BadDeed" 7 := E.calX "BadDeed" rfl (fa_in (by decide +kernel)) (fa_in (by decide +kernel))
theorem cOk8 {w : World} {K : PySem.W.Frag} {mg : Str → Option Value} {base : Heap} (E : En fa fn tq w K mg base) : COk K (Gk K) 8 := E.cOk (C := "Cask") rfl (fa_in (by decide +kernel)) (fun f hf => fa_in ((by decide +kernel : ∀ f ∈ (fl 8), fa.any (faEq (.noat "Cask" f)) = true) f hf)) (by decide : (fl 8).Nodup) (by decide : (fl 8).length < 1000)
theorem cOk9 {w : World} {K : PySem.W.Frag} {mg : Str → Option Value} {base : Heap} (E : En fa fn tq w K mg base) : COk K (Gk K) 9 := E.cOk (C := "Head") rfl (fa_in (by decide +kernel)) (fun f hf => fa_in ((by decide +kernel : ∀ f ∈ (fl 9), fa.any (faEq (.noat "Head" f)) = true) f hf)) (by decide : (fl 9).Nodup) (by decide : (fl 9).length < 1000)
theorem cOk10 {w : World} {K : PySem.W.Frag} {mg : Str → Option Value} {base : Heap} (E : En fa fn tq w K mg base) : COk K (Gk K) 10 := E.cOk (C := "Hoops") rfl (fa_in (by decide +kernel)) (fun f hf => fa_in ((by decide +kernel : ∀ f ∈ (fl 10), fa.any (faEq (.noat "Hoops" f)) = true) f hf)) (by decide : (fl 10).Nodup) (by decide : (fl 10).length < 1000)
def nmX : Nat → Str := fun c => match c with | 0 => "BadSize" | 1 => "BadFill" | 2 => "BadPlan" | 3 => "NoSuch" | 4 => "NoRoom" | 5 => "NoWay" | 6 => "BadText" | 7 => "BadDeed" | _ => ""
theorem nmX_ok (K : PySem.W.Frag) : ∀ c ∈ tbl, cl K c.1 = He.ga K (nmX c.1) := by
  intro c hc
  simp only [tbl, List.mem_cons, List.not_mem_nil, or_false] at hc
  rcases hc with rfl | rfl | rfl | rfl | rfl | rfl | rfl | rfl <;> rfl
theorem told {w : World} {K : PySem.W.Frag} {mg : Str → Option Value} {base : Heap} (E : En fa fn tq w K mg base) : ToldF K mg (Gk K) "_law_told" "what" tbl := by
  obtain ⟨fd, F⟩ := E.def_ (d := d_f_law_told) (List.mem_of_getElem? (i := 29) rfl) s_f_law_told
  refine ⟨⟨_, _, _, fd, _, _, _, _, _, _, F, E.glo "_law_told" (fa_in (by decide +kernel)), F.binds fun _ _ _ _ _ _ us hl => match us, hl with | [_], _ => rfl, ⟨rfl, rfl, rfl, by decide +kernel, rfl, by decide +kernel, by decide +kernel⟩, rfl, .cons rfl (E.glo "BadDeed" (fa_in (by decide +kernel))) rfl (.cons rfl (E.glo "BadFill" (fa_in (by decide +kernel))) rfl (.cons rfl (E.glo "BadPlan" (fa_in (by decide +kernel))) rfl (.cons rfl (E.glo "BadSize" (fa_in (by decide +kernel))) rfl (.cons rfl (E.glo "NoRoom" (fa_in (by decide +kernel))) rfl (.cons rfl (E.glo "NoSuch" (fa_in (by decide +kernel))) rfl (.cons rfl (E.glo "NoWay" (fa_in (by decide +kernel))) rfl (.cons rfl (E.glo "BadText" (fa_in (by decide +kernel))) rfl (.nil))))))))⟩, ?_⟩
  have h : ∀ c ∈ tbl, ∀ d ∈ tbl, ∃ x y, cl K c.1 = He.ga K x ∧ cl K d.1 = He.ga K y ∧ He.Fa.exm x y (c.1 == d.1) ∈ fa := by
    intro c hc d hd
    exact ⟨nmX c.1, nmX d.1, nmX_ok K c hc, nmX_ok K d hd, fa_in ((by decide +kernel : ∀ c ∈ tbl, ∀ d ∈ tbl, fa.any (faEq (.exm (nmX c.1) (nmX d.1) (c.1 == d.1))) = true) c hc d hd)⟩
  intro c hc d hd
  obtain ⟨x, y, e1, e2, e3⟩ := h c hc d hd
  show PySem.W.exmOne K (.ref (cl K c.1)) (.ref (cl K d.1)) = _
  rw [e1, e2]
  exact He.exm_ok (E.fact e3)
end K02
namespace K02
open PySem PySem.Spec PyProof.Rows L2 DL
abbrev N_m_Cask_init : List Str := ["self", "length", "ends", "middle", "thick"]
theorem nd_m_Cask_init : N_m_Cask_init.Nodup := by decide +kernel
theorem bx_m_Cask_init {P : Program} {w : World} {K : PySem.W.Frag} {mg : Str → Option Value} {base : Heap} (E : En fa fn tq w K mg base) (f : Addr) (c : Addr) (hcc : c = He.codeOf K d_m_Cask_init.at_) (A : Around) (outer : List Env) (s : Shared) (H : Hp) (s0 : L2.St) (Ex : XK) (hr : Room 0 (A.deeper (envOfC "Cask.__init__" (defScope s_m_Cask_init) s.heap.objs.size f (.ref c)))) :
    BX (Gk K) ⟨[0, 1, 2, 3, 4], s0⟩ (cxOf (L2.CX P w) P w K mg base N_m_Cask_init "Cask.__init__" (defScope s_m_Cask_init) f (.ref c) A outer s H Ex) (fun cls d _ H => Ex cls d H) (defBody s_m_Cask_init) b_m_Cask_init := by
  subst hcc
  refine bx_cons ?_ ?_
  · refine sx_if (TW.tx (tw_or (tx_cmp op_lt os_lt (ax_v (ex_callB (call_min3Nu rfl) os_min3 (fr_min E) (by decide +kernel) (ax_s 1 (ax_s 2 (ax_s 4 ax_nil))) (pa_c (pa_c (pa_c pa_n)))) (ax_v ex_int ax_nil))) (tw_or (tx_cmp op_lt os_lt (ax_s 3 (ax_s 2 ax_nil))) (tw_or1 (tx_cmp op_ge os_ge (ax_s 4 (ax_s 2 ax_nil))))))) ?_ ?_
    · refine bx_one ?_
      exact sx_raise (calX_BadSize E) rfl (takes_of rfl rfl rfl rfl)
    · exact bx_nil
  refine bx_cons ?_ ?_
  · exact sx_fld 0 8 0 rfl (cOk8 E) rfl (ex_frz 1)
  refine bx_cons ?_ ?_
  · exact sx_fld 0 8 1 rfl (cOk8 E) rfl (ex_frz 2)
  refine bx_cons ?_ ?_
  · exact sx_fld 0 8 2 rfl (cOk8 E) rfl (ex_frz 3)
  refine bx_one ?_
  exact sx_fld 0 8 3 rfl (cOk8 E) rfl (ex_frz 4)
theorem sc_m_Cask_init : FnScope N_m_Cask_init ["self", "length", "ends", "middle", "thick"] (defScope s_m_Cask_init) := ⟨rfl, rfl, rfl, by decide +kernel, rfl, by decide +kernel, by decide +kernel⟩
theorem cal_m_Cask_init {P : Program} {w : World} {K : PySem.W.Frag} {mg : Str → Option Value} {base : Heap} (E : En fa fn tq w K mg base) : CalC P w K mg base (Gk K) 1 "Cask" 8 op_m_Cask_init := by
  obtain ⟨fd, F⟩ := E.def_ (d := d_m_Cask_init) (List.mem_of_getElem? (i := 0) rfl) s_m_Cask_init
  have bi : Binds K fd ["self", "length", "ends", "middle", "thick"] [] := F.binds fun _ _ _ _ _ _ us hl => match us, hl with | [_, _, _, _, _], _ => rfl
  have ok := fn_ownC (P := P) (w := w) (mg := mg) (base := base) (G := Gk K) F sc_m_Cask_init fun A outer s H s0 Ex hr => bx_m_Cask_init E _ _ rfl A outer s H s0 Ex hr
  exact E.calC F ok rfl (fa_in (by decide +kernel)) (fa_in (by decide +kernel)) bi
abbrev N_m_Cask_bulge : List Str := ["self"]
theorem nd_m_Cask_bulge : N_m_Cask_bulge.Nodup := by decide +kernel
theorem bx_m_Cask_bulge {P : Program} {w : World} {K : PySem.W.Frag} {mg : Str → Option Value} {base : Heap} (E : En fa fn tq w K mg base) (f : Addr) (c : Addr) (hcc : c = He.codeOf K d_m_Cask_bulge.at_) (A : Around) (outer : List Env) (s : Shared) (H : Hp) (s0 : L2.St) (Ex : XK) (hr : Room 0 (A.deeper (envOfC "Cask.bulge" (defScope s_m_Cask_bulge) s.heap.objs.size f (.ref c)))) :
    BX (Gk K) ⟨[0], s0⟩ (cxOf (L2.CX P w) P w K mg base N_m_Cask_bulge "Cask.bulge" (defScope s_m_Cask_bulge) f (.ref c) A outer s H Ex) (fun cls d _ H => Ex cls d H) (defBody s_m_Cask_bulge) b_m_Cask_bulge := by
  subst hcc
  refine bx_one ?_
  exact sx_ret (ex_bin op_sub os_sub (ax_v (ex_fld (os_fld (c := 8) (k := 2) (cOk8 E) rfl) (ax_s 0 ax_nil)) (ax_v (ex_fld (os_fld (c := 8) (k := 1) (cOk8 E) rfl) (ax_s 0 ax_nil)) ax_nil)))
theorem sc_m_Cask_bulge : FnScope N_m_Cask_bulge ["self"] (defScope s_m_Cask_bulge) := ⟨rfl, rfl, rfl, by decide +kernel, rfl, by decide +kernel, by decide +kernel⟩
theorem cal_m_Cask_bulge {P : Program} {w : World} {K : PySem.W.Frag} {mg : Str → Option Value} {base : Heap} (E : En fa fn tq w K mg base) : CalM P w K mg base (Gk K) 1 "bulge" 8 op_m_Cask_bulge := by
  obtain ⟨fd, F⟩ := E.def_ (d := d_m_Cask_bulge) (List.mem_of_getElem? (i := 1) rfl) s_m_Cask_bulge
  have bi : Binds K fd ["self"] [] := F.binds fun _ _ _ _ _ _ us hl => match us, hl with | [_], _ => rfl
  have ok := fn_ownC (P := P) (w := w) (mg := mg) (base := base) (G := Gk K) F sc_m_Cask_bulge fun A outer s H s0 Ex hr => bx_m_Cask_bulge E _ _ rfl A outer s H s0 Ex hr
  exact E.calM F ok rfl (fa_in (by decide +kernel)) (fa_in (by decide +kernel)) bi (by decide +kernel : ∀ f ∈ fl 8, f ≠ "bulge")
abbrev N_m_Cask_half_at : List Str := ["self", "place", "gap"]
theorem nd_m_Cask_half_at : N_m_Cask_half_at.Nodup := by decide +kernel
theorem bx_m_Cask_half_at {P : Program} {w : World} {K : PySem.W.Frag} {mg : Str → Option Value} {base : Heap} (E : En fa fn tq w K mg base) (f : Addr) (c : Addr) (hcc : c = He.codeOf K d_m_Cask_half_at.at_) (A : Around) (outer : List Env) (s : Shared) (H : Hp) (s0 : L2.St) (Ex : XK) (hr : Room 1 (A.deeper (envOfC "Cask.half_at" (defScope s_m_Cask_half_at) s.heap.objs.size f (.ref c)))) :
    BX (Gk K) ⟨[0, 1], s0⟩ (cxOf (L2.CX P w) P w K mg base N_m_Cask_half_at "Cask.half_at" (defScope s_m_Cask_half_at) f (.ref c) A outer s H Ex) (fun cls d _ H => Ex cls d H) (defBody s_m_Cask_half_at) b_m_Cask_half_at := by
  subst hcc
  refine bx_cons ?_ ?_
  · refine sx_if (tx_not (tx_chain ci_le ci_le ex_int (ex_frz 1) (ex_fld (os_fld (c := 8) (k := 0) (cOk8 E) rfl) (ax_s 0 ax_nil)))) ?_ ?_
    · refine bx_one ?_
      exact sx_raise (calX_BadSize E) rfl (takes_of rfl rfl rfl rfl)
    · exact bx_nil
  refine bx_cons ?_ ?_
  · exact sx_set 2 (ex_bin op_sub os_sub (ax_v (ex_bin (op_mul.or op_mulW) (os_or2 os_mulS os_mul) (ax_v ex_int (ax_s 1 ax_nil))) (ax_v (ex_fld (os_fld (c := 8) (k := 0) (cOk8 E) rfl) (ax_s 0 ax_nil)) ax_nil))) (by decide : ¬ 2 ∈ ([0, 1] : List Nat)) nd_m_Cask_half_at
  refine bx_one ?_
  exact sx_ret (ex_bin op_sub os_sub (ax_v (ex_fld (os_fld (c := 8) (k := 2) (cOk8 E) rfl) (ax_s 0 ax_nil)) (ax_v (ex_bin op_fdivW os_div (ax_v (ex_bin (op_mul.or op_mulW) (os_or2 os_mulS os_mul) (ax_v (ex_bin (op_mul.or op_mulW) (os_or2 os_mulS os_mul) (ax_v (ex_meth0 (cal_m_Cask_bulge E) (hr.mono (by decide : 1 ≤ 1)) (takes_of rfl rfl rfl rfl) (ax_s 0 ax_nil)) (ax_s 2 ax_nil))) (ax_s 2 ax_nil))) (ax_v (ex_bin (op_mul.or op_mulW) (os_or2 os_mulS os_mul) (ax_v (ex_fld (os_fld (c := 8) (k := 0) (cOk8 E) rfl) (ax_s 0 ax_nil)) (ax_v (ex_fld (os_fld (c := 8) (k := 0) (cOk8 E) rfl) (ax_s 0 ax_nil)) ax_nil))) ax_nil))) ax_nil)))
theorem sc_m_Cask_half_at : FnScope N_m_Cask_half_at ["self", "place"] (defScope s_m_Cask_half_at) := ⟨rfl, rfl, rfl, by decide +kernel, rfl, by decide +kernel, by decide +kernel⟩
theorem cal_m_Cask_half_at {P : Program} {w : World} {K : PySem.W.Frag} {mg : Str → Option Value} {base : Heap} (E : En fa fn tq w K mg base) : CalM P w K mg base (Gk K) 2 "half_at" 8 op_m_Cask_half_at := by
  obtain ⟨fd, F⟩ := E.def_ (d := d_m_Cask_half_at) (List.mem_of_getElem? (i := 2) rfl) s_m_Cask_half_at
  have bi : Binds K fd ["self", "place"] [] := F.binds fun _ _ _ _ _ _ us hl => match us, hl with | [_, _], _ => rfl
  have ok := fn_ownC (P := P) (w := w) (mg := mg) (base := base) (G := Gk K) F sc_m_Cask_half_at fun A outer s H s0 Ex hr => bx_m_Cask_half_at E _ _ rfl A outer s H s0 Ex hr
  exact E.calM F ok rfl (fa_in (by decide +kernel)) (fa_in (by decide +kernel)) bi (by decide +kernel : ∀ f ∈ fl 8, f ≠ "half_at")
abbrev N_m_Cask_slice_room : List Str := ["self", "steps", "whole", "k", "half"]
theorem nd_m_Cask_slice_room : N_m_Cask_slice_room.Nodup := by decide +kernel
theorem bx_m_Cask_slice_room {P : Program} {w : World} {K : PySem.W.Frag} {mg : Str → Option Value} {base : Heap} (E : En fa fn tq w K mg base) (f : Addr) (c : Addr) (hcc : c = He.codeOf K d_m_Cask_slice_room.at_) (A : Around) (outer : List Env) (s : Shared) (H : Hp) (s0 : L2.St) (Ex : XK) (hr : Room 2 (A.deeper (envOfC "Cask.slice_room" (defScope s_m_Cask_slice_room) s.heap.objs.size f (.ref c)))) :
    BX (Gk K) ⟨[0, 1], s0⟩ (cxOf (L2.CX P w) P w K mg base N_m_Cask_slice_room "Cask.slice_room" (defScope s_m_Cask_slice_room) f (.ref c) A outer s H Ex) (fun cls d _ H => Ex cls d H) (defBody s_m_Cask_slice_room) b_m_Cask_slice_room := by
  subst hcc
  refine bx_cons ?_ ?_
  · refine sx_if (tx_cmp op_lt os_lt (ax_s 1 (ax_v ex_int ax_nil))) ?_ ?_
    · refine bx_one ?_
      exact sx_raise (calX_BadSize E) rfl (takes_of rfl rfl rfl rfl)
    · exact bx_nil
  refine bx_cons ?_ ?_
  · exact sx_set 2 ex_int (by decide : ¬ 2 ∈ ([0, 1] : List Nat)) nd_m_Cask_slice_room
  refine bx_cons ?_ ?_
  · refine sx_for (passes_of rfl) rfl (pi_range1 (by rfl) (fr_range E) (pa_c pa_n)) (ax_v (ex_frz 1) ax_nil) it_r1 (gx_name 3 (by decide : ¬ 3 ∈ ([0, 1] : List Nat)) nd_m_Cask_slice_room) ?_
    refine bx_cons ?_ ?_
    · exact sx_set 4 (ex_bin op_sub os_sub (ax_v (ex_meth (cal_m_Cask_half_at E) (hr.mono (by decide : 2 ≤ 2)) (takes_of rfl rfl rfl rfl) (ax_s 0 ax_nil) (ax_v (ex_bin op_fdivW os_div (ax_v (ex_bin (op_mul.or op_mulW) (os_or2 os_mulS os_mul) (ax_v (ex_bin (op_add.or op_catL) (os_or2 os_add os_catL) (ax_v (ex_bin (op_mul.or op_mulW) (os_or2 os_mulS os_mul) (ax_v ex_int (ax_s 3 ax_nil))) (ax_v ex_int ax_nil))) (ax_v (ex_fld (os_fld (c := 8) (k := 0) (cOk8 E) rfl) (ax_s 0 ax_nil)) ax_nil))) (ax_v (ex_bin (op_mul.or op_mulW) (os_or2 os_mulS os_mul) (ax_v ex_int (ax_s 1 ax_nil))) ax_nil))) ax_nil) (pa_c pa_n)) (ax_v (ex_fld (os_fld (c := 8) (k := 3) (cOk8 E) rfl) (ax_s 0 ax_nil)) ax_nil))) (by decide : ¬ 4 ∈ ([0, 1] : List Nat)) nd_m_Cask_slice_room
    refine bx_one ?_
    exact sx_augI 2 ip_add (ex_bin (op_mul.or op_mulW) (os_or2 os_mulS os_mul) (ax_s 4 (ax_s 4 ax_nil))) (by decide : ¬ 2 ∈ ([0, 1] : List Nat)) nd_m_Cask_slice_room
  refine bx_one ?_
  exact sx_ret (ex_bin op_fdivW os_div (ax_v (ex_bin (op_mul.or op_mulW) (os_or2 os_mulS os_mul) (ax_s 2 (ax_v (ex_fld (os_fld (c := 8) (k := 0) (cOk8 E) rfl) (ax_s 0 ax_nil)) ax_nil))) (ax_s 1 ax_nil)))
theorem sc_m_Cask_slice_room : FnScope N_m_Cask_slice_room ["self", "steps"] (defScope s_m_Cask_slice_room) := ⟨rfl, rfl, rfl, by decide +kernel, rfl, by decide +kernel, by decide +kernel⟩
theorem cal_m_Cask_slice_room {P : Program} {w : World} {K : PySem.W.Frag} {mg : Str → Option Value} {base : Heap} (E : En fa fn tq w K mg base) : CalM P w K mg base (Gk K) 3 "slice_room" 8 op_m_Cask_slice_room := by
  obtain ⟨fd, F⟩ := E.def_ (d := d_m_Cask_slice_room) (List.mem_of_getElem? (i := 3) rfl) s_m_Cask_slice_room
  have bi : Binds K fd ["self", "steps"] [] := F.binds fun _ _ _ _ _ _ us hl => match us, hl with | [_, _], _ => rfl
  have ok := fn_ownC (P := P) (w := w) (mg := mg) (base := base) (G := Gk K) F sc_m_Cask_slice_room fun A outer s H s0 Ex hr => bx_m_Cask_slice_room E _ _ rfl A outer s H s0 Ex hr
  exact E.calM F ok rfl (fa_in (by decide +kernel)) (fa_in (by decide +kernel)) bi (by decide +kernel : ∀ f ∈ fl 8, f ≠ "slice_room")
abbrev N_m_Cask_plain_room : List Str := ["self", "wide", "narrow"]
theorem nd_m_Cask_plain_room : N_m_Cask_plain_room.Nodup := by decide +kernel
theorem bx_m_Cask_plain_room {P : Program} {w : World} {K : PySem.W.Frag} {mg : Str → Option Value} {base : Heap} (E : En fa fn tq w K mg base) (f : Addr) (c : Addr) (hcc : c = He.codeOf K d_m_Cask_plain_room.at_) (A : Around) (outer : List Env) (s : Shared) (H : Hp) (s0 : L2.St) (Ex : XK) (hr : Room 0 (A.deeper (envOfC "Cask.plain_room" (defScope s_m_Cask_plain_room) s.heap.objs.size f (.ref c)))) :
    BX (Gk K) ⟨[0], s0⟩ (cxOf (L2.CX P w) P w K mg base N_m_Cask_plain_room "Cask.plain_room" (defScope s_m_Cask_plain_room) f (.ref c) A outer s H Ex) (fun cls d _ H => Ex cls d H) (defBody s_m_Cask_plain_room) b_m_Cask_plain_room := by
  subst hcc
  refine bx_cons ?_ ?_
  · exact sx_par2 1 2 (ax_v (ex_bin op_sub os_sub (ax_v (ex_fld (os_fld (c := 8) (k := 2) (cOk8 E) rfl) (ax_s 0 ax_nil)) (ax_v (ex_fld (os_fld (c := 8) (k := 3) (cOk8 E) rfl) (ax_s 0 ax_nil)) ax_nil))) (ax_v (ex_bin op_sub os_sub (ax_v (ex_fld (os_fld (c := 8) (k := 1) (cOk8 E) rfl) (ax_s 0 ax_nil)) (ax_v (ex_fld (os_fld (c := 8) (k := 3) (cOk8 E) rfl) (ax_s 0 ax_nil)) ax_nil))) ax_nil)) (pa_c (pa_c pa_n)) rfl (by decide : ¬ 1 ∈ ([0] : List Nat)) (by decide : ¬ 2 ∈ ([0] : List Nat)) nd_m_Cask_plain_room rfl
  refine bx_one ?_
  exact sx_ret (ex_bin op_fdivW os_div (ax_v (ex_bin (op_mul.or op_mulW) (os_or2 os_mulS os_mul) (ax_v (ex_bin (op_add.or op_catL) (os_or2 os_add os_catL) (ax_v (ex_bin (op_mul.or op_mulW) (os_or2 os_mulS os_mul) (ax_v (ex_bin (op_mul.or op_mulW) (os_or2 os_mulS os_mul) (ax_v ex_int (ax_s 1 ax_nil))) (ax_s 1 ax_nil))) (ax_v (ex_bin (op_mul.or op_mulW) (os_or2 os_mulS os_mul) (ax_s 2 (ax_s 2 ax_nil))) ax_nil))) (ax_v (ex_fld (os_fld (c := 8) (k := 0) (cOk8 E) rfl) (ax_s 0 ax_nil)) ax_nil))) (ax_v ex_int ax_nil)))
theorem sc_m_Cask_plain_room : FnScope N_m_Cask_plain_room ["self"] (defScope s_m_Cask_plain_room) := ⟨rfl, rfl, rfl, by decide +kernel, rfl, by decide +kernel, by decide +kernel⟩
theorem cal_m_Cask_plain_room {P : Program} {w : World} {K : PySem.W.Frag} {mg : Str → Option Value} {base : Heap} (E : En fa fn tq w K mg base) : CalM P w K mg base (Gk K) 1 "plain_room" 8 op_m_Cask_plain_room := by
  obtain ⟨fd, F⟩ := E.def_ (d := d_m_Cask_plain_room) (List.mem_of_getElem? (i := 4) rfl) s_m_Cask_plain_room
  have bi : Binds K fd ["self"] [] := F.binds fun _ _ _ _ _ _ us hl => match us, hl with | [_], _ => rfl
  have ok := fn_ownC (P := P) (w := w) (mg := mg) (base := base) (G := Gk K) F sc_m_Cask_plain_room fun A outer s H s0 Ex hr => bx_m_Cask_plain_room E _ _ rfl A outer s H s0 Ex hr
  exact E.calM F ok rfl (fa_in (by decide +kernel)) (fa_in (by decide +kernel)) bi (by decide +kernel : ∀ f ∈ fl 8, f ≠ "plain_room")
abbrev N_m_Cask_scaled : List Str := ["self", "top", "bottom", "sizes", "one"]
theorem nd_m_Cask_scaled : N_m_Cask_scaled.Nodup := by decide +kernel
theorem bx_m_Cask_scaled {P : Program} {w : World} {K : PySem.W.Frag} {mg : Str → Option Value} {base : Heap} (E : En fa fn tq w K mg base) (f : Addr) (c : Addr) (hcc : c = He.codeOf K d_m_Cask_scaled.at_) (A : Around) (outer : List Env) (s : Shared) (H : Hp) (s0 : L2.St) (Ex : XK) (hr : Room 2 (A.deeper (envOfC "Cask.scaled" (defScope s_m_Cask_scaled) s.heap.objs.size f (.ref c)))) :
    BX (Gk K) ⟨[0, 1, 2], s0⟩ (cxOf (L2.CX P w) P w K mg base N_m_Cask_scaled "Cask.scaled" (defScope s_m_Cask_scaled) f (.ref c) A outer s H Ex) (fun cls d _ H => Ex cls d H) (defBody s_m_Cask_scaled) b_m_Cask_scaled := by
  subst hcc
  refine bx_cons ?_ ?_
  · refine sx_if (TW.tx (tw_or (tx_cmp op_lt os_lt (ax_s 1 (ax_v ex_int ax_nil))) (tw_or1 (tx_cmp op_lt os_lt (ax_s 2 (ax_v ex_int ax_nil)))))) ?_ ?_
    · refine bx_one ?_
      exact sx_raise (calX_BadSize E) rfl (takes_of rfl rfl rfl rfl)
    · exact bx_nil
  refine bx_cons ?_ ?_
  · exact sx_setLc 3 rfl nd_m_Cask_scaled (by decide : ¬ 3 ∈ ([0, 1, 2] : List Nat)) pi_a (blkOk_by (own := [("one", 4)]) (by rfl)) ⟨fun N' hv' s' H' C' cl' fp' => (gx_name 4 (hv' _ (by simp)) nd_m_Cask_scaled), fun N' hv' s' H' C' cl' fp' => .nil, fun N' hv' s' H' C' cl' fp' => (ex_bin op_fdivW os_div (ax_v (ex_bin (op_mul.or op_mulW) (os_or2 os_mulS os_mul) (ax_s 4 (ax_s 1 ax_nil))) (ax_s 2 ax_nil)))⟩ (ax_v (ex_tup ops_tup (ax_v (ex_fld (os_fld (c := 8) (k := 0) (cOk8 E) rfl) (ax_s 0 ax_nil)) (ax_v (ex_fld (os_fld (c := 8) (k := 1) (cOk8 E) rfl) (ax_s 0 ax_nil)) (ax_v (ex_fld (os_fld (c := 8) (k := 2) (cOk8 E) rfl) (ax_s 0 ax_nil)) (ax_v (ex_fld (os_fld (c := 8) (k := 3) (cOk8 E) rfl) (ax_s 0 ax_nil)) ax_nil)))) (pa_c (pa_c (pa_c (pa_c pa_n))))) ax_nil) it_a rfl
  refine bx_one ?_
  exact sx_ret (ex_make (cal_m_Cask_init E) (hr.mono (by decide : 2 ≤ 2)) (takes_of rfl rfl rfl rfl) (ax_v (ex_ix ix_seq os_ix (ax_s 3 (ax_v ex_int ax_nil))) (ax_v (ex_ix ix_seq os_ix (ax_s 3 (ax_v ex_int ax_nil))) (ax_v (ex_ix ix_seq os_ix (ax_s 3 (ax_v ex_int ax_nil))) (ax_v (ex_ix ix_seq os_ix (ax_s 3 (ax_v ex_int ax_nil))) ax_nil)))) (pa_c (pa_c (pa_c (pa_c pa_n)))))
theorem sc_m_Cask_scaled : FnScope N_m_Cask_scaled ["self", "top", "bottom"] (defScope s_m_Cask_scaled) := ⟨rfl, rfl, rfl, by decide +kernel, rfl, by decide +kernel, by decide +kernel⟩
theorem cal_m_Cask_scaled {P : Program} {w : World} {K : PySem.W.Frag} {mg : Str → Option Value} {base : Heap} (E : En fa fn tq w K mg base) : CalM P w K mg base (Gk K) 3 "scaled" 8 op_m_Cask_scaled := by
  obtain ⟨fd, F⟩ := E.def_ (d := d_m_Cask_scaled) (List.mem_of_getElem? (i := 5) rfl) s_m_Cask_scaled
  have bi : Binds K fd ["self", "top", "bottom"] [] := F.binds fun _ _ _ _ _ _ us hl => match us, hl with | [_, _, _], _ => rfl
  have ok := fn_ownC (P := P) (w := w) (mg := mg) (base := base) (G := Gk K) F sc_m_Cask_scaled fun A outer s H s0 Ex hr => bx_m_Cask_scaled E _ _ rfl A outer s H s0 Ex hr
  exact E.calM F ok rfl (fa_in (by decide +kernel)) (fa_in (by decide +kernel)) bi (by decide +kernel : ∀ f ∈ fl 8, f ≠ "scaled")
abbrev N_m_Cask_key : List Str := ["self"]
theorem nd_m_Cask_key : N_m_Cask_key.Nodup := by decide +kernel
theorem bx_m_Cask_key {P : Program} {w : World} {K : PySem.W.Frag} {mg : Str → Option Value} {base : Heap} (E : En fa fn tq w K mg base) (f : Addr) (c : Addr) (hcc : c = He.codeOf K d_m_Cask_key.at_) (A : Around) (outer : List Env) (s : Shared) (H : Hp) (s0 : L2.St) (Ex : XK) (hr : Room 0 (A.deeper (envOfC "Cask.key" (defScope s_m_Cask_key) s.heap.objs.size f (.ref c)))) :
    BX (Gk K) ⟨[0], s0⟩ (cxOf (L2.CX P w) P w K mg base N_m_Cask_key "Cask.key" (defScope s_m_Cask_key) f (.ref c) A outer s H Ex) (fun cls d _ H => Ex cls d H) (defBody s_m_Cask_key) b_m_Cask_key := by
  subst hcc
  refine bx_one ?_
  exact sx_ret (ex_tup ops_tup (ax_v (ex_fld (os_fld (c := 8) (k := 0) (cOk8 E) rfl) (ax_s 0 ax_nil)) (ax_v (ex_fld (os_fld (c := 8) (k := 1) (cOk8 E) rfl) (ax_s 0 ax_nil)) (ax_v (ex_fld (os_fld (c := 8) (k := 2) (cOk8 E) rfl) (ax_s 0 ax_nil)) (ax_v (ex_fld (os_fld (c := 8) (k := 3) (cOk8 E) rfl) (ax_s 0 ax_nil)) ax_nil)))) (pa_c (pa_c (pa_c (pa_c pa_n)))))
theorem sc_m_Cask_key : FnScope N_m_Cask_key ["self"] (defScope s_m_Cask_key) := ⟨rfl, rfl, rfl, by decide +kernel, rfl, by decide +kernel, by decide +kernel⟩
theorem cal_m_Cask_key {P : Program} {w : World} {K : PySem.W.Frag} {mg : Str → Option Value} {base : Heap} (E : En fa fn tq w K mg base) : CalM P w K mg base (Gk K) 1 "key" 8 op_m_Cask_key := by
  obtain ⟨fd, F⟩ := E.def_ (d := d_m_Cask_key) (List.mem_of_getElem? (i := 6) rfl) s_m_Cask_key
  have bi : Binds K fd ["self"] [] := F.binds fun _ _ _ _ _ _ us hl => match us, hl with | [_], _ => rfl
  have ok := fn_ownC (P := P) (w := w) (mg := mg) (base := base) (G := Gk K) F sc_m_Cask_key fun A outer s H s0 Ex hr => bx_m_Cask_key E _ _ rfl A outer s H s0 Ex hr
  exact E.calM F ok rfl (fa_in (by decide +kernel)) (fa_in (by decide +kernel)) bi (by decide +kernel : ∀ f ∈ fl 8, f ≠ "key")
abbrev N_f_around : List Str := ["half"]
theorem nd_f_around : N_f_around.Nodup := by decide +kernel
theorem bx_f_around {P : Program} {w : World} {K : PySem.W.Frag} {mg : Str → Option Value} {base : Heap} (E : En fa fn tq w K mg base) (f : Addr) (c : Addr) (hcc : c = He.codeOf K d_f_around.at_) (A : Around) (outer : List Env) (s : Shared) (H : Hp) (s0 : L2.St) (Ex : XK) (hr : Room 0 (A.deeper (envOfC "around" (defScope s_f_around) s.heap.objs.size f (.ref c)))) :
    BX (Gk K) ⟨[0], s0⟩ (cxOf (L2.CX P w) P w K mg base N_f_around "around" (defScope s_f_around) f (.ref c) A outer s H Ex) (fun cls d _ H => Ex cls d H) (defBody s_f_around) b_f_around := by
  subst hcc
  refine bx_cons ?_ ?_
  · refine sx_if (tx_cmp op_lt os_lt (ax_s 0 (ax_v ex_int ax_nil))) ?_ ?_
    · refine bx_one ?_
      exact sx_raise (calX_BadSize E) rfl (takes_of rfl rfl rfl rfl)
    · exact bx_nil
  refine bx_one ?_
  exact sx_ret (ex_bin op_fdivW os_div (ax_v (ex_bin (op_add.or op_catL) (os_or2 os_add os_catL) (ax_v (ex_bin (op_mul.or op_mulW) (os_or2 os_mulS os_mul) (ax_v (ex_bin (op_mul.or op_mulW) (os_or2 os_mulS os_mul) (ax_v (ex_bin (op_mul.or op_mulW) (os_or2 os_mulS os_mul) (ax_v ex_int (ax_v ex_int ax_nil))) (ax_s 0 ax_nil))) (ax_v ex_int ax_nil))) (ax_v ex_int ax_nil))) (ax_v (ex_bin (op_mul.or op_mulW) (os_or2 os_mulS os_mul) (ax_v ex_int (ax_v ex_int ax_nil))) ax_nil)))
theorem sc_f_around : FnScope N_f_around ["half"] (defScope s_f_around) := ⟨rfl, rfl, rfl, by decide +kernel, rfl, by decide +kernel, by decide +kernel⟩
theorem cal_f_around {P : Program} {w : World} {K : PySem.W.Frag} {mg : Str → Option Value} {base : Heap} (E : En fa fn tq w K mg base) : CalF P w K mg base (Gk K) 1 "around" op_f_around := by
  obtain ⟨fd, F⟩ := E.def_ (d := d_f_around) (List.mem_of_getElem? (i := 7) rfl) s_f_around
  have bi : Binds K fd ["half"] [] := F.binds fun _ _ _ _ _ _ us hl => match us, hl with | [_], _ => rfl
  have ok := fn_ownC (P := P) (w := w) (mg := mg) (base := base) (G := Gk K) F sc_f_around fun A outer s H s0 Ex hr => bx_f_around E _ _ rfl A outer s H s0 Ex hr
  exact E.calF (d := d_f_around) F ok (fa_in (by decide +kernel)) bi
abbrev N_f_staves_for : List Str := ["half", "width"]
theorem nd_f_staves_for : N_f_staves_for.Nodup := by decide +kernel
theorem bx_f_staves_for {P : Program} {w : World} {K : PySem.W.Frag} {mg : Str → Option Value} {base : Heap} (E : En fa fn tq w K mg base) (f : Addr) (c : Addr) (hcc : c = He.codeOf K d_f_staves_for.at_) (A : Around) (outer : List Env) (s : Shared) (H : Hp) (s0 : L2.St) (Ex : XK) (hr : Room 1 (A.deeper (envOfC "staves_for" (defScope s_f_staves_for) s.heap.objs.size f (.ref c)))) :
    BX (Gk K) ⟨[0, 1], s0⟩ (cxOf (L2.CX P w) P w K mg base N_f_staves_for "staves_for" (defScope s_f_staves_for) f (.ref c) A outer s H Ex) (fun cls d _ H => Ex cls d H) (defBody s_f_staves_for) b_f_staves_for := by
  subst hcc
  refine bx_cons ?_ ?_
  · refine sx_if (tx_cmp op_lt os_lt (ax_s 1 (ax_v ex_int ax_nil))) ?_ ?_
    · refine bx_one ?_
      exact sx_raise (calX_BadSize E) rfl (takes_of rfl rfl rfl rfl)
    · exact bx_nil
  refine bx_one ?_
  exact sx_ret (ex_tup ops_tup (ax_v (ex_bin op_fdivW os_div (ax_v (ex_call (cal_f_around E) (hr.mono (by decide : 1 ≤ 1)) (takes_of rfl rfl rfl rfl) (ax_s 0 ax_nil) (pa_c pa_n)) (ax_s 1 ax_nil))) (ax_v (ex_bin op_mod os_mod (ax_v (ex_call (cal_f_around E) (hr.mono (by decide : 1 ≤ 1)) (takes_of rfl rfl rfl rfl) (ax_s 0 ax_nil) (pa_c pa_n)) (ax_s 1 ax_nil))) ax_nil)) (pa_c (pa_c pa_n)))
theorem sc_f_staves_for : FnScope N_f_staves_for ["half", "width"] (defScope s_f_staves_for) := ⟨rfl, rfl, rfl, by decide +kernel, rfl, by decide +kernel, by decide +kernel⟩
theorem cal_f_staves_for {P : Program} {w : World} {K : PySem.W.Frag} {mg : Str → Option Value} {base : Heap} (E : En fa fn tq w K mg base) : CalF P w K mg base (Gk K) 2 "staves_for" op_f_staves_for := by
  obtain ⟨fd, F⟩ := E.def_ (d := d_f_staves_for) (List.mem_of_getElem? (i := 8) rfl) s_f_staves_for
  have bi : Binds K fd ["half", "width"] [] := F.binds fun _ _ _ _ _ _ us hl => match us, hl with | [_, _], _ => rfl
  have ok := fn_ownC (P := P) (w := w) (mg := mg) (base := base) (G := Gk K) F sc_f_staves_for fun A outer s H s0 Ex hr => bx_f_staves_for E _ _ rfl A outer s H s0 Ex hr
  exact E.calF (d := d_f_staves_for) F ok (fa_in (by decide +kernel)) bi
abbrev N_f_tapered : List Str := ["cask", "many"]
theorem nd_f_tapered : N_f_tapered.Nodup := by decide +kernel
theorem bx_f_tapered {P : Program} {w : World} {K : PySem.W.Frag} {mg : Str → Option Value} {base : Heap} (E : En fa fn tq w K mg base) (f : Addr) (c : Addr) (hcc : c = He.codeOf K d_f_tapered.at_) (A : Around) (outer : List Env) (s : Shared) (H : Hp) (s0 : L2.St) (Ex : XK) (hr : Room 1 (A.deeper (envOfC "tapered" (defScope s_f_tapered) s.heap.objs.size f (.ref c)))) :
    BX (Gk K) ⟨[0, 1], s0⟩ (cxOf (L2.CX P w) P w K mg base N_f_tapered "tapered" (defScope s_f_tapered) f (.ref c) A outer s H Ex) (fun cls d _ H => Ex cls d H) (defBody s_f_tapered) b_f_tapered := by
  subst hcc
  refine bx_cons ?_ ?_
  · refine sx_if (tx_cmp op_lt os_lt (ax_s 1 (ax_v ex_int ax_nil))) ?_ ?_
    · refine bx_one ?_
      exact sx_raise (calX_BadSize E) rfl (takes_of rfl rfl rfl rfl)
    · exact bx_nil
  refine bx_one ?_
  exact sx_ret (ex_tup ops_tup (ax_v (ex_bin op_fdivW os_div (ax_v (ex_call (cal_f_around E) (hr.mono (by decide : 1 ≤ 1)) (takes_of rfl rfl rfl rfl) (ax_v (ex_fld (os_fld (c := 8) (k := 1) (cOk8 E) rfl) (ax_s 0 ax_nil)) ax_nil) (pa_c pa_n)) (ax_s 1 ax_nil))) (ax_v (ex_bin op_fdivW os_div (ax_v (ex_call (cal_f_around E) (hr.mono (by decide : 1 ≤ 1)) (takes_of rfl rfl rfl rfl) (ax_v (ex_fld (os_fld (c := 8) (k := 2) (cOk8 E) rfl) (ax_s 0 ax_nil)) ax_nil) (pa_c pa_n)) (ax_s 1 ax_nil))) ax_nil)) (pa_c (pa_c pa_n)))
theorem sc_f_tapered : FnScope N_f_tapered ["cask", "many"] (defScope s_f_tapered) := ⟨rfl, rfl, rfl, by decide +kernel, rfl, by decide +kernel, by decide +kernel⟩
theorem cal_f_tapered {P : Program} {w : World} {K : PySem.W.Frag} {mg : Str → Option Value} {base : Heap} (E : En fa fn tq w K mg base) : CalF P w K mg base (Gk K) 2 "tapered" op_f_tapered := by
  obtain ⟨fd, F⟩ := E.def_ (d := d_f_tapered) (List.mem_of_getElem? (i := 9) rfl) s_f_tapered
  have bi : Binds K fd ["cask", "many"] [] := F.binds fun _ _ _ _ _ _ us hl => match us, hl with | [_, _], _ => rfl
  have ok := fn_ownC (P := P) (w := w) (mg := mg) (base := base) (G := Gk K) F sc_f_tapered fun A outer s H s0 Ex hr => bx_f_tapered E _ _ rfl A outer s H s0 Ex hr
  exact E.calF (d := d_f_tapered) F ok (fa_in (by decide +kernel)) bi
abbrev N_f_even_round : List Str := ["total", "many", "k"]
theorem nd_f_even_round : N_f_even_round.Nodup := by decide +kernel
theorem bx_f_even_round {P : Program} {w : World} {K : PySem.W.Frag} {mg : Str → Option Value} {base : Heap} (E : En fa fn tq w K mg base) (f : Addr) (c : Addr) (hcc : c = He.codeOf K d_f_even_round.at_) (A : Around) (outer : List Env) (s : Shared) (H : Hp) (s0 : L2.St) (Ex : XK) (hr : Room 0 (A.deeper (envOfC "even_round" (defScope s_f_even_round) s.heap.objs.size f (.ref c)))) :
    BX (Gk K) ⟨[0, 1], s0⟩ (cxOf (L2.CX P w) P w K mg base N_f_even_round "even_round" (defScope s_f_even_round) f (.ref c) A outer s H Ex) (fun cls d _ H => Ex cls d H) (defBody s_f_even_round) b_f_even_round := by
  subst hcc
  refine bx_cons ?_ ?_
  · refine sx_if (TW.tx (tw_or (tx_cmp op_lt os_lt (ax_s 1 (ax_v ex_int ax_nil))) (tw_or1 (tx_cmp op_lt os_lt (ax_s 0 (ax_s 1 ax_nil)))))) ?_ ?_
    · refine bx_one ?_
      exact sx_raise (calX_BadSize E) rfl (takes_of rfl rfl rfl rfl)
    · exact bx_nil
  refine bx_one ?_
  exact sx_ret (ex_callT call_tuple_of os_tuple (fr_tuple E) (by decide +kernel) (ax_v (ex_lc rfl nd_f_even_round (pi_range1 (by rfl) (fr_range E) (pa_c pa_n)) (blkOk_by (own := [("k", 2)]) (by rfl)) ⟨fun N' hv' s' H' C' cl' fp' => (gx_name 2 (hv' _ (by simp)) nd_f_even_round), fun N' hv' s' H' C' cl' fp' => .nil, fun N' hv' s' H' C' cl' fp' => (ex_bin (op_add.or op_catL) (os_or2 os_add os_catL) (ax_v (ex_bin op_fdivW os_div (ax_s 0 (ax_s 1 ax_nil))) (ax_v (ex_if (tx_cmp op_lt os_lt (ax_s 2 (ax_v (ex_bin op_mod os_mod (ax_s 0 (ax_s 1 ax_nil))) ax_nil))) ex_int ex_int) ax_nil)))⟩ (ax_v (ex_frz 1) ax_nil) it_r1) ax_nil) (pa_c pa_n))
theorem sc_f_even_round : FnScope N_f_even_round ["total", "many"] (defScope s_f_even_round) := ⟨rfl, rfl, rfl, by decide +kernel, rfl, by decide +kernel, by decide +kernel⟩
theorem cal_f_even_round {P : Program} {w : World} {K : PySem.W.Frag} {mg : Str → Option Value} {base : Heap} (E : En fa fn tq w K mg base) : CalF P w K mg base (Gk K) 1 "even_round" op_f_even_round := by
  obtain ⟨fd, F⟩ := E.def_ (d := d_f_even_round) (List.mem_of_getElem? (i := 10) rfl) s_f_even_round
  have bi : Binds K fd ["total", "many"] [] := F.binds fun _ _ _ _ _ _ us hl => match us, hl with | [_, _], _ => rfl
  have ok := fn_ownC (P := P) (w := w) (mg := mg) (base := base) (G := Gk K) F sc_f_even_round fun A outer s H s0 Ex hr => bx_f_even_round E _ _ rfl A outer s H s0 Ex hr
  exact E.calF (d := d_f_even_round) F ok (fa_in (by decide +kernel)) bi
abbrev N_f_alternated : List Str := ["widths", "rows", "found"]
theorem nd_f_alternated : N_f_alternated.Nodup := by decide +kernel
theorem bx_f_alternated {P : Program} {w : World} {K : PySem.W.Frag} {mg : Str → Option Value} {base : Heap} (E : En fa fn tq w K mg base) (f : Addr) (c : Addr) (hcc : c = He.codeOf K d_f_alternated.at_) (A : Around) (outer : List Env) (s : Shared) (H : Hp) (s0 : L2.St) (Ex : XK) (hr : Room 0 (A.deeper (envOfC "alternated" (defScope s_f_alternated) s.heap.objs.size f (.ref c)))) :
    BX (Gk K) ⟨[0], s0⟩ (cxOf (L2.CX P w) P w K mg base N_f_alternated "alternated" (defScope s_f_alternated) f (.ref c) A outer s H Ex) (fun cls d _ H => Ex cls d H) (defBody s_f_alternated) b_f_alternated := by
  subst hcc
  refine bx_cons ?_ ?_
  · exact sx_par2 1 2 (ax_v (ex_srtR rfl (Room.u66 hr) rfl (fr_sorted E) (ax_s 0 ax_nil) (pa_c pa_n)) (ax_v (ex_lst ops_lst ax_nil pa_n) ax_nil)) (pa_c (pa_c pa_n)) rfl (by decide : ¬ 1 ∈ ([0] : List Nat)) (by decide : ¬ 2 ∈ ([0] : List Nat)) nd_f_alternated rfl
  refine bx_cons ?_ ?_
  · refine sx_while 100000 (passes_of rfl) (tx_cmp (op_neD (Room.u64 hr)) os_ne (ax_s 1 (ax_v (ex_lst ops_lst ax_nil pa_n) ax_nil))) ?_
    refine bx_cons ?_ ?_
    · exact sx_exp (ex_bm rfl PySem.F.plainAttrs_list PySem.F.slot_list_append PySem.F.type_list_append mt_append os_app (ax_s 2 ax_nil) (ax_v (ex_bm rfl PySem.F.plainAttrs_list PySem.F.slot_list_pop PySem.F.type_list_pop mt_popAt os_popAt (ax_s 1 ax_nil) (ax_v ex_int ax_nil) (pa_c pa_n)) ax_nil) (pa_c pa_n))
    refine bx_one ?_
    refine sx_if (tx_cmp (op_neD (Room.u64 hr)) os_ne (ax_s 1 (ax_v (ex_lst ops_lst ax_nil pa_n) ax_nil))) ?_ ?_
    · refine bx_one ?_
      exact sx_exp (ex_bm rfl PySem.F.plainAttrs_list PySem.F.slot_list_append PySem.F.type_list_append mt_append os_app (ax_s 2 ax_nil) (ax_v (ex_bm0 rfl PySem.F.plainAttrs_list PySem.F.slot_list_pop PySem.F.type_list_pop mt_pop os_pop (ax_s 1 ax_nil)) ax_nil) (pa_c pa_n))
    · exact bx_nil
  refine bx_one ?_
  exact sx_ret (ex_callT call_tuple_of os_tuple (fr_tuple E) (by decide +kernel) (ax_s 2 ax_nil) (pa_c pa_n))
theorem sc_f_alternated : FnScope N_f_alternated ["widths"] (defScope s_f_alternated) := ⟨rfl, rfl, rfl, by decide +kernel, rfl, by decide +kernel, by decide +kernel⟩
theorem cal_f_alternated {P : Program} {w : World} {K : PySem.W.Frag} {mg : Str → Option Value} {base : Heap} (E : En fa fn tq w K mg base) : CalF P w K mg base (Gk K) 1 "alternated" op_f_alternated := by
  obtain ⟨fd, F⟩ := E.def_ (d := d_f_alternated) (List.mem_of_getElem? (i := 11) rfl) s_f_alternated
  have bi : Binds K fd ["widths"] [] := F.binds fun _ _ _ _ _ _ us hl => match us, hl with | [_], _ => rfl
  have ok := fn_ownC (P := P) (w := w) (mg := mg) (base := base) (G := Gk K) F sc_f_alternated fun A outer s H s0 Ex hr => bx_f_alternated E _ _ rfl A outer s H s0 Ex hr
  exact E.calF (d := d_f_alternated) F ok (fa_in (by decide +kernel)) bi
abbrev N_m_Head_init : List Str := ["self", "half", "boards"]
theorem nd_m_Head_init : N_m_Head_init.Nodup := by decide +kernel
theorem bx_m_Head_init {P : Program} {w : World} {K : PySem.W.Frag} {mg : Str → Option Value} {base : Heap} (E : En fa fn tq w K mg base) (f : Addr) (c : Addr) (hcc : c = He.codeOf K d_m_Head_init.at_) (A : Around) (outer : List Env) (s : Shared) (H : Hp) (s0 : L2.St) (Ex : XK) (hr : Room 0 (A.deeper (envOfC "Head.__init__" (defScope s_m_Head_init) s.heap.objs.size f (.ref c)))) :
    BX (Gk K) ⟨[0, 1, 2], s0⟩ (cxOf (L2.CX P w) P w K mg base N_m_Head_init "Head.__init__" (defScope s_m_Head_init) f (.ref c) A outer s H Ex) (fun cls d _ H => Ex cls d H) (defBody s_m_Head_init) b_m_Head_init := by
  subst hcc
  refine bx_cons ?_ ?_
  · refine sx_if (TW.tx (tw_or (tx_cmp op_lt os_lt (ax_s 1 (ax_v ex_int ax_nil))) (tw_or (tx_cmp (op_eqD (Room.u64 hr)) os_eq (ax_v (ex_callB call_len os_len (fr_len E) (by decide +kernel) (ax_s 2 ax_nil) (pa_c pa_n)) (ax_v ex_int ax_nil))) (tw_or1 (tx_cmp op_lt os_lt (ax_v (ex_callB (cr_mn rfl (Room.u66 hr)) os_min (fr_min E) (by decide +kernel) (ax_s 2 ax_nil) (pa_c pa_n)) (ax_v ex_int ax_nil))))))) ?_ ?_
    · refine bx_one ?_
      exact sx_raise (calX_BadSize E) rfl (takes_of rfl rfl rfl rfl)
    · exact bx_nil
  refine bx_cons ?_ ?_
  · refine sx_if (TW.tx (tw_or (tx_cmp op_lt os_lt (ax_v (ex_callB (cr_sm rfl) os_sum (fr_sum E) (by decide +kernel) (ax_s 2 ax_nil) (pa_c pa_n)) (ax_v (ex_bin (op_mul.or op_mulW) (os_or2 os_mulS os_mul) (ax_v ex_int (ax_s 1 ax_nil))) ax_nil))) (tw_or1 (tx_cmp op_ge os_ge (ax_v (ex_callB (cr_sm rfl) os_sum (fr_sum E) (by decide +kernel) (ax_v (ex_sl rfl (ex_frz 2) .none (.some (ex_un un_neg os_neg (ax_v ex_int ax_nil)))) ax_nil) (pa_c pa_n)) (ax_v (ex_bin (op_mul.or op_mulW) (os_or2 os_mulS os_mul) (ax_v ex_int (ax_s 1 ax_nil))) ax_nil)))))) ?_ ?_
    · refine bx_one ?_
      exact sx_raise (calX_BadPlan E) rfl (takes_of rfl rfl rfl rfl)
    · exact bx_nil
  refine bx_cons ?_ ?_
  · exact sx_fld 0 9 0 rfl (cOk9 E) rfl (ex_frz 1)
  refine bx_one ?_
  exact sx_fld 0 9 1 rfl (cOk9 E) rfl (ex_callT call_tuple_of os_tuple (fr_tuple E) (by decide +kernel) (ax_s 2 ax_nil) (pa_c pa_n))
theorem sc_m_Head_init : FnScope N_m_Head_init ["self", "half", "boards"] (defScope s_m_Head_init) := ⟨rfl, rfl, rfl, by decide +kernel, rfl, by decide +kernel, by decide +kernel⟩
theorem cal_m_Head_init {P : Program} {w : World} {K : PySem.W.Frag} {mg : Str → Option Value} {base : Heap} (E : En fa fn tq w K mg base) : CalC P w K mg base (Gk K) 1 "Head" 9 op_m_Head_init := by
  obtain ⟨fd, F⟩ := E.def_ (d := d_m_Head_init) (List.mem_of_getElem? (i := 12) rfl) s_m_Head_init
  have bi : Binds K fd ["self", "half", "boards"] [] := F.binds fun _ _ _ _ _ _ us hl => match us, hl with | [_, _, _], _ => rfl
  have ok := fn_ownC (P := P) (w := w) (mg := mg) (base := base) (G := Gk K) F sc_m_Head_init fun A outer s H s0 Ex hr => bx_m_Head_init E _ _ rfl A outer s H s0 Ex hr
  exact E.calC F ok rfl (fa_in (by decide +kernel)) (fa_in (by decide +kernel)) bi
abbrev N_m_Head_over : List Str := ["self"]
theorem nd_m_Head_over : N_m_Head_over.Nodup := by decide +kernel
theorem bx_m_Head_over {P : Program} {w : World} {K : PySem.W.Frag} {mg : Str → Option Value} {base : Heap} (E : En fa fn tq w K mg base) (f : Addr) (c : Addr) (hcc : c = He.codeOf K d_m_Head_over.at_) (A : Around) (outer : List Env) (s : Shared) (H : Hp) (s0 : L2.St) (Ex : XK) (hr : Room 0 (A.deeper (envOfC "Head.over" (defScope s_m_Head_over) s.heap.objs.size f (.ref c)))) :
    BX (Gk K) ⟨[0], s0⟩ (cxOf (L2.CX P w) P w K mg base N_m_Head_over "Head.over" (defScope s_m_Head_over) f (.ref c) A outer s H Ex) (fun cls d _ H => Ex cls d H) (defBody s_m_Head_over) b_m_Head_over := by
  subst hcc
  refine bx_one ?_
  exact sx_ret (ex_bin op_sub os_sub (ax_v (ex_callB (cr_sm rfl) os_sum (fr_sum E) (by decide +kernel) (ax_v (ex_fld (os_fld (c := 9) (k := 1) (cOk9 E) rfl) (ax_s 0 ax_nil)) ax_nil) (pa_c pa_n)) (ax_v (ex_bin (op_mul.or op_mulW) (os_or2 os_mulS os_mul) (ax_v ex_int (ax_v (ex_fld (os_fld (c := 9) (k := 0) (cOk9 E) rfl) (ax_s 0 ax_nil)) ax_nil))) ax_nil)))
theorem sc_m_Head_over : FnScope N_m_Head_over ["self"] (defScope s_m_Head_over) := ⟨rfl, rfl, rfl, by decide +kernel, rfl, by decide +kernel, by decide +kernel⟩
theorem cal_m_Head_over {P : Program} {w : World} {K : PySem.W.Frag} {mg : Str → Option Value} {base : Heap} (E : En fa fn tq w K mg base) : CalM P w K mg base (Gk K) 1 "over" 9 op_m_Head_over := by
  obtain ⟨fd, F⟩ := E.def_ (d := d_m_Head_over) (List.mem_of_getElem? (i := 13) rfl) s_m_Head_over
  have bi : Binds K fd ["self"] [] := F.binds fun _ _ _ _ _ _ us hl => match us, hl with | [_], _ => rfl
  have ok := fn_ownC (P := P) (w := w) (mg := mg) (base := base) (G := Gk K) F sc_m_Head_over fun A outer s H s0 Ex hr => bx_m_Head_over E _ _ rfl A outer s H s0 Ex hr
  exact E.calM F ok rfl (fa_in (by decide +kernel)) (fa_in (by decide +kernel)) bi (by decide +kernel : ∀ f ∈ fl 9, f ≠ "over")
abbrev N_m_Head_lengths : List Str := ["self", "found", "here", "board", "near", "square", "root"]
theorem nd_m_Head_lengths : N_m_Head_lengths.Nodup := by decide +kernel
theorem bx_m_Head_lengths {P : Program} {w : World} {K : PySem.W.Frag} {mg : Str → Option Value} {base : Heap} (E : En fa fn tq w K mg base) (f : Addr) (c : Addr) (hcc : c = He.codeOf K d_m_Head_lengths.at_) (A : Around) (outer : List Env) (s : Shared) (H : Hp) (s0 : L2.St) (Ex : XK) (hr : Room 1 (A.deeper (envOfC "Head.lengths" (defScope s_m_Head_lengths) s.heap.objs.size f (.ref c)))) :
    BX (Gk K) ⟨[0], s0⟩ (cxOf (L2.CX P w) P w K mg base N_m_Head_lengths "Head.lengths" (defScope s_m_Head_lengths) f (.ref c) A outer s H Ex) (fun cls d _ H => Ex cls d H) (defBody s_m_Head_lengths) b_m_Head_lengths := by
  subst hcc
  refine bx_cons ?_ ?_
  · exact sx_par2 1 2 (ax_v (ex_lst ops_lst ax_nil pa_n) (ax_v (ex_bin op_sub os_sub (ax_v (ex_bin op_sub os_sub (ax_v ex_int (ax_v (ex_fld (os_fld (c := 9) (k := 0) (cOk9 E) rfl) (ax_s 0 ax_nil)) ax_nil))) (ax_v (ex_bin op_fdivW os_div (ax_v (ex_meth0 (cal_m_Head_over E) (hr.mono (by decide : 1 ≤ 1)) (takes_of rfl rfl rfl rfl) (ax_s 0 ax_nil)) (ax_v ex_int ax_nil))) ax_nil))) ax_nil)) (pa_c (pa_c pa_n)) rfl (by decide : ¬ 1 ∈ ([0] : List Nat)) (by decide : ¬ 2 ∈ ([0] : List Nat)) nd_m_Head_lengths rfl
  refine bx_cons ?_ ?_
  · refine sx_for (passes_of rfl) rfl pi_a (ax_v (ex_fld (os_fld (c := 9) (k := 1) (cOk9 E) rfl) (ax_s 0 ax_nil)) ax_nil) it_a (gx_name 3 (by decide : ¬ 3 ∈ ([0] : List Nat)) nd_m_Head_lengths) ?_
    refine bx_cons ?_ ?_
    · exact sx_set 4 (ex_if (tx_chain ci_le ci_le (ex_frz 2) ex_int (ex_bin (op_add.or op_catL) (os_or2 os_add os_catL) (ax_s 2 (ax_s 3 ax_nil)))) ex_int (ex_callB (call_min2 rfl) os_min2 (fr_min E) (by decide +kernel) (ax_v (ex_callB call_abs os_abs (fr_abs E) (by decide +kernel) (ax_s 2 ax_nil) (pa_c pa_n)) (ax_v (ex_callB call_abs os_abs (fr_abs E) (by decide +kernel) (ax_v (ex_bin (op_add.or op_catL) (os_or2 os_add os_catL) (ax_s 2 (ax_s 3 ax_nil))) ax_nil) (pa_c pa_n)) ax_nil)) (pa_c (pa_c pa_n)))) (by decide : ¬ 4 ∈ ([0] : List Nat)) nd_m_Head_lengths
    refine bx_cons ?_ ?_
    · exact sx_set 5 (ex_callB (call_max2 rfl) os_max2 (fr_max E) (by decide +kernel) (ax_v ex_int (ax_v (ex_bin op_sub os_sub (ax_v (ex_bin (op_mul.or op_mulW) (os_or2 os_mulS os_mul) (ax_v (ex_fld (os_fld (c := 9) (k := 0) (cOk9 E) rfl) (ax_s 0 ax_nil)) (ax_v (ex_fld (os_fld (c := 9) (k := 0) (cOk9 E) rfl) (ax_s 0 ax_nil)) ax_nil))) (ax_v (ex_bin (op_mul.or op_mulW) (os_or2 os_mulS os_mul) (ax_s 4 (ax_s 4 ax_nil))) ax_nil))) ax_nil)) (pa_c (pa_c pa_n))) (by decide : ¬ 5 ∈ ([0] : List Nat)) nd_m_Head_lengths
    refine bx_cons ?_ ?_
    · exact sx_set 6 ex_int (by decide : ¬ 6 ∈ ([0] : List Nat)) nd_m_Head_lengths
    refine bx_cons ?_ ?_
    · refine sx_while 100000 (passes_of rfl) (tx_cmp op_lt os_lt (ax_v (ex_bin (op_mul.or op_mulW) (os_or2 os_mulS os_mul) (ax_s 6 (ax_s 6 ax_nil))) (ax_s 5 ax_nil))) ?_
      refine bx_one ?_
      exact sx_augI 6 ip_add ex_int (by decide : ¬ 6 ∈ ([0] : List Nat)) nd_m_Head_lengths
    refine bx_cons ?_ ?_
    · exact sx_exp (ex_bm rfl PySem.F.plainAttrs_list PySem.F.slot_list_append PySem.F.type_list_append mt_append os_app (ax_s 1 ax_nil) (ax_v (ex_bin (op_mul.or op_mulW) (os_or2 os_mulS os_mul) (ax_v ex_int (ax_s 6 ax_nil))) ax_nil) (pa_c pa_n))
    refine bx_one ?_
    exact sx_augI 2 ip_add (ex_frz 3) (by decide : ¬ 2 ∈ ([0] : List Nat)) nd_m_Head_lengths
  refine bx_one ?_
  exact sx_ret (ex_callT call_tuple_of os_tuple (fr_tuple E) (by decide +kernel) (ax_s 1 ax_nil) (pa_c pa_n))
theorem sc_m_Head_lengths : FnScope N_m_Head_lengths ["self"] (defScope s_m_Head_lengths) := ⟨rfl, rfl, rfl, by decide +kernel, rfl, by decide +kernel, by decide +kernel⟩
theorem cal_m_Head_lengths {P : Program} {w : World} {K : PySem.W.Frag} {mg : Str → Option Value} {base : Heap} (E : En fa fn tq w K mg base) : CalM P w K mg base (Gk K) 2 "lengths" 9 op_m_Head_lengths := by
  obtain ⟨fd, F⟩ := E.def_ (d := d_m_Head_lengths) (List.mem_of_getElem? (i := 14) rfl) s_m_Head_lengths
  have bi : Binds K fd ["self"] [] := F.binds fun _ _ _ _ _ _ us hl => match us, hl with | [_], _ => rfl
  have ok := fn_ownC (P := P) (w := w) (mg := mg) (base := base) (G := Gk K) F sc_m_Head_lengths fun A outer s H s0 Ex hr => bx_m_Head_lengths E _ _ rfl A outer s H s0 Ex hr
  exact E.calM F ok rfl (fa_in (by decide +kernel)) (fa_in (by decide +kernel)) bi (by decide +kernel : ∀ f ∈ fl 9, f ≠ "lengths")
abbrev N_m_Hoops_lengths : List Str := ["self", "place"]
theorem nd_m_Hoops_lengths : N_m_Hoops_lengths.Nodup := by decide +kernel
theorem bx_m_Hoops_lengths {P : Program} {w : World} {K : PySem.W.Frag} {mg : Str → Option Value} {base : Heap} (E : En fa fn tq w K mg base) (f : Addr) (c : Addr) (hcc : c = He.codeOf K d_m_Hoops_lengths.at_) (A : Around) (outer : List Env) (s : Shared) (H : Hp) (s0 : L2.St) (Ex : XK) (hr : Room 2 (A.deeper (envOfC "Hoops.lengths" (defScope s_m_Hoops_lengths) s.heap.objs.size f (.ref c)))) :
    BX (Gk K) ⟨[0], s0⟩ (cxOf (L2.CX P w) P w K mg base N_m_Hoops_lengths "Hoops.lengths" (defScope s_m_Hoops_lengths) f (.ref c) A outer s H Ex) (fun cls d _ H => Ex cls d H) (defBody s_m_Hoops_lengths) b_m_Hoops_lengths := by
  subst hcc
  refine bx_one ?_
  exact sx_ret (ex_callT call_tuple_of os_tuple (fr_tuple E) (by decide +kernel) (ax_v (ex_lc rfl nd_m_Hoops_lengths pi_a (blkOk_by (own := [("place", 1)]) (by rfl)) ⟨fun N' hv' s' H' C' cl' fp' => (gx_name 1 (hv' _ (by simp)) nd_m_Hoops_lengths), fun N' hv' s' H' C' cl' fp' => .nil, fun N' hv' s' H' C' cl' fp' => (ex_bin (op_add.or op_catL) (os_or2 os_add os_catL) (ax_v (ex_call (cal_f_around E) (hr.mono (by decide : 1 ≤ 2)) LamX.takes0 (ax_v (ex_meth (cal_m_Cask_half_at E) (hr.mono (by decide : 2 ≤ 2)) LamX.takes0 (ax_v (ex_fld (os_fld (c := 10) (k := 0) (cOk10 E) rfl) (ax_s 0 ax_nil)) ax_nil) (ax_v (ex_bin (op_add.or op_catL) (os_or2 os_add os_catL) (ax_s 1 (ax_v (ex_bin op_fdivW os_div (ax_v (ex_fld (os_fld (c := 10) (k := 2) (cOk10 E) rfl) (ax_s 0 ax_nil)) (ax_v ex_int ax_nil))) ax_nil))) ax_nil) (pa_c pa_n)) ax_nil) (pa_c pa_n)) (ax_v (ex_fld (os_fld (c := 10) (k := 3) (cOk10 E) rfl) (ax_s 0 ax_nil)) ax_nil)))⟩ (ax_v (ex_fld (os_fld (c := 10) (k := 1) (cOk10 E) rfl) (ax_s 0 ax_nil)) ax_nil) it_a) ax_nil) (pa_c pa_n))
theorem sc_m_Hoops_lengths : FnScope N_m_Hoops_lengths ["self"] (defScope s_m_Hoops_lengths) := ⟨rfl, rfl, rfl, by decide +kernel, rfl, by decide +kernel, by decide +kernel⟩
theorem cal_m_Hoops_lengths {P : Program} {w : World} {K : PySem.W.Frag} {mg : Str → Option Value} {base : Heap} (E : En fa fn tq w K mg base) : CalM P w K mg base (Gk K) 3 "lengths" 10 op_m_Hoops_lengths := by
  obtain ⟨fd, F⟩ := E.def_ (d := d_m_Hoops_lengths) (List.mem_of_getElem? (i := 19) rfl) s_m_Hoops_lengths
  have bi : Binds K fd ["self"] [] := F.binds fun _ _ _ _ _ _ us hl => match us, hl with | [_], _ => rfl
  have ok := fn_ownC (P := P) (w := w) (mg := mg) (base := base) (G := Gk K) F sc_m_Hoops_lengths fun A outer s H s0 Ex hr => bx_m_Hoops_lengths E _ _ rfl A outer s H s0 Ex hr
  exact E.calM F ok rfl (fa_in (by decide +kernel)) (fa_in (by decide +kernel)) bi (by decide +kernel : ∀ f ∈ fl 10, f ≠ "lengths")
abbrev N_m_Head_pegs : List Str := ["self", "gap", "sizes"]
theorem nd_m_Head_pegs : N_m_Head_pegs.Nodup := by decide +kernel
theorem bx_m_Head_pegs {P : Program} {w : World} {K : PySem.W.Frag} {mg : Str → Option Value} {base : Heap} (E : En fa fn tq w K mg base) (f : Addr) (c : Addr) (hcc : c = He.codeOf K d_m_Head_pegs.at_) (A : Around) (outer : List Env) (s : Shared) (H : Hp) (s0 : L2.St) (Ex : XK) (hr : Room 4 (A.deeper (envOfC "Head.pegs" (defScope s_m_Head_pegs) s.heap.objs.size f (.ref c)))) :
    BX (Gk K) ⟨[0, 1], s0⟩ (cxOf (L2.CX P w) P w K mg base N_m_Head_pegs "Head.pegs" (defScope s_m_Head_pegs) f (.ref c) A outer s H Ex) (fun cls d _ H => Ex cls d H) (defBody s_m_Head_pegs) b_m_Head_pegs := by
  subst hcc
  refine bx_cons ?_ ?_
  · refine sx_if (tx_cmp op_lt os_lt (ax_s 1 (ax_v ex_int ax_nil))) ?_ ?_
    · refine bx_one ?_
      exact sx_raise (calX_BadSize E) rfl (takes_of rfl rfl rfl rfl)
    · exact bx_nil
  refine bx_cons ?_ ?_
  · exact sx_set 2 (ex_meth0 (cal_m_Head_lengths E) (hr.mono (by decide : 2 ≤ 4)) (takes_of rfl rfl rfl rfl) (ax_s 0 ax_nil)) (by decide : ¬ 2 ∈ ([0, 1] : List Nat)) nd_m_Head_pegs
  refine bx_one ?_
  exact sx_ret (ex_sum (GenH.mk (k := 3) (m := 1) (Ng := ["k", "self", "gap", "sizes"]) hr (E.t (d_m_Head_pegs.at_, Lq "Head.pegs" ++ "<genexpr>") (List.mem_of_getElem? (i := 0) rfl)) rfl (gsc_by (by rfl)) (En.tabM (p := (d_m_Head_pegs.at_, Lq "Head.pegs" ++ "<genexpr>")) (List.mem_of_getElem? (i := 0) rfl)) (E.tabU (p := (d_m_Head_pegs.at_, Lq "Head.pegs" ++ "<genexpr>")) (List.mem_of_getElem? (i := 0) rfl)) (pi_range2 (by rfl) (fr_range E) (pa_c (pa_c pa_n))) (by intro _; rfl) (by rfl) (by decide) (by decide) (fun A' s' H' C' cl' cd' fp' pn' N' hr' hJ => ⟨(gx_name 0 (fun hh => absurd (hJ _ hh) (by decide)) (by decide +kernel : (["k", "self", "gap", "sizes"] : List Str).Nodup)), .nil, (ex_callB (call_max2 rfl) os_max2 (fr_max E) (by decide +kernel) (ax_v ex_int (ax_v (ex_bin op_fdivW os_div (ax_v (ex_callB (call_min2 rfl) os_min2 (fr_min E) (by decide +kernel) (ax_v (ex_ix ix_seq os_ix (ax_s 3 (ax_s 0 ax_nil))) (ax_v (ex_ix ix_seq os_ix (ax_s 3 (ax_v (ex_bin op_sub os_sub (ax_s 0 (ax_v ex_int ax_nil))) ax_nil))) ax_nil)) (pa_c (pa_c pa_n))) (ax_s 2 ax_nil))) ax_nil)) (pa_c (pa_c pa_n)))⟩) (ax_v ex_int (ax_v (ex_callB call_len os_len (fr_len E) (by decide +kernel) (ax_s 2 ax_nil) (pa_c pa_n)) ax_nil)) it_r2) rfl (fr_sum E))
theorem sc_m_Head_pegs : FnScope N_m_Head_pegs ["self", "gap"] (defScope s_m_Head_pegs) := ⟨rfl, rfl, rfl, by decide +kernel, rfl, by decide +kernel, by decide +kernel⟩
theorem cal_m_Head_pegs {P : Program} {w : World} {K : PySem.W.Frag} {mg : Str → Option Value} {base : Heap} (E : En fa fn tq w K mg base) : CalM P w K mg base (Gk K) 5 "pegs" 9 op_m_Head_pegs := by
  obtain ⟨fd, F⟩ := E.def_ (d := d_m_Head_pegs) (List.mem_of_getElem? (i := 15) rfl) s_m_Head_pegs
  have bi : Binds K fd ["self", "gap"] [] := F.binds fun _ _ _ _ _ _ us hl => match us, hl with | [_, _], _ => rfl
  have ok := fn_ownC (P := P) (w := w) (mg := mg) (base := base) (G := Gk K) F sc_m_Head_pegs fun A outer s H s0 Ex hr => bx_m_Head_pegs E _ _ rfl A outer s H s0 Ex hr
  exact E.calM F ok rfl (fa_in (by decide +kernel)) (fa_in (by decide +kernel)) bi (by decide +kernel : ∀ f ∈ fl 9, f ≠ "pegs")
abbrev N_m_Head_key : List Str := ["self"]
theorem nd_m_Head_key : N_m_Head_key.Nodup := by decide +kernel
theorem bx_m_Head_key {P : Program} {w : World} {K : PySem.W.Frag} {mg : Str → Option Value} {base : Heap} (E : En fa fn tq w K mg base) (f : Addr) (c : Addr) (hcc : c = He.codeOf K d_m_Head_key.at_) (A : Around) (outer : List Env) (s : Shared) (H : Hp) (s0 : L2.St) (Ex : XK) (hr : Room 0 (A.deeper (envOfC "Head.key" (defScope s_m_Head_key) s.heap.objs.size f (.ref c)))) :
    BX (Gk K) ⟨[0], s0⟩ (cxOf (L2.CX P w) P w K mg base N_m_Head_key "Head.key" (defScope s_m_Head_key) f (.ref c) A outer s H Ex) (fun cls d _ H => Ex cls d H) (defBody s_m_Head_key) b_m_Head_key := by
  subst hcc
  refine bx_one ?_
  exact sx_ret (ex_tup ops_tup (ax_v (ex_fld (os_fld (c := 9) (k := 0) (cOk9 E) rfl) (ax_s 0 ax_nil)) (ax_v (ex_fld (os_fld (c := 9) (k := 1) (cOk9 E) rfl) (ax_s 0 ax_nil)) ax_nil)) (pa_c (pa_c pa_n)))
theorem sc_m_Head_key : FnScope N_m_Head_key ["self"] (defScope s_m_Head_key) := ⟨rfl, rfl, rfl, by decide +kernel, rfl, by decide +kernel, by decide +kernel⟩
theorem cal_m_Head_key {P : Program} {w : World} {K : PySem.W.Frag} {mg : Str → Option Value} {base : Heap} (E : En fa fn tq w K mg base) : CalM P w K mg base (Gk K) 1 "key" 9 op_m_Head_key := by
  obtain ⟨fd, F⟩ := E.def_ (d := d_m_Head_key) (List.mem_of_getElem? (i := 16) rfl) s_m_Head_key
  have bi : Binds K fd ["self"] [] := F.binds fun _ _ _ _ _ _ us hl => match us, hl with | [_], _ => rfl
  have ok := fn_ownC (P := P) (w := w) (mg := mg) (base := base) (G := Gk K) F sc_m_Head_key fun A outer s H s0 Ex hr => bx_m_Head_key E _ _ rfl A outer s H s0 Ex hr
  exact E.calM F ok rfl (fa_in (by decide +kernel)) (fa_in (by decide +kernel)) bi (by decide +kernel : ∀ f ∈ fl 9, f ≠ "key")
abbrev N_f_head_boards : List Str := ["half", "widths", "found", "width"]
theorem nd_f_head_boards : N_f_head_boards.Nodup := by decide +kernel
theorem bx_f_head_boards {P : Program} {w : World} {K : PySem.W.Frag} {mg : Str → Option Value} {base : Heap} (E : En fa fn tq w K mg base) (f : Addr) (c : Addr) (hcc : c = He.codeOf K d_f_head_boards.at_) (A : Around) (outer : List Env) (s : Shared) (H : Hp) (s0 : L2.St) (Ex : XK) (hr : Room 0 (A.deeper (envOfC "head_boards" (defScope s_f_head_boards) s.heap.objs.size f (.ref c)))) :
    BX (Gk K) ⟨[0, 1], s0⟩ (cxOf (L2.CX P w) P w K mg base N_f_head_boards "head_boards" (defScope s_f_head_boards) f (.ref c) A outer s H Ex) (fun cls d _ H => Ex cls d H) (defBody s_f_head_boards) b_f_head_boards := by
  subst hcc
  refine bx_cons ?_ ?_
  · exact sx_set 2 (ex_lst ops_lst ax_nil pa_n) (by decide : ¬ 2 ∈ ([0, 1] : List Nat)) nd_f_head_boards
  refine bx_cons ?_ ?_
  · refine sx_for (passes_of rfl) rfl pi_a (ax_v (ex_srtR rfl (Room.u66 hr) rfl (fr_sorted E) (ax_s 1 ax_nil) (pa_c pa_n)) ax_nil) it_a (gx_name 3 (by decide : ¬ 3 ∈ ([0, 1] : List Nat)) nd_f_head_boards) ?_
    refine bx_cons ?_ ?_
    · refine sx_if (tx_cmp op_ge os_ge (ax_v (ex_callB (cr_sm rfl) os_sum (fr_sum E) (by decide +kernel) (ax_s 2 ax_nil) (pa_c pa_n)) (ax_v (ex_bin (op_mul.or op_mulW) (os_or2 os_mulS os_mul) (ax_v ex_int (ax_s 0 ax_nil))) ax_nil))) ?_ ?_
      · refine bx_one ?_
        exact sx_break
      · exact bx_nil
    refine bx_one ?_
    exact sx_exp (ex_bm rfl PySem.F.plainAttrs_list PySem.F.slot_list_append PySem.F.type_list_append mt_append os_app (ax_s 2 ax_nil) (ax_s 3 ax_nil) (pa_c pa_n))
  refine bx_cons ?_ ?_
  · refine sx_if (tx_cmp op_lt os_lt (ax_v (ex_callB (cr_sm rfl) os_sum (fr_sum E) (by decide +kernel) (ax_s 2 ax_nil) (pa_c pa_n)) (ax_v (ex_bin (op_mul.or op_mulW) (os_or2 os_mulS os_mul) (ax_v ex_int (ax_s 0 ax_nil))) ax_nil))) ?_ ?_
    · refine bx_one ?_
      exact sx_raise (calX_NoWay E) rfl (takes_of rfl rfl rfl rfl)
    · exact bx_nil
  refine bx_one ?_
  exact sx_ret (ex_callT call_tuple_of os_tuple (fr_tuple E) (by decide +kernel) (ax_s 2 ax_nil) (pa_c pa_n))
theorem sc_f_head_boards : FnScope N_f_head_boards ["half", "widths"] (defScope s_f_head_boards) := ⟨rfl, rfl, rfl, by decide +kernel, rfl, by decide +kernel, by decide +kernel⟩
theorem cal_f_head_boards {P : Program} {w : World} {K : PySem.W.Frag} {mg : Str → Option Value} {base : Heap} (E : En fa fn tq w K mg base) : CalF P w K mg base (Gk K) 1 "head_boards" op_f_head_boards := by
  obtain ⟨fd, F⟩ := E.def_ (d := d_f_head_boards) (List.mem_of_getElem? (i := 17) rfl) s_f_head_boards
  have bi : Binds K fd ["half", "widths"] [] := F.binds fun _ _ _ _ _ _ us hl => match us, hl with | [_, _], _ => rfl
  have ok := fn_ownC (P := P) (w := w) (mg := mg) (base := base) (G := Gk K) F sc_f_head_boards fun A outer s H s0 Ex hr => bx_f_head_boards E _ _ rfl A outer s H s0 Ex hr
  exact E.calF (d := d_f_head_boards) F ok (fa_in (by decide +kernel)) bi
abbrev N_m_Hoops_init : List Str := ["self", "cask", "places", "wide", "lap"]
theorem nd_m_Hoops_init : N_m_Hoops_init.Nodup := by decide +kernel
theorem bx_m_Hoops_init {P : Program} {w : World} {K : PySem.W.Frag} {mg : Str → Option Value} {base : Heap} (E : En fa fn tq w K mg base) (f : Addr) (c : Addr) (hcc : c = He.codeOf K d_m_Hoops_init.at_) (A : Around) (outer : List Env) (s : Shared) (H : Hp) (s0 : L2.St) (Ex : XK) (hr : Room 2 (A.deeper (envOfC "Hoops.__init__" (defScope s_m_Hoops_init) s.heap.objs.size f (.ref c)))) :
    BX (Gk K) ⟨[0, 1, 2, 3, 4], s0⟩ (cxOf (L2.CX P w) P w K mg base N_m_Hoops_init "Hoops.__init__" (defScope s_m_Hoops_init) f (.ref c) A outer s H Ex) (fun cls d _ H => Ex cls d H) (defBody s_m_Hoops_init) b_m_Hoops_init := by
  subst hcc
  refine bx_cons ?_ ?_
  · refine sx_if (TW.tx (tw_or (tx_cmp op_lt os_lt (ax_s 3 (ax_v ex_int ax_nil))) (tw_or (tx_cmp op_lt os_lt (ax_s 4 (ax_v ex_int ax_nil))) (tw_or1 (tx_val (ex_any (GenH.mk (k := 1) (m := 1) (Ng := ["k", "self", "cask", "places", "wide", "lap"]) hr (E.t (d_m_Hoops_init.at_, Lq "Hoops.__init__" ++ "<genexpr>") (List.mem_of_getElem? (i := 1) rfl)) rfl (gsc_by (by rfl)) (En.tabM (p := (d_m_Hoops_init.at_, Lq "Hoops.__init__" ++ "<genexpr>")) (List.mem_of_getElem? (i := 1) rfl)) (E.tabU (p := (d_m_Hoops_init.at_, Lq "Hoops.__init__" ++ "<genexpr>")) (List.mem_of_getElem? (i := 1) rfl)) (pi_range2 (by rfl) (fr_range E) (pa_c (pa_c pa_n))) (by intro _; rfl) (by rfl) (by decide) (by decide) (fun A' s' H' C' cl' cd' fp' pn' N' hr' hJ => ⟨(gx_name 0 (fun hh => absurd (hJ _ hh) (by decide)) (by decide +kernel : (["k", "self", "cask", "places", "wide", "lap"] : List Str).Nodup)), .nil, (ex_cmp op_le os_le (ax_v (ex_ix ix_seq os_ix (ax_s 3 (ax_s 0 ax_nil))) (ax_v (ex_ix ix_seq os_ix (ax_s 3 (ax_v (ex_bin op_sub os_sub (ax_s 0 (ax_v ex_int ax_nil))) ax_nil))) ax_nil)))⟩) (ax_v ex_int (ax_v (ex_callB call_len os_len (fr_len E) (by decide +kernel) (ax_s 2 ax_nil) (pa_c pa_n)) ax_nil)) it_r2) rfl (fr_any E))))))) ?_ ?_
    · refine bx_one ?_
      exact sx_raise (calX_BadPlan E) rfl (takes_of rfl rfl rfl rfl)
    · exact bx_nil
  refine bx_cons ?_ ?_
  · refine sx_if (tx_val (ex_any (GenH.mk (k := 1) (m := 1) (Ng := ["place", "self", "cask", "places", "wide", "lap"]) hr (E.t (d_m_Hoops_init.at_, Lq "Hoops.__init__" ++ "<genexpr>") (List.mem_of_getElem? (i := 1) rfl)) rfl (gsc_by (by rfl)) (En.tabM (p := (d_m_Hoops_init.at_, Lq "Hoops.__init__" ++ "<genexpr>")) (List.mem_of_getElem? (i := 1) rfl)) (E.tabU (p := (d_m_Hoops_init.at_, Lq "Hoops.__init__" ++ "<genexpr>")) (List.mem_of_getElem? (i := 1) rfl)) pi_a (by intro _; rfl) (by rfl) (by decide) (by decide) (fun A' s' H' C' cl' cd' fp' pn' N' hr' hJ => ⟨(gx_name 0 (fun hh => absurd (hJ _ hh) (by decide)) (by decide +kernel : (["place", "self", "cask", "places", "wide", "lap"] : List Str).Nodup)), .nil, (ex_not (ex_chain ci_le ci_le ex_int (ex_frz 0) (ex_bin op_sub os_sub (ax_v (ex_fld (os_fld (c := 8) (k := 0) (cOk8 E) rfl) (ax_s 2 ax_nil)) (ax_s 4 ax_nil)))))⟩) (ax_v (ex_frz 2) ax_nil) it_a) rfl (fr_any E))) ?_ ?_
    · refine bx_one ?_
      exact sx_raise (calX_BadSize E) rfl (takes_of rfl rfl rfl rfl)
    · exact bx_nil
  refine bx_cons ?_ ?_
  · refine sx_if (tx_val (ex_any (GenH.mk (k := 1) (m := 1) (Ng := ["k", "self", "cask", "places", "wide", "lap"]) hr (E.t (d_m_Hoops_init.at_, Lq "Hoops.__init__" ++ "<genexpr>") (List.mem_of_getElem? (i := 1) rfl)) rfl (gsc_by (by rfl)) (En.tabM (p := (d_m_Hoops_init.at_, Lq "Hoops.__init__" ++ "<genexpr>")) (List.mem_of_getElem? (i := 1) rfl)) (E.tabU (p := (d_m_Hoops_init.at_, Lq "Hoops.__init__" ++ "<genexpr>")) (List.mem_of_getElem? (i := 1) rfl)) (pi_range2 (by rfl) (fr_range E) (pa_c (pa_c pa_n))) (by intro _; rfl) (by rfl) (by decide) (by decide) (fun A' s' H' C' cl' cd' fp' pn' N' hr' hJ => ⟨(gx_name 0 (fun hh => absurd (hJ _ hh) (by decide)) (by decide +kernel : (["k", "self", "cask", "places", "wide", "lap"] : List Str).Nodup)), .nil, (ex_cmp op_lt os_lt (ax_v (ex_bin op_sub os_sub (ax_v (ex_ix ix_seq os_ix (ax_s 3 (ax_s 0 ax_nil))) (ax_v (ex_ix ix_seq os_ix (ax_s 3 (ax_v (ex_bin op_sub os_sub (ax_s 0 (ax_v ex_int ax_nil))) ax_nil))) ax_nil))) (ax_s 4 ax_nil)))⟩) (ax_v ex_int (ax_v (ex_callB call_len os_len (fr_len E) (by decide +kernel) (ax_s 2 ax_nil) (pa_c pa_n)) ax_nil)) it_r2) rfl (fr_any E))) ?_ ?_
    · refine bx_one ?_
      exact sx_raise (calX_BadPlan E) rfl (takes_of rfl rfl rfl rfl)
    · exact bx_nil
  refine bx_cons ?_ ?_
  · exact sx_fld 0 10 0 rfl (cOk10 E) rfl (ex_frz 1)
  refine bx_cons ?_ ?_
  · exact sx_fld 0 10 1 rfl (cOk10 E) rfl (ex_callT call_tuple_of os_tuple (fr_tuple E) (by decide +kernel) (ax_s 2 ax_nil) (pa_c pa_n))
  refine bx_cons ?_ ?_
  · exact sx_fld 0 10 2 rfl (cOk10 E) rfl (ex_frz 3)
  refine bx_one ?_
  exact sx_fld 0 10 3 rfl (cOk10 E) rfl (ex_frz 4)
theorem sc_m_Hoops_init : FnScope N_m_Hoops_init ["self", "cask", "places", "wide", "lap"] (defScope s_m_Hoops_init) := ⟨rfl, rfl, rfl, by decide +kernel, rfl, by decide +kernel, by decide +kernel⟩
theorem cal_m_Hoops_init {P : Program} {w : World} {K : PySem.W.Frag} {mg : Str → Option Value} {base : Heap} (E : En fa fn tq w K mg base) : CalC P w K mg base (Gk K) 3 "Hoops" 10 op_m_Hoops_init := by
  obtain ⟨fd, F⟩ := E.def_ (d := d_m_Hoops_init) (List.mem_of_getElem? (i := 18) rfl) s_m_Hoops_init
  have bi : Binds K fd ["self", "cask", "places", "wide", "lap"] [] := F.binds fun _ _ _ _ _ _ us hl => match us, hl with | [_, _, _, _, _], _ => rfl
  have ok := fn_ownC (P := P) (w := w) (mg := mg) (base := base) (G := Gk K) F sc_m_Hoops_init fun A outer s H s0 Ex hr => bx_m_Hoops_init E _ _ rfl A outer s H s0 Ex hr
  exact E.calC F ok rfl (fa_in (by decide +kernel)) (fa_in (by decide +kernel)) bi
abbrev N_m_Hoops_iron : List Str := ["self"]
theorem nd_m_Hoops_iron : N_m_Hoops_iron.Nodup := by decide +kernel
theorem bx_m_Hoops_iron {P : Program} {w : World} {K : PySem.W.Frag} {mg : Str → Option Value} {base : Heap} (E : En fa fn tq w K mg base) (f : Addr) (c : Addr) (hcc : c = He.codeOf K d_m_Hoops_iron.at_) (A : Around) (outer : List Env) (s : Shared) (H : Hp) (s0 : L2.St) (Ex : XK) (hr : Room 3 (A.deeper (envOfC "Hoops.iron" (defScope s_m_Hoops_iron) s.heap.objs.size f (.ref c)))) :
    BX (Gk K) ⟨[0], s0⟩ (cxOf (L2.CX P w) P w K mg base N_m_Hoops_iron "Hoops.iron" (defScope s_m_Hoops_iron) f (.ref c) A outer s H Ex) (fun cls d _ H => Ex cls d H) (defBody s_m_Hoops_iron) b_m_Hoops_iron := by
  subst hcc
  refine bx_one ?_
  exact sx_ret (ex_callB (cr_sm rfl) os_sum (fr_sum E) (by decide +kernel) (ax_v (ex_meth0 (cal_m_Hoops_lengths E) (hr.mono (by decide : 3 ≤ 3)) (takes_of rfl rfl rfl rfl) (ax_s 0 ax_nil)) ax_nil) (pa_c pa_n))
theorem sc_m_Hoops_iron : FnScope N_m_Hoops_iron ["self"] (defScope s_m_Hoops_iron) := ⟨rfl, rfl, rfl, by decide +kernel, rfl, by decide +kernel, by decide +kernel⟩
theorem cal_m_Hoops_iron {P : Program} {w : World} {K : PySem.W.Frag} {mg : Str → Option Value} {base : Heap} (E : En fa fn tq w K mg base) : CalM P w K mg base (Gk K) 4 "iron" 10 op_m_Hoops_iron := by
  obtain ⟨fd, F⟩ := E.def_ (d := d_m_Hoops_iron) (List.mem_of_getElem? (i := 20) rfl) s_m_Hoops_iron
  have bi : Binds K fd ["self"] [] := F.binds fun _ _ _ _ _ _ us hl => match us, hl with | [_], _ => rfl
  have ok := fn_ownC (P := P) (w := w) (mg := mg) (base := base) (G := Gk K) F sc_m_Hoops_iron fun A outer s H s0 Ex hr => bx_m_Hoops_iron E _ _ rfl A outer s H s0 Ex hr
  exact E.calM F ok rfl (fa_in (by decide +kernel)) (fa_in (by decide +kernel)) bi (by decide +kernel : ∀ f ∈ fl 10, f ≠ "iron")
abbrev N_m_Hoops_driven : List Str := ["self", "steps", "found", "half", "place"]
theorem nd_m_Hoops_driven : N_m_Hoops_driven.Nodup := by decide +kernel
theorem bx_m_Hoops_driven {P : Program} {w : World} {K : PySem.W.Frag} {mg : Str → Option Value} {base : Heap} (E : En fa fn tq w K mg base) (f : Addr) (c : Addr) (hcc : c = He.codeOf K d_m_Hoops_driven.at_) (A : Around) (outer : List Env) (s : Shared) (H : Hp) (s0 : L2.St) (Ex : XK) (hr : Room 0 (A.deeper (envOfC "Hoops.driven" (defScope s_m_Hoops_driven) s.heap.objs.size f (.ref c)))) :
    BX (Gk K) ⟨[0, 1], s0⟩ (cxOf (L2.CX P w) P w K mg base N_m_Hoops_driven "Hoops.driven" (defScope s_m_Hoops_driven) f (.ref c) A outer s H Ex) (fun cls d _ H => Ex cls d H) (defBody s_m_Hoops_driven) b_m_Hoops_driven := by
  subst hcc
  refine bx_cons ?_ ?_
  · exact sx_set 2 (ex_lst ops_lst ax_nil pa_n) (by decide : ¬ 2 ∈ ([0, 1] : List Nat)) nd_m_Hoops_driven
  refine bx_cons ?_ ?_
  · exact sx_set 3 (ex_bin op_fdivW os_div (ax_v (ex_bin op_sub os_sub (ax_v (ex_fld (os_fld (c := 8) (k := 0) (cOk8 E) rfl) (ax_v (ex_fld (os_fld (c := 10) (k := 0) (cOk10 E) rfl) (ax_s 0 ax_nil)) ax_nil)) (ax_v (ex_fld (os_fld (c := 10) (k := 2) (cOk10 E) rfl) (ax_s 0 ax_nil)) ax_nil))) (ax_v ex_int ax_nil))) (by decide : ¬ 3 ∈ ([0, 1] : List Nat)) nd_m_Hoops_driven
  refine bx_cons ?_ ?_
  · refine sx_for (passes_of rfl) rfl pi_a (ax_v (ex_fld (os_fld (c := 10) (k := 1) (cOk10 E) rfl) (ax_s 0 ax_nil)) ax_nil) it_a (gx_name 4 (by decide : ¬ 4 ∈ ([0, 1] : List Nat)) nd_m_Hoops_driven) ?_
    refine bx_one ?_
    exact sx_exp (ex_bm rfl PySem.F.plainAttrs_list PySem.F.slot_list_append PySem.F.type_list_append mt_append os_app (ax_s 2 ax_nil) (ax_v (ex_if (tx_cmp op_le os_le (ax_s 4 (ax_s 3 ax_nil))) (ex_callB (call_min2 rfl) os_min2 (fr_min E) (by decide +kernel) (ax_s 3 (ax_v (ex_bin (op_add.or op_catL) (os_or2 os_add os_catL) (ax_s 4 (ax_s 1 ax_nil))) ax_nil)) (pa_c (pa_c pa_n))) (ex_callB (call_max2 rfl) os_max2 (fr_max E) (by decide +kernel) (ax_s 3 (ax_v (ex_bin op_sub os_sub (ax_s 4 (ax_s 1 ax_nil))) ax_nil)) (pa_c (pa_c pa_n)))) ax_nil) (pa_c pa_n))
  refine bx_one ?_
  exact sx_ret (ex_callT call_tuple_of os_tuple (fr_tuple E) (by decide +kernel) (ax_s 2 ax_nil) (pa_c pa_n))
theorem sc_m_Hoops_driven : FnScope N_m_Hoops_driven ["self", "steps"] (defScope s_m_Hoops_driven) := ⟨rfl, rfl, rfl, by decide +kernel, rfl, by decide +kernel, by decide +kernel⟩
theorem cal_m_Hoops_driven {P : Program} {w : World} {K : PySem.W.Frag} {mg : Str → Option Value} {base : Heap} (E : En fa fn tq w K mg base) : CalM P w K mg base (Gk K) 1 "driven" 10 op_m_Hoops_driven := by
  obtain ⟨fd, F⟩ := E.def_ (d := d_m_Hoops_driven) (List.mem_of_getElem? (i := 21) rfl) s_m_Hoops_driven
  have bi : Binds K fd ["self", "steps"] [] := F.binds fun _ _ _ _ _ _ us hl => match us, hl with | [_, _], _ => rfl
  have ok := fn_ownC (P := P) (w := w) (mg := mg) (base := base) (G := Gk K) F sc_m_Hoops_driven fun A outer s H s0 Ex hr => bx_m_Hoops_driven E _ _ rfl A outer s H s0 Ex hr
  exact E.calM F ok rfl (fa_in (by decide +kernel)) (fa_in (by decide +kernel)) bi (by decide +kernel : ∀ f ∈ fl 10, f ≠ "driven")
abbrev N_m_Hoops_mirrored : List Str := ["self", "back", "place"]
theorem nd_m_Hoops_mirrored : N_m_Hoops_mirrored.Nodup := by decide +kernel
theorem bx_m_Hoops_mirrored {P : Program} {w : World} {K : PySem.W.Frag} {mg : Str → Option Value} {base : Heap} (E : En fa fn tq w K mg base) (f : Addr) (c : Addr) (hcc : c = He.codeOf K d_m_Hoops_mirrored.at_) (A : Around) (outer : List Env) (s : Shared) (H : Hp) (s0 : L2.St) (Ex : XK) (hr : Room 0 (A.deeper (envOfC "Hoops.mirrored" (defScope s_m_Hoops_mirrored) s.heap.objs.size f (.ref c)))) :
    BX (Gk K) ⟨[0], s0⟩ (cxOf (L2.CX P w) P w K mg base N_m_Hoops_mirrored "Hoops.mirrored" (defScope s_m_Hoops_mirrored) f (.ref c) A outer s H Ex) (fun cls d _ H => Ex cls d H) (defBody s_m_Hoops_mirrored) b_m_Hoops_mirrored := by
  subst hcc
  refine bx_cons ?_ ?_
  · exact sx_set 1 (ex_callT call_tuple_of os_tuple (fr_tuple E) (by decide +kernel) (ax_v (ex_lc rfl nd_m_Hoops_mirrored (pi_rv (by rfl) (fr_reversed E)) (blkOk_by (own := [("place", 2)]) (by rfl)) ⟨fun N' hv' s' H' C' cl' fp' => (gx_name 2 (hv' _ (by simp)) nd_m_Hoops_mirrored), fun N' hv' s' H' C' cl' fp' => .nil, fun N' hv' s' H' C' cl' fp' => (ex_bin op_sub os_sub (ax_v (ex_bin op_sub os_sub (ax_v (ex_fld (os_fld (c := 8) (k := 0) (cOk8 E) rfl) (ax_v (ex_fld (os_fld (c := 10) (k := 0) (cOk10 E) rfl) (ax_s 0 ax_nil)) ax_nil)) (ax_v (ex_fld (os_fld (c := 10) (k := 2) (cOk10 E) rfl) (ax_s 0 ax_nil)) ax_nil))) (ax_s 2 ax_nil)))⟩ (ax_v (ex_fld (os_fld (c := 10) (k := 1) (cOk10 E) rfl) (ax_s 0 ax_nil)) ax_nil) it_rv) ax_nil) (pa_c pa_n)) (by decide : ¬ 1 ∈ ([0] : List Nat)) nd_m_Hoops_mirrored
  refine bx_one ?_
  exact sx_ret (ex_cmp (op_eqD (Room.u64 hr)) os_eq (ax_s 1 (ax_v (ex_fld (os_fld (c := 10) (k := 1) (cOk10 E) rfl) (ax_s 0 ax_nil)) ax_nil)))
theorem sc_m_Hoops_mirrored : FnScope N_m_Hoops_mirrored ["self"] (defScope s_m_Hoops_mirrored) := ⟨rfl, rfl, rfl, by decide +kernel, rfl, by decide +kernel, by decide +kernel⟩
theorem cal_m_Hoops_mirrored {P : Program} {w : World} {K : PySem.W.Frag} {mg : Str → Option Value} {base : Heap} (E : En fa fn tq w K mg base) : CalM P w K mg base (Gk K) 1 "mirrored" 10 op_m_Hoops_mirrored := by
  obtain ⟨fd, F⟩ := E.def_ (d := d_m_Hoops_mirrored) (List.mem_of_getElem? (i := 22) rfl) s_m_Hoops_mirrored
  have bi : Binds K fd ["self"] [] := F.binds fun _ _ _ _ _ _ us hl => match us, hl with | [_], _ => rfl
  have ok := fn_ownC (P := P) (w := w) (mg := mg) (base := base) (G := Gk K) F sc_m_Hoops_mirrored fun A outer s H s0 Ex hr => bx_m_Hoops_mirrored E _ _ rfl A outer s H s0 Ex hr
  exact E.calM F ok rfl (fa_in (by decide +kernel)) (fa_in (by decide +kernel)) bi (by decide +kernel : ∀ f ∈ fl 10, f ≠ "mirrored")
abbrev N_m_Hoops_widest_gap : List Str := ["self", "marks", "k"]
theorem nd_m_Hoops_widest_gap : N_m_Hoops_widest_gap.Nodup := by decide +kernel
theorem bx_m_Hoops_widest_gap {P : Program} {w : World} {K : PySem.W.Frag} {mg : Str → Option Value} {base : Heap} (E : En fa fn tq w K mg base) (f : Addr) (c : Addr) (hcc : c = He.codeOf K d_m_Hoops_widest_gap.at_) (A : Around) (outer : List Env) (s : Shared) (H : Hp) (s0 : L2.St) (Ex : XK) (hr : Room 0 (A.deeper (envOfC "Hoops.widest_gap" (defScope s_m_Hoops_widest_gap) s.heap.objs.size f (.ref c)))) :
    BX (Gk K) ⟨[0], s0⟩ (cxOf (L2.CX P w) P w K mg base N_m_Hoops_widest_gap "Hoops.widest_gap" (defScope s_m_Hoops_widest_gap) f (.ref c) A outer s H Ex) (fun cls d _ H => Ex cls d H) (defBody s_m_Hoops_widest_gap) b_m_Hoops_widest_gap := by
  subst hcc
  refine bx_cons ?_ ?_
  · exact sx_set 1 (ex_bin (op_add.or op_catL) (os_or2 os_add os_catL) (ax_v (ex_bin (op_add.or op_catL) (os_or2 os_add os_catL) (ax_v (ex_lst ops_lst (ax_v (ex_bin op_sub os_sub (ax_v ex_int (ax_v (ex_fld (os_fld (c := 10) (k := 2) (cOk10 E) rfl) (ax_s 0 ax_nil)) ax_nil))) ax_nil) (pa_c pa_n)) (ax_v (ex_callT call_list_of os_list (fr_list E) (by decide +kernel) (ax_v (ex_fld (os_fld (c := 10) (k := 1) (cOk10 E) rfl) (ax_s 0 ax_nil)) ax_nil) (pa_c pa_n)) ax_nil))) (ax_v (ex_lst ops_lst (ax_v (ex_fld (os_fld (c := 8) (k := 0) (cOk8 E) rfl) (ax_v (ex_fld (os_fld (c := 10) (k := 0) (cOk10 E) rfl) (ax_s 0 ax_nil)) ax_nil)) ax_nil) (pa_c pa_n)) ax_nil))) (by decide : ¬ 1 ∈ ([0] : List Nat)) nd_m_Hoops_widest_gap
  refine bx_one ?_
  exact sx_ret (ex_callB (cr_mx rfl (Room.u66 hr)) os_max (fr_max E) (by decide +kernel) (ax_v (ex_lc rfl nd_m_Hoops_widest_gap (pi_range2 (by rfl) (fr_range E) (pa_c (pa_c pa_n))) (blkOk_by (own := [("k", 2)]) (by rfl)) ⟨fun N' hv' s' H' C' cl' fp' => (gx_name 2 (hv' _ (by simp)) nd_m_Hoops_widest_gap), fun N' hv' s' H' C' cl' fp' => .nil, fun N' hv' s' H' C' cl' fp' => (ex_bin op_sub os_sub (ax_v (ex_bin op_sub os_sub (ax_v (ex_ix ix_seq os_ix (ax_s 1 (ax_s 2 ax_nil))) (ax_v (ex_ix ix_seq os_ix (ax_s 1 (ax_v (ex_bin op_sub os_sub (ax_s 2 (ax_v ex_int ax_nil))) ax_nil))) ax_nil))) (ax_v (ex_fld (os_fld (c := 10) (k := 2) (cOk10 E) rfl) (ax_s 0 ax_nil)) ax_nil)))⟩ (ax_v ex_int (ax_v (ex_callB call_len os_len (fr_len E) (by decide +kernel) (ax_s 1 ax_nil) (pa_c pa_n)) ax_nil)) it_r2) ax_nil) (pa_c pa_n))
theorem sc_m_Hoops_widest_gap : FnScope N_m_Hoops_widest_gap ["self"] (defScope s_m_Hoops_widest_gap) := ⟨rfl, rfl, rfl, by decide +kernel, rfl, by decide +kernel, by decide +kernel⟩
theorem cal_m_Hoops_widest_gap {P : Program} {w : World} {K : PySem.W.Frag} {mg : Str → Option Value} {base : Heap} (E : En fa fn tq w K mg base) : CalM P w K mg base (Gk K) 1 "widest_gap" 10 op_m_Hoops_widest_gap := by
  obtain ⟨fd, F⟩ := E.def_ (d := d_m_Hoops_widest_gap) (List.mem_of_getElem? (i := 23) rfl) s_m_Hoops_widest_gap
  have bi : Binds K fd ["self"] [] := F.binds fun _ _ _ _ _ _ us hl => match us, hl with | [_], _ => rfl
  have ok := fn_ownC (P := P) (w := w) (mg := mg) (base := base) (G := Gk K) F sc_m_Hoops_widest_gap fun A outer s H s0 Ex hr => bx_m_Hoops_widest_gap E _ _ rfl A outer s H s0 Ex hr
  exact E.calM F ok rfl (fa_in (by decide +kernel)) (fa_in (by decide +kernel)) bi (by decide +kernel : ∀ f ∈ fl 10, f ≠ "widest_gap")
abbrev N_m_Hoops_key : List Str := ["self"]
theorem nd_m_Hoops_key : N_m_Hoops_key.Nodup := by decide +kernel
theorem bx_m_Hoops_key {P : Program} {w : World} {K : PySem.W.Frag} {mg : Str → Option Value} {base : Heap} (E : En fa fn tq w K mg base) (f : Addr) (c : Addr) (hcc : c = He.codeOf K d_m_Hoops_key.at_) (A : Around) (outer : List Env) (s : Shared) (H : Hp) (s0 : L2.St) (Ex : XK) (hr : Room 1 (A.deeper (envOfC "Hoops.key" (defScope s_m_Hoops_key) s.heap.objs.size f (.ref c)))) :
    BX (Gk K) ⟨[0], s0⟩ (cxOf (L2.CX P w) P w K mg base N_m_Hoops_key "Hoops.key" (defScope s_m_Hoops_key) f (.ref c) A outer s H Ex) (fun cls d _ H => Ex cls d H) (defBody s_m_Hoops_key) b_m_Hoops_key := by
  subst hcc
  refine bx_one ?_
  exact sx_ret (ex_tup ops_tup (ax_v (ex_meth0 (cal_m_Cask_key E) (hr.mono (by decide : 1 ≤ 1)) (takes_of rfl rfl rfl rfl) (ax_v (ex_fld (os_fld (c := 10) (k := 0) (cOk10 E) rfl) (ax_s 0 ax_nil)) ax_nil)) (ax_v (ex_fld (os_fld (c := 10) (k := 1) (cOk10 E) rfl) (ax_s 0 ax_nil)) (ax_v (ex_fld (os_fld (c := 10) (k := 2) (cOk10 E) rfl) (ax_s 0 ax_nil)) (ax_v (ex_fld (os_fld (c := 10) (k := 3) (cOk10 E) rfl) (ax_s 0 ax_nil)) ax_nil)))) (pa_c (pa_c (pa_c (pa_c pa_n)))))
theorem sc_m_Hoops_key : FnScope N_m_Hoops_key ["self"] (defScope s_m_Hoops_key) := ⟨rfl, rfl, rfl, by decide +kernel, rfl, by decide +kernel, by decide +kernel⟩
theorem cal_m_Hoops_key {P : Program} {w : World} {K : PySem.W.Frag} {mg : Str → Option Value} {base : Heap} (E : En fa fn tq w K mg base) : CalM P w K mg base (Gk K) 2 "key" 10 op_m_Hoops_key := by
  obtain ⟨fd, F⟩ := E.def_ (d := d_m_Hoops_key) (List.mem_of_getElem? (i := 24) rfl) s_m_Hoops_key
  have bi : Binds K fd ["self"] [] := F.binds fun _ _ _ _ _ _ us hl => match us, hl with | [_], _ => rfl
  have ok := fn_ownC (P := P) (w := w) (mg := mg) (base := base) (G := Gk K) F sc_m_Hoops_key fun A outer s H s0 Ex hr => bx_m_Hoops_key E _ _ rfl A outer s H s0 Ex hr
  exact E.calM F ok rfl (fa_in (by decide +kernel)) (fa_in (by decide +kernel)) bi (by decide +kernel : ∀ f ∈ fl 10, f ≠ "key")
abbrev N_f_strips_for : List Str := ["lengths", "strip", "left", "length", "fits", "k", "size"]
theorem nd_f_strips_for : N_f_strips_for.Nodup := by decide +kernel
theorem bx_f_strips_for {P : Program} {w : World} {K : PySem.W.Frag} {mg : Str → Option Value} {base : Heap} (E : En fa fn tq w K mg base) (f : Addr) (c : Addr) (hcc : c = He.codeOf K d_f_strips_for.at_) (A : Around) (outer : List Env) (s : Shared) (H : Hp) (s0 : L2.St) (Ex : XK) (hr : Room 0 (A.deeper (envOfC "strips_for" (defScope s_f_strips_for) s.heap.objs.size f (.ref c)))) :
    BX (Gk K) ⟨[0, 1], s0⟩ (cxOf (L2.CX P w) P w K mg base N_f_strips_for "strips_for" (defScope s_f_strips_for) f (.ref c) A outer s H Ex) (fun cls d _ H => Ex cls d H) (defBody s_f_strips_for) b_f_strips_for := by
  subst hcc
  refine bx_cons ?_ ?_
  · exact sx_set 2 (ex_lst ops_lst ax_nil pa_n) (by decide : ¬ 2 ∈ ([0, 1] : List Nat)) nd_f_strips_for
  refine bx_cons ?_ ?_
  · refine sx_for (passes_of rfl) rfl pi_a (ax_v (ex_srtR rfl (Room.u66 hr) rfl (fr_sorted E) (ax_s 0 ax_nil) (pa_c pa_n)) ax_nil) it_a (gx_name 3 (by decide : ¬ 3 ∈ ([0, 1] : List Nat)) nd_f_strips_for) ?_
    refine bx_cons ?_ ?_
    · refine sx_if (tx_cmp op_gt os_gt (ax_s 3 (ax_s 1 ax_nil))) ?_ ?_
      · refine bx_one ?_
        exact sx_raise (calX_NoWay E) rfl (takes_of rfl rfl rfl rfl)
      · exact bx_nil
    refine bx_cons ?_ ?_
    · exact sx_setLc 4 rfl nd_f_strips_for (by decide : ¬ 4 ∈ ([0, 1] : List Nat)) (pi_enum (by rfl) (fr_enumerate E) (pa_c pa_n)) (blkOk_by (own := [("k", 5), ("size", 6)]) (by rfl)) ⟨fun N' hv' s' H' C' cl' fp' => (gx_tup rfl rfl (gsx_cons (gx_name 5 (hv' _ (by simp)) nd_f_strips_for) (gsx_cons (gx_name 6 (hv' _ (by simp)) nd_f_strips_for) gsx_nil))), fun N' hv' s' H' C' cl' fp' => (.one (tx_cmp op_ge os_ge (ax_s 6 (ax_s 3 ax_nil)))), fun N' hv' s' H' C' cl' fp' => (ex_frz 5)⟩ (ax_s 2 ax_nil) it_en rfl
    refine bx_one ?_
    refine sx_if (tx_cmp (op_eqD (Room.u64 hr)) os_eq (ax_s 4 (ax_v (ex_lst ops_lst ax_nil pa_n) ax_nil))) ?_ ?_
    · refine bx_one ?_
      exact sx_exp (ex_bm rfl PySem.F.plainAttrs_list PySem.F.slot_list_append PySem.F.type_list_append mt_append os_app (ax_s 2 ax_nil) (ax_v (ex_bin op_sub os_sub (ax_s 1 (ax_s 3 ax_nil))) ax_nil) (pa_c pa_n))
    · refine bx_one ?_
      exact sx_augS 2 rfl ip_sub (ex_ix ix_seq os_ix (ax_s 4 (ax_v ex_int ax_nil))) (ex_frz 3)
  refine bx_one ?_
  exact sx_ret (ex_callB call_len os_len (fr_len E) (by decide +kernel) (ax_s 2 ax_nil) (pa_c pa_n))
theorem sc_f_strips_for : FnScope N_f_strips_for ["lengths", "strip"] (defScope s_f_strips_for) := ⟨rfl, rfl, rfl, by decide +kernel, rfl, by decide +kernel, by decide +kernel⟩
theorem cal_f_strips_for {P : Program} {w : World} {K : PySem.W.Frag} {mg : Str → Option Value} {base : Heap} (E : En fa fn tq w K mg base) : CalF P w K mg base (Gk K) 1 "strips_for" op_f_strips_for := by
  obtain ⟨fd, F⟩ := E.def_ (d := d_f_strips_for) (List.mem_of_getElem? (i := 25) rfl) s_f_strips_for
  have bi : Binds K fd ["lengths", "strip"] [] := F.binds fun _ _ _ _ _ _ us hl => match us, hl with | [_, _], _ => rfl
  have ok := fn_ownC (P := P) (w := w) (mg := mg) (base := base) (G := Gk K) F sc_f_strips_for fun A outer s H s0 Ex hr => bx_f_strips_for E _ _ rfl A outer s H s0 Ex hr
  exact E.calF (d := d_f_strips_for) F ok (fa_in (by decide +kernel)) bi
abbrev N_f_law_dice : List Str := ["cell"]
theorem nd_f_law_dice : N_f_law_dice.Nodup := by decide +kernel
theorem bx_f_law_dice {P : Program} {w : World} {K : PySem.W.Frag} {mg : Str → Option Value} {base : Heap} (E : En fa fn tq w K mg base) (f : Addr) (c : Addr) (hcc : c = He.codeOf K d_f_law_dice.at_) (A : Around) (outer : List Env) (s : Shared) (H : Hp) (s0 : L2.St) (Ex : XK) (hr : Room 0 (A.deeper (envOfC "_law_dice" (defScope s_f_law_dice) s.heap.objs.size f (.ref c)))) :
    BX (Gk K) ⟨[0], s0⟩ (cxOf (L2.CX P w) P w K mg base N_f_law_dice "_law_dice" (defScope s_f_law_dice) f (.ref c) A outer s H Ex) (fun cls d _ H => Ex cls d H) (defBody s_f_law_dice) b_f_law_dice := by
  subst hcc
  refine bx_cons ?_ ?_
  · refine sx_if (tx_chain ci_lt ci_lt (ex_bin op_sub os_sub (ax_v ex_int (ax_v ex_int ax_nil))) (ex_frz 0) ex_int) ?_ ?_
    · refine bx_one ?_
      exact sx_ret (ex_lst ops_lst (ax_v (ex_callB call_abs os_abs (fr_abs E) (by decide +kernel) (ax_s 0 ax_nil) (pa_c pa_n)) (ax_v ex_int (ax_v ex_int ax_nil))) (pa_c (pa_c (pa_c pa_n))))
    · exact bx_nil
  refine bx_one ?_
  exact sx_ret (ex_lst ops_lst (ax_s 0 (ax_v (ex_bin (op_add.or op_catL) (os_or2 os_add os_catL) (ax_v ex_int (ax_v (ex_bin op_mod os_mod (ax_v (ex_callT call_int1 os_int (fr_int E) (by decide +kernel) (ax_s 0 ax_nil) (pa_c pa_n)) (ax_v ex_int ax_nil))) ax_nil))) (ax_v (ex_callT call_int1 os_int (fr_int E) (by decide +kernel) (ax_v (ex_cmp op_ge os_ge (ax_s 0 (ax_v (ex_bin op_pow os_pow (ax_v ex_int (ax_v ex_int ax_nil))) ax_nil))) ax_nil) (pa_c pa_n)) ax_nil))) (pa_c (pa_c (pa_c pa_n))))
theorem sc_f_law_dice : FnScope N_f_law_dice ["cell"] (defScope s_f_law_dice) := ⟨rfl, rfl, rfl, by decide +kernel, rfl, by decide +kernel, by decide +kernel⟩
theorem cal_f_law_dice {P : Program} {w : World} {K : PySem.W.Frag} {mg : Str → Option Value} {base : Heap} (E : En fa fn tq w K mg base) : CalF P w K mg base (Gk K) 1 "_law_dice" op_f_law_dice := by
  obtain ⟨fd, F⟩ := E.def_ (d := d_f_law_dice) (List.mem_of_getElem? (i := 26) rfl) s_f_law_dice
  have bi : Binds K fd ["cell"] [] := F.binds fun _ _ _ _ _ _ us hl => match us, hl with | [_], _ => rfl
  have ok := fn_ownC (P := P) (w := w) (mg := mg) (base := base) (G := Gk K) F sc_f_law_dice fun A outer s H s0 Ex hr => bx_f_law_dice E _ _ rfl A outer s H s0 Ex hr
  exact E.calF (d := d_f_law_dice) F ok (fa_in (by decide +kernel)) bi
abbrev N_f_law_roll : List Str := ["dice", "many", "found"]
theorem nd_f_law_roll : N_f_law_roll.Nodup := by decide +kernel
theorem bx_f_law_roll {P : Program} {w : World} {K : PySem.W.Frag} {mg : Str → Option Value} {base : Heap} (E : En fa fn tq w K mg base) (f : Addr) (c : Addr) (hcc : c = He.codeOf K d_f_law_roll.at_) (A : Around) (outer : List Env) (s : Shared) (H : Hp) (s0 : L2.St) (Ex : XK) (hr : Room 0 (A.deeper (envOfC "_law_roll" (defScope s_f_law_roll) s.heap.objs.size f (.ref c)))) :
    BX (Gk K) ⟨[0, 1], s0⟩ (cxOf (L2.CX P w) P w K mg base N_f_law_roll "_law_roll" (defScope s_f_law_roll) f (.ref c) A outer s H Ex) (fun cls d _ H => Ex cls d H) (defBody s_f_law_roll) b_f_law_roll := by
  subst hcc
  refine bx_cons ?_ ?_
  · refine sx_if (TW.tx (tw_or (tx_cmp (op_eqD (Room.u64 hr)) os_eq (ax_v (ex_ix ix_seq os_ix (ax_s 0 (ax_v ex_int ax_nil))) (ax_v ex_int ax_nil))) (tw_or1 (TW.tx (tw_and (tx_cmp (op_eqD (Room.u64 hr)) os_eq (ax_v (ex_ix ix_seq os_ix (ax_s 0 (ax_v ex_int ax_nil))) (ax_v ex_int ax_nil))) (tw_and1 (tx_cmp op_gt os_gt (ax_v (ex_ix ix_seq os_ix (ax_s 0 (ax_v ex_int ax_nil))) (ax_v ex_int ax_nil))))))))) ?_ ?_
    · refine bx_cons ?_ ?_
      · exact sx_set 2 (ex_bin op_mod os_mod (ax_v (ex_callT call_int1 os_int (fr_int E) (by decide +kernel) (ax_v (ex_ix ix_seq os_ix (ax_s 0 (ax_v ex_int ax_nil))) ax_nil) (pa_c pa_n)) (ax_s 1 ax_nil))) (by decide : ¬ 2 ∈ ([0, 1] : List Nat)) nd_f_law_roll
      refine bx_cons ?_ ?_
      · exact sx_sub set_list os_setL (ax_v (ex_bin op_fdivW os_div (ax_v (ex_ix ix_seq os_ix (ax_s 0 (ax_v ex_int ax_nil))) (ax_s 1 ax_nil))) (ax_s 0 (ax_v ex_int ax_nil)))
      refine bx_one ?_
      exact sx_ret (ex_mov 2)
    · exact bx_nil
  refine bx_cons ?_ ?_
  · exact sx_sub set_list os_setL (ax_v ex_int (ax_s 0 (ax_v ex_int ax_nil)))
  refine bx_cons ?_ ?_
  · exact sx_sub set_list os_setL (ax_v (ex_bin op_mod os_mod (ax_v (ex_callT call_int1 os_int (fr_int E) (by decide +kernel) (ax_v (ex_bin (op_add.or op_catL) (os_or2 os_add os_catL) (ax_v (ex_bin (op_add.or op_catL) (os_or2 os_add os_catL) (ax_v (ex_bin (op_mul.or op_mulW) (os_or2 os_mulS os_mul) (ax_v (ex_ix ix_seq os_ix (ax_s 0 (ax_v ex_int ax_nil))) (ax_v ex_int ax_nil))) (ax_v (ex_bin (op_mul.or op_mulW) (os_or2 os_mulS os_mul) (ax_v (ex_ix ix_seq os_ix (ax_s 0 (ax_v ex_int ax_nil))) (ax_v ex_int ax_nil))) ax_nil))) (ax_v ex_int ax_nil))) ax_nil) (pa_c pa_n)) (ax_v ex_int ax_nil))) (ax_s 0 (ax_v ex_int ax_nil)))
  refine bx_cons ?_ ?_
  · exact sx_sub set_list os_setL (ax_v (ex_bin (op_add.or op_catL) (os_or2 os_add os_catL) (ax_v (ex_ix ix_seq os_ix (ax_s 0 (ax_v ex_int ax_nil))) (ax_v ex_int ax_nil))) (ax_s 0 (ax_v ex_int ax_nil)))
  refine bx_one ?_
  exact sx_ret (ex_bin op_mod os_mod (ax_v (ex_callT call_int1 os_int (fr_int E) (by decide +kernel) (ax_v (ex_bin (op_add.or op_catL) (os_or2 os_add os_catL) (ax_v (ex_bin op_fdivW os_div (ax_v (ex_ix ix_seq os_ix (ax_s 0 (ax_v ex_int ax_nil))) (ax_v ex_int ax_nil))) (ax_v (ex_ix ix_seq os_ix (ax_s 0 (ax_v ex_int ax_nil))) ax_nil))) ax_nil) (pa_c pa_n)) (ax_s 1 ax_nil)))
theorem sc_f_law_roll : FnScope N_f_law_roll ["dice", "many"] (defScope s_f_law_roll) := ⟨rfl, rfl, rfl, by decide +kernel, rfl, by decide +kernel, by decide +kernel⟩
theorem cal_f_law_roll {P : Program} {w : World} {K : PySem.W.Frag} {mg : Str → Option Value} {base : Heap} (E : En fa fn tq w K mg base) : CalF P w K mg base (Gk K) 1 "_law_roll" op_f_law_roll := by
  obtain ⟨fd, F⟩ := E.def_ (d := d_f_law_roll) (List.mem_of_getElem? (i := 27) rfl) s_f_law_roll
  have bi : Binds K fd ["dice", "many"] [] := F.binds fun _ _ _ _ _ _ us hl => match us, hl with | [_, _], _ => rfl
  have ok := fn_ownC (P := P) (w := w) (mg := mg) (base := base) (G := Gk K) F sc_f_law_roll fun A outer s H s0 Ex hr => bx_f_law_roll E _ _ rfl A outer s H s0 Ex hr
  exact E.calF (d := d_f_law_roll) F ok (fa_in (by decide +kernel)) bi
abbrev N_f_law_rounds : List Str := ["script", "most", "cells", "cell"]
theorem nd_f_law_rounds : N_f_law_rounds.Nodup := by decide +kernel
theorem bx_f_law_rounds {P : Program} {w : World} {K : PySem.W.Frag} {mg : Str → Option Value} {base : Heap} (E : En fa fn tq w K mg base) (f : Addr) (c : Addr) (hcc : c = He.codeOf K d_f_law_rounds.at_) (A : Around) (outer : List Env) (s : Shared) (H : Hp) (s0 : L2.St) (Ex : XK) (hr : Room 1 (A.deeper (envOfC "_law_rounds" (defScope s_f_law_rounds) s.heap.objs.size f (.ref c)))) :
    BX (Gk K) ⟨[0, 1], s0⟩ (cxOf (L2.CX P w) P w K mg base N_f_law_rounds "_law_rounds" (defScope s_f_law_rounds) f (.ref c) A outer s H Ex) (fun cls d _ H => Ex cls d H) (defBody s_f_law_rounds) b_f_law_rounds := by
  subst hcc
  refine bx_cons ?_ ?_
  · exact sx_set 2 (ex_sl rfl (ex_frz 0) .none (.some (ex_frz 1))) (by decide : ¬ 2 ∈ ([0, 1] : List Nat)) nd_f_law_rounds
  refine bx_cons ?_ ?_
  · refine sx_if (tx_cmp (op_eqD (Room.u64 hr)) os_eq (ax_s 2 (ax_v (ex_lst ops_lst ax_nil pa_n) ax_nil))) ?_ ?_
    · refine bx_one ?_
      exact sx_set 2 (ex_lst ops_lst (ax_v ex_int ax_nil) (pa_c pa_n)) (by decide : ¬ 2 ∈ ([0, 1] : List Nat)) nd_f_law_rounds
    · exact bx_nil
  refine bx_one ?_
  exact sx_ret (ex_lc rfl nd_f_law_rounds pi_a (blkOk_by (own := [("cell", 3)]) (by rfl)) ⟨fun N' hv' s' H' C' cl' fp' => (gx_name 3 (hv' _ (by simp)) nd_f_law_rounds), fun N' hv' s' H' C' cl' fp' => .nil, fun N' hv' s' H' C' cl' fp' => (ex_call (cal_f_law_dice E) (hr.mono (by decide : 1 ≤ 1)) LamX.takes0 (ax_s 3 ax_nil) (pa_c pa_n))⟩ (ax_v (ex_frz 2) ax_nil) it_a)
theorem sc_f_law_rounds : FnScope N_f_law_rounds ["script", "most"] (defScope s_f_law_rounds) := ⟨rfl, rfl, rfl, by decide +kernel, rfl, by decide +kernel, by decide +kernel⟩
theorem cal_f_law_rounds {P : Program} {w : World} {K : PySem.W.Frag} {mg : Str → Option Value} {base : Heap} (E : En fa fn tq w K mg base) : CalF P w K mg base (Gk K) 2 "_law_rounds" op_f_law_rounds := by
  obtain ⟨fd, F⟩ := E.def_ (d := d_f_law_rounds) (List.mem_of_getElem? (i := 28) rfl) s_f_law_rounds
  have bi : Binds K fd ["script", "most"] [] := F.binds fun _ _ _ _ _ _ us hl => match us, hl with | [_, _], _ => rfl
  have ok := fn_ownC (P := P) (w := w) (mg := mg) (base := base) (G := Gk K) F sc_f_law_rounds fun A outer s H s0 Ex hr => bx_f_law_rounds E _ _ rfl A outer s H s0 Ex hr
  exact E.calF (d := d_f_law_rounds) F ok (fa_in (by decide +kernel)) bi
abbrev N_f_law_half : List Str := ["cask", "place", "length", "ends", "middle", "thick", "gap"]
theorem nd_f_law_half : N_f_law_half.Nodup := by decide +kernel
theorem bx_f_law_half {P : Program} {w : World} {K : PySem.W.Frag} {mg : Str → Option Value} {base : Heap} (E : En fa fn tq w K mg base) (f : Addr) (c : Addr) (hcc : c = He.codeOf K d_f_law_half.at_) (A : Around) (outer : List Env) (s : Shared) (H : Hp) (s0 : L2.St) (Ex : XK) (hr : Room 0 (A.deeper (envOfC "_law_half" (defScope s_f_law_half) s.heap.objs.size f (.ref c)))) :
    BX (Gk K) ⟨[0, 1], s0⟩ (cxOf (L2.CX P w) P w K mg base N_f_law_half "_law_half" (defScope s_f_law_half) f (.ref c) A outer s H Ex) (fun cls d _ H => Ex cls d H) (defBody s_f_law_half) b_f_law_half := by
  subst hcc
  refine bx_cons ?_ ?_
  · exact sx_asgT (ex_frz 0) (gx_tup rfl rfl (gsx_cons (gx_name 2 (by decide : ¬ 2 ∈ ([0, 1] : List Nat)) nd_f_law_half) (gsx_cons (gx_name 3 (by decide : ¬ 3 ∈ ([0, 1] : List Nat)) nd_f_law_half) (gsx_cons (gx_name 4 (by decide : ¬ 4 ∈ ([0, 1] : List Nat)) nd_f_law_half) (gsx_cons (gx_name 5 (by decide : ¬ 5 ∈ ([0, 1] : List Nat)) nd_f_law_half) gsx_nil)))))
  refine bx_cons ?_ ?_
  · exact sx_set 6 (ex_bin op_sub os_sub (ax_s 2 (ax_v (ex_bin (op_mul.or op_mulW) (os_or2 os_mulS os_mul) (ax_v ex_int (ax_s 1 ax_nil))) ax_nil))) (by decide : ¬ 6 ∈ ([0, 1] : List Nat)) nd_f_law_half
  refine bx_one ?_
  exact sx_ret (ex_bin op_sub os_sub (ax_s 4 (ax_v (ex_bin op_fdivW os_div (ax_v (ex_bin (op_mul.or op_mulW) (os_or2 os_mulS os_mul) (ax_v (ex_bin (op_mul.or op_mulW) (os_or2 os_mulS os_mul) (ax_v (ex_bin op_sub os_sub (ax_s 4 (ax_s 3 ax_nil))) (ax_s 6 ax_nil))) (ax_s 6 ax_nil))) (ax_v (ex_bin (op_mul.or op_mulW) (os_or2 os_mulS os_mul) (ax_s 2 (ax_s 2 ax_nil))) ax_nil))) ax_nil)))
theorem sc_f_law_half : FnScope N_f_law_half ["cask", "place"] (defScope s_f_law_half) := ⟨rfl, rfl, rfl, by decide +kernel, rfl, by decide +kernel, by decide +kernel⟩
theorem cal_f_law_half {P : Program} {w : World} {K : PySem.W.Frag} {mg : Str → Option Value} {base : Heap} (E : En fa fn tq w K mg base) : CalF P w K mg base (Gk K) 1 "_law_half" op_f_law_half := by
  obtain ⟨fd, F⟩ := E.def_ (d := d_f_law_half) (List.mem_of_getElem? (i := 30) rfl) s_f_law_half
  have bi : Binds K fd ["cask", "place"] [] := F.binds fun _ _ _ _ _ _ us hl => match us, hl with | [_, _], _ => rfl
  have ok := fn_ownC (P := P) (w := w) (mg := mg) (base := base) (G := Gk K) F sc_f_law_half fun A outer s H s0 Ex hr => bx_f_law_half E _ _ rfl A outer s H s0 Ex hr
  exact E.calF (d := d_f_law_half) F ok (fa_in (by decide +kernel)) bi
abbrev N_f_law_round : List Str := ["half"]
theorem nd_f_law_round : N_f_law_round.Nodup := by decide +kernel
theorem bx_f_law_round {P : Program} {w : World} {K : PySem.W.Frag} {mg : Str → Option Value} {base : Heap} (E : En fa fn tq w K mg base) (f : Addr) (c : Addr) (hcc : c = He.codeOf K d_f_law_round.at_) (A : Around) (outer : List Env) (s : Shared) (H : Hp) (s0 : L2.St) (Ex : XK) (hr : Room 0 (A.deeper (envOfC "_law_round" (defScope s_f_law_round) s.heap.objs.size f (.ref c)))) :
    BX (Gk K) ⟨[0], s0⟩ (cxOf (L2.CX P w) P w K mg base N_f_law_round "_law_round" (defScope s_f_law_round) f (.ref c) A outer s H Ex) (fun cls d _ H => Ex cls d H) (defBody s_f_law_round) b_f_law_round := by
  subst hcc
  refine bx_one ?_
  exact sx_ret (ex_bin op_fdivW os_div (ax_v (ex_bin (op_add.or op_catL) (os_or2 os_add os_catL) (ax_v (ex_bin (op_mul.or op_mulW) (os_or2 os_mulS os_mul) (ax_v (ex_bin (op_mul.or op_mulW) (os_or2 os_mulS os_mul) (ax_v ex_int (ax_v ex_int ax_nil))) (ax_s 0 ax_nil))) (ax_v ex_int ax_nil))) (ax_v ex_int ax_nil)))
theorem sc_f_law_round : FnScope N_f_law_round ["half"] (defScope s_f_law_round) := ⟨rfl, rfl, rfl, by decide +kernel, rfl, by decide +kernel, by decide +kernel⟩
theorem cal_f_law_round {P : Program} {w : World} {K : PySem.W.Frag} {mg : Str → Option Value} {base : Heap} (E : En fa fn tq w K mg base) : CalF P w K mg base (Gk K) 1 "_law_round" op_f_law_round := by
  obtain ⟨fd, F⟩ := E.def_ (d := d_f_law_round) (List.mem_of_getElem? (i := 31) rfl) s_f_law_round
  have bi : Binds K fd ["half"] [] := F.binds fun _ _ _ _ _ _ us hl => match us, hl with | [_], _ => rfl
  have ok := fn_ownC (P := P) (w := w) (mg := mg) (base := base) (G := Gk K) F sc_f_law_round fun A outer s H s0 Ex hr => bx_f_law_round E _ _ rfl A outer s H s0 Ex hr
  exact E.calF (d := d_f_law_round) F ok (fa_in (by decide +kernel)) bi
abbrev N_f_law_cases1 : List Str := []
theorem nd_f_law_cases1 : N_f_law_cases1.Nodup := by decide +kernel
theorem bx_f_law_cases1 {P : Program} {w : World} {K : PySem.W.Frag} {mg : Str → Option Value} {base : Heap} (E : En fa fn tq w K mg base) (f : Addr) (c : Addr) (hcc : c = He.codeOf K d_f_law_cases1.at_) (A : Around) (outer : List Env) (s : Shared) (H : Hp) (s0 : L2.St) (Ex : XK) (hr : Room 4 (A.deeper (envOfC "_law_cases1" (defScope s_f_law_cases1) s.heap.objs.size f (.ref c)))) :
    BX (Gk K) ⟨[], s0⟩ (cxOf (L2.CX P w) P w K mg base N_f_law_cases1 "_law_cases1" (defScope s_f_law_cases1) f (.ref c) A outer s H Ex) (fun cls d _ H => Ex cls d H) (defBody s_f_law_cases1) b_f_law_cases1 := by
  subst hcc
  refine bx_cons ?_ ?_
  · refine sx_if (tx_cmp (op_neD (Room.u64 hr)) os_ne (ax_v (ex_told (k := 2) (told E) (E.t (d_f_law_cases1.at_, Lq "_law_cases1" ++ "<lambda>") (List.mem_of_getElem? (i := 2) rfl)) rfl (En.tabM (p := (d_f_law_cases1.at_, Lq "_law_cases1" ++ "<lambda>")) (List.mem_of_getElem? (i := 2) rfl)) (E.tabU (p := (d_f_law_cases1.at_, Lq "_law_cases1" ++ "<lambda>")) (List.mem_of_getElem? (i := 2) rfl)) hr (LamX.lamS_by (by rfl)) (fun A' o' s' H' E' f' c' hr' => (ex_make (cal_m_Cask_init E) (hr'.mono (by decide : 2 ≤ 2)) (takes_of rfl rfl rfl rfl) (ax_v ex_int (ax_v ex_int (ax_v ex_int (ax_v ex_int ax_nil)))) (pa_c (pa_c (pa_c (pa_c pa_n))))))) (ax_v ex_str ax_nil))) ?_ ?_
    · refine bx_one ?_
      exact sx_ret ex_bl
    · exact bx_nil
  refine bx_cons ?_ ?_
  · refine sx_if (tx_cmp (op_neD (Room.u64 hr)) os_ne (ax_v (ex_told (k := 2) (told E) (E.t (d_f_law_cases1.at_, Lq "_law_cases1" ++ "<lambda>") (List.mem_of_getElem? (i := 2) rfl)) rfl (En.tabM (p := (d_f_law_cases1.at_, Lq "_law_cases1" ++ "<lambda>")) (List.mem_of_getElem? (i := 2) rfl)) (E.tabU (p := (d_f_law_cases1.at_, Lq "_law_cases1" ++ "<lambda>")) (List.mem_of_getElem? (i := 2) rfl)) hr (LamX.lamS_by (by rfl)) (fun A' o' s' H' E' f' c' hr' => (ex_call (cal_f_even_round E) (hr'.mono (by decide : 1 ≤ 2)) (takes_of rfl rfl rfl rfl) (ax_v ex_int (ax_v ex_int ax_nil)) (pa_c (pa_c pa_n))))) (ax_v ex_str ax_nil))) ?_ ?_
    · refine bx_one ?_
      exact sx_ret ex_bl
    · exact bx_nil
  refine bx_cons ?_ ?_
  · refine sx_if (tx_cmp (op_neD (Room.u64 hr)) os_ne (ax_v (ex_told (k := 2) (told E) (E.t (d_f_law_cases1.at_, Lq "_law_cases1" ++ "<lambda>") (List.mem_of_getElem? (i := 2) rfl)) rfl (En.tabM (p := (d_f_law_cases1.at_, Lq "_law_cases1" ++ "<lambda>")) (List.mem_of_getElem? (i := 2) rfl)) (E.tabU (p := (d_f_law_cases1.at_, Lq "_law_cases1" ++ "<lambda>")) (List.mem_of_getElem? (i := 2) rfl)) hr (LamX.lamS_by (by rfl)) (fun A' o' s' H' E' f' c' hr' => (ex_make (cal_m_Head_init E) (hr'.mono (by decide : 2 ≤ 2)) (takes_of rfl rfl rfl rfl) (ax_v ex_int (ax_v (ex_lst ops_lst (ax_v ex_int (ax_v ex_int ax_nil)) (pa_c (pa_c pa_n))) ax_nil)) (pa_c (pa_c pa_n))))) (ax_v ex_str ax_nil))) ?_ ?_
    · refine bx_one ?_
      exact sx_ret ex_bl
    · exact bx_nil
  refine bx_cons ?_ ?_
  · refine sx_if (tx_cmp (op_neD (Room.u64 hr)) os_ne (ax_v (ex_told (k := 2) (told E) (E.t (d_f_law_cases1.at_, Lq "_law_cases1" ++ "<lambda>") (List.mem_of_getElem? (i := 2) rfl)) rfl (En.tabM (p := (d_f_law_cases1.at_, Lq "_law_cases1" ++ "<lambda>")) (List.mem_of_getElem? (i := 2) rfl)) (E.tabU (p := (d_f_law_cases1.at_, Lq "_law_cases1" ++ "<lambda>")) (List.mem_of_getElem? (i := 2) rfl)) hr (LamX.lamS_by (by rfl)) (fun A' o' s' H' E' f' c' hr' => (ex_make (cal_m_Head_init E) (hr'.mono (by decide : 2 ≤ 2)) (takes_of rfl rfl rfl rfl) (ax_v ex_int (ax_v (ex_lst ops_lst (ax_v ex_int (ax_v ex_int ax_nil)) (pa_c (pa_c pa_n))) ax_nil)) (pa_c (pa_c pa_n))))) (ax_v ex_str ax_nil))) ?_ ?_
    · refine bx_one ?_
      exact sx_ret ex_bl
    · exact bx_nil
  refine bx_cons ?_ ?_
  · refine sx_if (tx_cmp (op_neD (Room.u64 hr)) os_ne (ax_v (ex_told (k := 2) (told E) (E.t (d_f_law_cases1.at_, Lq "_law_cases1" ++ "<lambda>") (List.mem_of_getElem? (i := 2) rfl)) rfl (En.tabM (p := (d_f_law_cases1.at_, Lq "_law_cases1" ++ "<lambda>")) (List.mem_of_getElem? (i := 2) rfl)) (E.tabU (p := (d_f_law_cases1.at_, Lq "_law_cases1" ++ "<lambda>")) (List.mem_of_getElem? (i := 2) rfl)) hr (LamX.lamS_by (by rfl)) (fun A' o' s' H' E' f' c' hr' => (ex_call (cal_f_around E) (hr'.mono (by decide : 1 ≤ 2)) (takes_of rfl rfl rfl rfl) (ax_v (ex_bin op_sub os_sub (ax_v ex_int (ax_v ex_int ax_nil))) ax_nil) (pa_c pa_n)))) (ax_v ex_str ax_nil))) ?_ ?_
    · refine bx_one ?_
      exact sx_ret ex_bl
    · exact bx_nil
  refine bx_cons ?_ ?_
  · refine sx_if (tx_cmp (op_neD (Room.u64 hr)) os_ne (ax_v (ex_told (k := 2) (told E) (E.t (d_f_law_cases1.at_, Lq "_law_cases1" ++ "<lambda>") (List.mem_of_getElem? (i := 2) rfl)) rfl (En.tabM (p := (d_f_law_cases1.at_, Lq "_law_cases1" ++ "<lambda>")) (List.mem_of_getElem? (i := 2) rfl)) (E.tabU (p := (d_f_law_cases1.at_, Lq "_law_cases1" ++ "<lambda>")) (List.mem_of_getElem? (i := 2) rfl)) hr (LamX.lamS_by (by rfl)) (fun A' o' s' H' E' f' c' hr' => (ex_call (cal_f_staves_for E) (hr'.mono (by decide : 2 ≤ 2)) (takes_of rfl rfl rfl rfl) (ax_v ex_int (ax_v ex_int ax_nil)) (pa_c (pa_c pa_n))))) (ax_v ex_str ax_nil))) ?_ ?_
    · refine bx_one ?_
      exact sx_ret ex_bl
    · exact bx_nil
  refine bx_one ?_
  exact sx_ret ex_bl
theorem sc_f_law_cases1 : FnScope N_f_law_cases1 [] (defScope s_f_law_cases1) := ⟨rfl, rfl, rfl, by decide +kernel, rfl, by decide +kernel, by decide +kernel⟩
theorem cal_f_law_cases1 {P : Program} {w : World} {K : PySem.W.Frag} {mg : Str → Option Value} {base : Heap} (E : En fa fn tq w K mg base) : CalF P w K mg base (Gk K) 5 "_law_cases1" op_f_law_cases1 := by
  obtain ⟨fd, F⟩ := E.def_ (d := d_f_law_cases1) (List.mem_of_getElem? (i := 32) rfl) s_f_law_cases1
  have bi : Binds K fd [] [] := F.binds fun _ _ _ _ _ _ us hl => match us, hl with | [], _ => rfl
  have ok := fn_ownC (P := P) (w := w) (mg := mg) (base := base) (G := Gk K) F sc_f_law_cases1 fun A outer s H s0 Ex hr => bx_f_law_cases1 E _ _ rfl A outer s H s0 Ex hr
  exact E.calF (d := d_f_law_cases1) F ok (fa_in (by decide +kernel)) bi
abbrev N_f_law_rest2 : List Str := ["row", "cask"]
theorem nd_f_law_rest2 : N_f_law_rest2.Nodup := by decide +kernel
theorem bx_f_law_rest2 {P : Program} {w : World} {K : PySem.W.Frag} {mg : Str → Option Value} {base : Heap} (E : En fa fn tq w K mg base) (f : Addr) (c : Addr) (hcc : c = He.codeOf K d_f_law_rest2.at_) (A : Around) (outer : List Env) (s : Shared) (H : Hp) (s0 : L2.St) (Ex : XK) (hr : Room 7 (A.deeper (envOfC "_law_rest2" (defScope s_f_law_rest2) s.heap.objs.size f (.ref c)))) :
    BX (Gk K) ⟨[0, 1], s0⟩ (cxOf (L2.CX P w) P w K mg base N_f_law_rest2 "_law_rest2" (defScope s_f_law_rest2) f (.ref c) A outer s H Ex) (fun cls d _ H => Ex cls d H) (defBody s_f_law_rest2) b_f_law_rest2 := by
  subst hcc
  refine bx_cons ?_ ?_
  · refine sx_if (tx_not (tx_val (ex_call0 (cal_f_law_cases1 E) (hr.mono (by decide : 5 ≤ 7)) (takes_of rfl rfl rfl rfl)))) ?_ ?_
    · refine bx_one ?_
      exact sx_ret ex_bl
    · exact bx_nil
  refine bx_cons ?_ ?_
  · refine sx_if (tx_cmp (op_neD (Room.u64 hr)) os_ne (ax_v (ex_told (k := 5) (told E) (E.t (d_f_law_rest2.at_, Lq "_law_rest2" ++ "<lambda>") (List.mem_of_getElem? (i := 3) rfl)) rfl (En.tabM (p := (d_f_law_rest2.at_, Lq "_law_rest2" ++ "<lambda>")) (List.mem_of_getElem? (i := 3) rfl)) (E.tabU (p := (d_f_law_rest2.at_, Lq "_law_rest2" ++ "<lambda>")) (List.mem_of_getElem? (i := 3) rfl)) hr (LamX.lamS_by (by rfl)) (fun A' o' s' H' E' f' c' hr' => (ex_meth (cal_m_Cask_half_at E) (hr'.mono (by decide : 2 ≤ 5)) (takes_of rfl rfl rfl rfl) (ax_s 1 ax_nil) (ax_v (ex_bin (op_add.or op_catL) (os_or2 os_add os_catL) (ax_v (ex_ix ix_seq os_ix (ax_s 0 (ax_v ex_int ax_nil))) (ax_v ex_int ax_nil))) ax_nil) (pa_c pa_n)))) (ax_v ex_str ax_nil))) ?_ ?_
    · refine bx_one ?_
      exact sx_ret ex_bl
    · exact bx_nil
  refine bx_cons ?_ ?_
  · refine sx_if (tx_cmp (op_neD (Room.u64 hr)) os_ne (ax_v (ex_told (k := 5) (told E) (E.t (d_f_law_rest2.at_, Lq "_law_rest2" ++ "<lambda>") (List.mem_of_getElem? (i := 3) rfl)) rfl (En.tabM (p := (d_f_law_rest2.at_, Lq "_law_rest2" ++ "<lambda>")) (List.mem_of_getElem? (i := 3) rfl)) (E.tabU (p := (d_f_law_rest2.at_, Lq "_law_rest2" ++ "<lambda>")) (List.mem_of_getElem? (i := 3) rfl)) hr (LamX.lamS_by (by rfl)) (fun A' o' s' H' E' f' c' hr' => (ex_call (cal_f_tapered E) (hr'.mono (by decide : 2 ≤ 5)) (takes_of rfl rfl rfl rfl) (ax_s 1 (ax_v ex_int ax_nil)) (pa_c (pa_c pa_n))))) (ax_v ex_str ax_nil))) ?_ ?_
    · refine bx_one ?_
      exact sx_ret ex_bl
    · exact bx_nil
  refine bx_cons ?_ ?_
  · refine sx_if (tx_cmp (op_neD (Room.u64 hr)) os_ne (ax_v (ex_told (k := 5) (told E) (E.t (d_f_law_rest2.at_, Lq "_law_rest2" ++ "<lambda>") (List.mem_of_getElem? (i := 3) rfl)) rfl (En.tabM (p := (d_f_law_rest2.at_, Lq "_law_rest2" ++ "<lambda>")) (List.mem_of_getElem? (i := 3) rfl)) (E.tabU (p := (d_f_law_rest2.at_, Lq "_law_rest2" ++ "<lambda>")) (List.mem_of_getElem? (i := 3) rfl)) hr (LamX.lamS_by (by rfl)) (fun A' o' s' H' E' f' c' hr' => (ex_make (cal_m_Hoops_init E) (hr'.mono (by decide : 4 ≤ 5)) (takes_of rfl rfl rfl rfl) (ax_s 1 (ax_v (ex_lst ops_lst (ax_v (ex_ix ix_seq os_ix (ax_s 0 (ax_v ex_int ax_nil))) ax_nil) (pa_c pa_n)) (ax_v ex_int (ax_v ex_int ax_nil)))) (pa_c (pa_c (pa_c (pa_c pa_n))))))) (ax_v ex_str ax_nil))) ?_ ?_
    · refine bx_one ?_
      exact sx_ret ex_bl
    · exact bx_nil
  refine bx_cons ?_ ?_
  · refine sx_if (tx_cmp (op_neD (Room.u64 hr)) os_ne (ax_v (ex_told (k := 5) (told E) (E.t (d_f_law_rest2.at_, Lq "_law_rest2" ++ "<lambda>") (List.mem_of_getElem? (i := 3) rfl)) rfl (En.tabM (p := (d_f_law_rest2.at_, Lq "_law_rest2" ++ "<lambda>")) (List.mem_of_getElem? (i := 3) rfl)) (E.tabU (p := (d_f_law_rest2.at_, Lq "_law_rest2" ++ "<lambda>")) (List.mem_of_getElem? (i := 3) rfl)) hr (LamX.lamS_by (by rfl)) (fun A' o' s' H' E' f' c' hr' => (ex_make (cal_m_Hoops_init E) (hr'.mono (by decide : 4 ≤ 5)) (takes_of rfl rfl rfl rfl) (ax_s 1 (ax_v (ex_lst ops_lst (ax_v ex_int (ax_v ex_int ax_nil)) (pa_c (pa_c pa_n))) (ax_v ex_int (ax_v ex_int ax_nil)))) (pa_c (pa_c (pa_c (pa_c pa_n))))))) (ax_v ex_str ax_nil))) ?_ ?_
    · refine bx_one ?_
      exact sx_ret ex_bl
    · exact bx_nil
  refine bx_cons ?_ ?_
  · refine sx_if (tx_cmp (op_neD (Room.u64 hr)) os_ne (ax_v (ex_told (k := 5) (told E) (E.t (d_f_law_rest2.at_, Lq "_law_rest2" ++ "<lambda>") (List.mem_of_getElem? (i := 3) rfl)) rfl (En.tabM (p := (d_f_law_rest2.at_, Lq "_law_rest2" ++ "<lambda>")) (List.mem_of_getElem? (i := 3) rfl)) (E.tabU (p := (d_f_law_rest2.at_, Lq "_law_rest2" ++ "<lambda>")) (List.mem_of_getElem? (i := 3) rfl)) hr (LamX.lamS_by (by rfl)) (fun A' o' s' H' E' f' c' hr' => (ex_call (cal_f_strips_for E) (hr'.mono (by decide : 1 ≤ 5)) (takes_of rfl rfl rfl rfl) (ax_v (ex_lst ops_lst (ax_v ex_int ax_nil) (pa_c pa_n)) (ax_v ex_int ax_nil)) (pa_c (pa_c pa_n))))) (ax_v ex_str ax_nil))) ?_ ?_
    · refine bx_one ?_
      exact sx_ret ex_bl
    · exact bx_nil
  refine bx_cons ?_ ?_
  · refine sx_if (tx_cmp (op_neD (Room.u64 hr)) os_ne (ax_v (ex_told (k := 5) (told E) (E.t (d_f_law_rest2.at_, Lq "_law_rest2" ++ "<lambda>") (List.mem_of_getElem? (i := 3) rfl)) rfl (En.tabM (p := (d_f_law_rest2.at_, Lq "_law_rest2" ++ "<lambda>")) (List.mem_of_getElem? (i := 3) rfl)) (E.tabU (p := (d_f_law_rest2.at_, Lq "_law_rest2" ++ "<lambda>")) (List.mem_of_getElem? (i := 3) rfl)) hr (LamX.lamS_by (by rfl)) (fun A' o' s' H' E' f' c' hr' => (ex_make (cal_m_Hoops_init E) (hr'.mono (by decide : 4 ≤ 5)) (takes_of rfl rfl rfl rfl) (ax_s 1 (ax_v (ex_lst ops_lst (ax_v ex_int (ax_v ex_int ax_nil)) (pa_c (pa_c pa_n))) (ax_v ex_int (ax_v ex_int ax_nil)))) (pa_c (pa_c (pa_c (pa_c pa_n))))))) (ax_v ex_str ax_nil))) ?_ ?_
    · refine bx_one ?_
      exact sx_ret ex_bl
    · exact bx_nil
  refine bx_one ?_
  exact sx_ret ex_bl
theorem sc_f_law_rest2 : FnScope N_f_law_rest2 ["row", "cask"] (defScope s_f_law_rest2) := ⟨rfl, rfl, rfl, by decide +kernel, rfl, by decide +kernel, by decide +kernel⟩
theorem cal_f_law_rest2 {P : Program} {w : World} {K : PySem.W.Frag} {mg : Str → Option Value} {base : Heap} (E : En fa fn tq w K mg base) : CalF P w K mg base (Gk K) 8 "_law_rest2" op_f_law_rest2 := by
  obtain ⟨fd, F⟩ := E.def_ (d := d_f_law_rest2) (List.mem_of_getElem? (i := 33) rfl) s_f_law_rest2
  have bi : Binds K fd ["row", "cask"] [] := F.binds fun _ _ _ _ _ _ us hl => match us, hl with | [_, _], _ => rfl
  have ok := fn_ownC (P := P) (w := w) (mg := mg) (base := base) (G := Gk K) F sc_f_law_rest2 fun A outer s H s0 Ex hr => bx_f_law_rest2 E _ _ rfl A outer s H s0 Ex hr
  exact E.calF (d := d_f_law_rest2) F ok (fa_in (by decide +kernel)) bi
abbrev N_f_law_rest1 : List Str := ["dice", "row", "cask", "iron", "lap", "places", "here", "k", "hoops", "sizes", "place", "push", "middle", "marks", "ends", "strip", "left", "size", "fits"]
theorem nd_f_law_rest1 : N_f_law_rest1.Nodup := by decide +kernel
theorem bx_f_law_rest1 {P : Program} {w : World} {K : PySem.W.Frag} {mg : Str → Option Value} {base : Heap} (E : En fa fn tq w K mg base) (f : Addr) (c : Addr) (hcc : c = He.codeOf K d_f_law_rest1.at_) (A : Around) (outer : List Env) (s : Shared) (H : Hp) (s0 : L2.St) (Ex : XK) (hr : Room 8 (A.deeper (envOfC "_law_rest1" (defScope s_f_law_rest1) s.heap.objs.size f (.ref c)))) :
    BX (Gk K) ⟨[0, 1, 2], s0⟩ (cxOf (L2.CX P w) P w K mg base N_f_law_rest1 "_law_rest1" (defScope s_f_law_rest1) f (.ref c) A outer s H Ex) (fun cls d _ H => Ex cls d H) (defBody s_f_law_rest1) b_f_law_rest1 := by
  subst hcc
  refine bx_cons ?_ ?_
  · exact sx_parT (ax_v (ex_bin (op_add.or op_catL) (os_or2 os_add os_catL) (ax_v ex_int (ax_v (ex_call (cal_f_law_roll E) (hr.mono (by decide : 1 ≤ 8)) (takes_of rfl rfl rfl rfl) (ax_s 0 (ax_v ex_int ax_nil)) (pa_c (pa_c pa_n))) ax_nil))) (ax_v (ex_call (cal_f_law_roll E) (hr.mono (by decide : 1 ≤ 8)) (takes_of rfl rfl rfl rfl) (ax_s 0 (ax_v ex_int ax_nil)) (pa_c (pa_c pa_n))) (ax_v (ex_lst ops_lst ax_nil pa_n) (ax_v ex_int ax_nil)))) (pa_c (pa_c (pa_c (pa_c pa_n)))) rfl rfl (px_cons (gx_name 3 (by decide : ¬ 3 ∈ ([0, 1, 2] : List Nat)) nd_f_law_rest1) (px_cons (gx_name 4 (by decide : ¬ 4 ∈ ([0, 1, 2] : List Nat)) nd_f_law_rest1) (px_cons (gx_name 5 (by decide : ¬ 5 ∈ ([0, 1, 2] : List Nat)) nd_f_law_rest1) (px_cons (gx_name 6 (by decide : ¬ 6 ∈ ([0, 1, 2] : List Nat)) nd_f_law_rest1) px_nil))))
  refine bx_cons ?_ ?_
  · refine sx_for (passes_of rfl) rfl (pi_range1 (by rfl) (fr_range E) (pa_c pa_n)) (ax_v (ex_call (cal_f_law_roll E) (hr.mono (by decide : 1 ≤ 8)) (takes_of rfl rfl rfl rfl) (ax_s 0 (ax_v ex_int ax_nil)) (pa_c (pa_c pa_n))) ax_nil) it_r1 (gx_name 7 (by decide : ¬ 7 ∈ ([0, 1, 2] : List Nat)) nd_f_law_rest1) ?_
    refine bx_cons ?_ ?_
    · refine sx_if (tx_cmp op_le os_le (ax_s 6 (ax_v (ex_bin op_sub os_sub (ax_v (ex_ix ix_seq os_ix (ax_s 1 (ax_v ex_int ax_nil))) (ax_s 3 ax_nil))) ax_nil))) ?_ ?_
      · refine bx_one ?_
        exact sx_exp (ex_bm rfl PySem.F.plainAttrs_list PySem.F.slot_list_append PySem.F.type_list_append mt_append os_app (ax_s 5 ax_nil) (ax_s 6 ax_nil) (pa_c pa_n))
      · exact bx_nil
    refine bx_one ?_
    exact sx_set 6 (ex_bin (op_add.or op_catL) (os_or2 os_add os_catL) (ax_v (ex_bin (op_add.or op_catL) (os_or2 os_add os_catL) (ax_s 6 (ax_s 3 ax_nil))) (ax_v (ex_call (cal_f_law_roll E) (hr.mono (by decide : 1 ≤ 8)) (takes_of rfl rfl rfl rfl) (ax_s 0 (ax_v ex_int ax_nil)) (pa_c (pa_c pa_n))) ax_nil))) (by decide : ¬ 6 ∈ ([0, 1, 2] : List Nat)) nd_f_law_rest1
  refine bx_cons ?_ ?_
  · exact sx_set 8 (ex_make (cal_m_Hoops_init E) (hr.mono (by decide : 4 ≤ 8)) (takes_of rfl rfl rfl rfl) (ax_s 2 (ax_s 5 (ax_s 3 (ax_s 4 ax_nil)))) (pa_c (pa_c (pa_c (pa_c pa_n))))) (by decide : ¬ 8 ∈ ([0, 1, 2] : List Nat)) nd_f_law_rest1
  refine bx_cons ?_ ?_
  · exact sx_setLc 9 rfl nd_f_law_rest1 (by decide : ¬ 9 ∈ ([0, 1, 2] : List Nat)) pi_a (blkOk_by (own := [("place", 10)]) (by rfl)) ⟨fun N' hv' s' H' C' cl' fp' => (gx_name 10 (hv' _ (by simp)) nd_f_law_rest1), fun N' hv' s' H' C' cl' fp' => .nil, fun N' hv' s' H' C' cl' fp' => (ex_bin (op_add.or op_catL) (os_or2 os_add os_catL) (ax_v (ex_call (cal_f_law_round E) (hr.mono (by decide : 1 ≤ 8)) LamX.takes0 (ax_v (ex_call (cal_f_law_half E) (hr.mono (by decide : 1 ≤ 8)) LamX.takes0 (ax_s 1 (ax_v (ex_bin (op_add.or op_catL) (os_or2 os_add os_catL) (ax_s 10 (ax_v (ex_bin op_fdivW os_div (ax_s 3 (ax_v ex_int ax_nil))) ax_nil))) ax_nil)) (pa_c (pa_c pa_n))) ax_nil) (pa_c pa_n)) (ax_s 4 ax_nil)))⟩ (ax_v (ex_frz 5) ax_nil) it_a rfl
  refine bx_cons ?_ ?_
  · refine sx_if (TW.tx (tw_or (tx_cmp (op_neD (Room.u64 hr)) os_ne (ax_v (ex_callT call_list_of os_list (fr_list E) (by decide +kernel) (ax_v (ex_meth0 (cal_m_Hoops_lengths E) (hr.mono (by decide : 3 ≤ 8)) (takes_of rfl rfl rfl rfl) (ax_s 8 ax_nil)) ax_nil) (pa_c pa_n)) (ax_s 9 ax_nil))) (tw_or (tx_cmp (op_neD (Room.u64 hr)) os_ne (ax_v (ex_meth0 (cal_m_Hoops_iron E) (hr.mono (by decide : 4 ≤ 8)) (takes_of rfl rfl rfl rfl) (ax_s 8 ax_nil)) (ax_v (ex_callB (cr_sm rfl) os_sum (fr_sum E) (by decide +kernel) (ax_s 9 ax_nil) (pa_c pa_n)) ax_nil))) (tw_or1 (tx_cmp (op_neD (Room.u64 hr)) os_ne (ax_v (ex_meth0 (cal_m_Hoops_key E) (hr.mono (by decide : 2 ≤ 8)) (takes_of rfl rfl rfl rfl) (ax_s 8 ax_nil)) (ax_v (ex_tup ops_tup (ax_s 1 (ax_v (ex_callT call_tuple_of os_tuple (fr_tuple E) (by decide +kernel) (ax_s 5 ax_nil) (pa_c pa_n)) (ax_s 3 (ax_s 4 ax_nil)))) (pa_c (pa_c (pa_c (pa_c pa_n))))) ax_nil))))))) ?_ ?_
    · refine bx_one ?_
      exact sx_ret ex_bl
    · exact bx_nil
  refine bx_cons ?_ ?_
  · exact sx_parT (ax_v (ex_call (cal_f_law_roll E) (hr.mono (by decide : 1 ≤ 8)) (takes_of rfl rfl rfl rfl) (ax_s 0 (ax_v ex_int ax_nil)) (pa_c (pa_c pa_n))) (ax_v (ex_bin op_fdivW os_div (ax_v (ex_bin op_sub os_sub (ax_v (ex_ix ix_seq os_ix (ax_s 1 (ax_v ex_int ax_nil))) (ax_s 3 ax_nil))) (ax_v ex_int ax_nil))) ax_nil)) (pa_c (pa_c pa_n)) rfl rfl (px_cons (gx_name 11 (by decide : ¬ 11 ∈ ([0, 1, 2] : List Nat)) nd_f_law_rest1) (px_cons (gx_name 12 (by decide : ¬ 12 ∈ ([0, 1, 2] : List Nat)) nd_f_law_rest1) px_nil))
  refine bx_cons ?_ ?_
  · refine sx_if (tx_cmp (op_neD (Room.u64 hr)) os_ne (ax_v (ex_callT call_list_of os_list (fr_list E) (by decide +kernel) (ax_v (ex_meth (cal_m_Hoops_driven E) (hr.mono (by decide : 1 ≤ 8)) (takes_of rfl rfl rfl rfl) (ax_s 8 ax_nil) (ax_s 11 ax_nil) (pa_c pa_n)) ax_nil) (pa_c pa_n)) (ax_v (ex_lc rfl nd_f_law_rest1 pi_a (blkOk_by (own := [("place", 10)]) (by rfl)) ⟨fun N' hv' s' H' C' cl' fp' => (gx_name 10 (hv' _ (by simp)) nd_f_law_rest1), fun N' hv' s' H' C' cl' fp' => .nil, fun N' hv' s' H' C' cl' fp' => (ex_if (tx_cmp op_le os_le (ax_s 10 (ax_s 12 ax_nil))) (ex_callB (call_min2 rfl) os_min2 (fr_min E) (by decide +kernel) (ax_s 12 (ax_v (ex_bin (op_add.or op_catL) (os_or2 os_add os_catL) (ax_s 10 (ax_s 11 ax_nil))) ax_nil)) (pa_c (pa_c pa_n))) (ex_callB (call_max2 rfl) os_max2 (fr_max E) (by decide +kernel) (ax_s 12 (ax_v (ex_bin op_sub os_sub (ax_s 10 (ax_s 11 ax_nil))) ax_nil)) (pa_c (pa_c pa_n))))⟩ (ax_v (ex_frz 5) ax_nil) it_a) ax_nil))) ?_ ?_
    · refine bx_one ?_
      exact sx_ret ex_bl
    · exact bx_nil
  refine bx_cons ?_ ?_
  · refine sx_if (tx_cmp (op_neD (Room.u64 hr)) os_ne (ax_v (ex_meth0 (cal_m_Hoops_mirrored E) (hr.mono (by decide : 1 ≤ 8)) (takes_of rfl rfl rfl rfl) (ax_s 8 ax_nil)) (ax_v (ex_cmp (op_eqD (Room.u64 hr)) os_eq (ax_s 5 (ax_v (ex_srt rfl (Room.u66 hr) rfl (fr_sorted E) (ax_v (ex_lc rfl nd_f_law_rest1 pi_a (blkOk_by (own := [("place", 10)]) (by rfl)) ⟨fun N' hv' s' H' C' cl' fp' => (gx_name 10 (hv' _ (by simp)) nd_f_law_rest1), fun N' hv' s' H' C' cl' fp' => .nil, fun N' hv' s' H' C' cl' fp' => (ex_bin op_sub os_sub (ax_v (ex_bin op_sub os_sub (ax_v (ex_ix ix_seq os_ix (ax_s 1 (ax_v ex_int ax_nil))) (ax_s 3 ax_nil))) (ax_s 10 ax_nil)))⟩ (ax_v (ex_frz 5) ax_nil) it_a) ax_nil) (pa_c pa_n)) ax_nil))) ax_nil))) ?_ ?_
    · refine bx_one ?_
      exact sx_ret ex_bl
    · exact bx_nil
  refine bx_cons ?_ ?_
  · exact sx_set 13 (ex_bin (op_add.or op_catL) (os_or2 os_add os_catL) (ax_v (ex_lst ops_lst (ax_v ex_int ax_nil) (pa_c pa_n)) (ax_v (ex_lc rfl nd_f_law_rest1 pi_a (blkOk_by (own := [("place", 10)]) (by rfl)) ⟨fun N' hv' s' H' C' cl' fp' => (gx_name 10 (hv' _ (by simp)) nd_f_law_rest1), fun N' hv' s' H' C' cl' fp' => .nil, fun N' hv' s' H' C' cl' fp' => (ex_bin (op_add.or op_catL) (os_or2 os_add os_catL) (ax_s 10 (ax_s 3 ax_nil)))⟩ (ax_v (ex_frz 5) ax_nil) it_a) ax_nil))) (by decide : ¬ 13 ∈ ([0, 1, 2] : List Nat)) nd_f_law_rest1
  refine bx_cons ?_ ?_
  · exact sx_set 14 (ex_bin (op_add.or op_catL) (os_or2 os_add os_catL) (ax_s 5 (ax_v (ex_lst ops_lst (ax_v (ex_ix ix_seq os_ix (ax_s 1 (ax_v ex_int ax_nil))) ax_nil) (pa_c pa_n)) ax_nil))) (by decide : ¬ 14 ∈ ([0, 1, 2] : List Nat)) nd_f_law_rest1
  refine bx_cons ?_ ?_
  · refine sx_if (tx_cmp (op_neD (Room.u64 hr)) os_ne (ax_v (ex_meth0 (cal_m_Hoops_widest_gap E) (hr.mono (by decide : 1 ≤ 8)) (takes_of rfl rfl rfl rfl) (ax_s 8 ax_nil)) (ax_v (ex_callB (cr_mx rfl (Room.u66 hr)) os_max (fr_max E) (by decide +kernel) (ax_v (ex_lc rfl nd_f_law_rest1 (pi_range1 (by rfl) (fr_range E) (pa_c pa_n)) (blkOk_by (own := [("k", 7)]) (by rfl)) ⟨fun N' hv' s' H' C' cl' fp' => (gx_name 7 (hv' _ (by simp)) nd_f_law_rest1), fun N' hv' s' H' C' cl' fp' => .nil, fun N' hv' s' H' C' cl' fp' => (ex_bin op_sub os_sub (ax_v (ex_ix ix_seq os_ix (ax_s 14 (ax_s 7 ax_nil))) (ax_v (ex_ix ix_seq os_ix (ax_s 13 (ax_s 7 ax_nil))) ax_nil)))⟩ (ax_v (ex_callB call_len os_len (fr_len E) (by decide +kernel) (ax_s 13 ax_nil) (pa_c pa_n)) ax_nil) it_r1) ax_nil) (pa_c pa_n)) ax_nil))) ?_ ?_
    · refine bx_one ?_
      exact sx_ret ex_bl
    · exact bx_nil
  refine bx_cons ?_ ?_
  · exact sx_parT (ax_v (ex_bin (op_add.or op_catL) (os_or2 os_add os_catL) (ax_v (ex_bin (op_add.or op_catL) (os_or2 os_add os_catL) (ax_v ex_int (ax_v (ex_callB (cr_mx rfl (Room.u66 hr)) os_max (fr_max E) (by decide +kernel) (ax_v (ex_bin (op_add.or op_catL) (os_or2 os_add os_catL) (ax_s 9 (ax_v (ex_lst ops_lst (ax_v ex_int ax_nil) (pa_c pa_n)) ax_nil))) ax_nil) (pa_c pa_n)) ax_nil))) (ax_v (ex_call (cal_f_law_roll E) (hr.mono (by decide : 1 ≤ 8)) (takes_of rfl rfl rfl rfl) (ax_s 0 (ax_v ex_int ax_nil)) (pa_c (pa_c pa_n))) ax_nil))) (ax_v (ex_lst ops_lst ax_nil pa_n) ax_nil)) (pa_c (pa_c pa_n)) rfl rfl (px_cons (gx_name 15 (by decide : ¬ 15 ∈ ([0, 1, 2] : List Nat)) nd_f_law_rest1) (px_cons (gx_name 16 (by decide : ¬ 16 ∈ ([0, 1, 2] : List Nat)) nd_f_law_rest1) px_nil))
  refine bx_cons ?_ ?_
  · refine sx_for (passes_of rfl) rfl pi_a (ax_v (ex_srtR rfl (Room.u66 hr) rfl (fr_sorted E) (ax_s 9 ax_nil) (pa_c pa_n)) ax_nil) it_a (gx_name 17 (by decide : ¬ 17 ∈ ([0, 1, 2] : List Nat)) nd_f_law_rest1) ?_
    refine bx_cons ?_ ?_
    · exact sx_setLc 18 rfl nd_f_law_rest1 (by decide : ¬ 18 ∈ ([0, 1, 2] : List Nat)) (pi_range1 (by rfl) (fr_range E) (pa_c pa_n)) (blkOk_by (own := [("k", 7)]) (by rfl)) ⟨fun N' hv' s' H' C' cl' fp' => (gx_name 7 (hv' _ (by simp)) nd_f_law_rest1), fun N' hv' s' H' C' cl' fp' => (.one (tx_cmp op_ge os_ge (ax_v (ex_ix ix_seq os_ix (ax_s 16 (ax_s 7 ax_nil))) (ax_s 17 ax_nil)))), fun N' hv' s' H' C' cl' fp' => (ex_frz 7)⟩ (ax_v (ex_callB call_len os_len (fr_len E) (by decide +kernel) (ax_s 16 ax_nil) (pa_c pa_n)) ax_nil) it_r1 rfl
    refine bx_cons ?_ ?_
    · exact sx_set 16 (ex_bin (op_add.or op_catL) (os_or2 os_add os_catL) (ax_s 16 (ax_v (ex_if (tx_cmp (op_eqD (Room.u64 hr)) os_eq (ax_s 18 (ax_v (ex_lst ops_lst ax_nil pa_n) ax_nil))) (ex_lst ops_lst (ax_v (ex_bin op_sub os_sub (ax_s 15 (ax_s 17 ax_nil))) ax_nil) (pa_c pa_n)) (ex_lst ops_lst ax_nil pa_n)) ax_nil))) (by decide : ¬ 16 ∈ ([0, 1, 2] : List Nat)) nd_f_law_rest1
    refine bx_one ?_
    refine sx_if (tx_cmp (op_neD (Room.u64 hr)) os_ne (ax_s 18 (ax_v (ex_lst ops_lst ax_nil pa_n) ax_nil))) ?_ ?_
    · refine bx_one ?_
      exact sx_sub set_list os_setL (ax_v (ex_bin op_sub os_sub (ax_v (ex_ix ix_seq os_ix (ax_s 16 (ax_v (ex_ix ix_seq os_ix (ax_s 18 (ax_v ex_int ax_nil))) ax_nil))) (ax_s 17 ax_nil))) (ax_s 16 (ax_v (ex_ix ix_seq os_ix (ax_s 18 (ax_v ex_int ax_nil))) ax_nil)))
    · exact bx_nil
  refine bx_cons ?_ ?_
  · refine sx_if (tx_cmp (op_neD (Room.u64 hr)) os_ne (ax_v (ex_call (cal_f_strips_for E) (hr.mono (by decide : 1 ≤ 8)) (takes_of rfl rfl rfl rfl) (ax_s 9 (ax_s 15 ax_nil)) (pa_c (pa_c pa_n))) (ax_v (ex_callB call_len os_len (fr_len E) (by decide +kernel) (ax_s 16 ax_nil) (pa_c pa_n)) ax_nil))) ?_ ?_
    · refine bx_one ?_
      exact sx_ret ex_bl
    · exact bx_nil
  refine bx_one ?_
  exact sx_ret (ex_call (cal_f_law_rest2 E) (hr.mono (by decide : 8 ≤ 8)) (takes_of rfl rfl rfl rfl) (ax_s 1 (ax_s 2 ax_nil)) (pa_c (pa_c pa_n)))
theorem sc_f_law_rest1 : FnScope N_f_law_rest1 ["dice", "row", "cask"] (defScope s_f_law_rest1) := ⟨rfl, rfl, rfl, by decide +kernel, rfl, by decide +kernel, by decide +kernel⟩
theorem cal_f_law_rest1 {P : Program} {w : World} {K : PySem.W.Frag} {mg : Str → Option Value} {base : Heap} (E : En fa fn tq w K mg base) : CalF P w K mg base (Gk K) 9 "_law_rest1" op_f_law_rest1 := by
  obtain ⟨fd, F⟩ := E.def_ (d := d_f_law_rest1) (List.mem_of_getElem? (i := 34) rfl) s_f_law_rest1
  have bi : Binds K fd ["dice", "row", "cask"] [] := F.binds fun _ _ _ _ _ _ us hl => match us, hl with | [_, _, _], _ => rfl
  have ok := fn_ownC (P := P) (w := w) (mg := mg) (base := base) (G := Gk K) F sc_f_law_rest1 fun A outer s H s0 Ex hr => bx_f_law_rest1 E _ _ rfl A outer s H s0 Ex hr
  exact E.calF (d := d_f_law_rest1) F ok (fa_in (by decide +kernel)) bi
abbrev N_f_law_rest3 : List Str := ["dice", "row", "cask", "many", "total", "parts", "widths", "k", "turns", "order", "small", "told", "covers", "head", "over", "sizes", "here", "near", "spot", "square", "gap"]
theorem nd_f_law_rest3 : N_f_law_rest3.Nodup := by decide +kernel
theorem bx_f_law_rest3 {P : Program} {w : World} {K : PySem.W.Frag} {mg : Str → Option Value} {base : Heap} (E : En fa fn tq w K mg base) (f : Addr) (c : Addr) (hcc : c = He.codeOf K d_f_law_rest3.at_) (A : Around) (outer : List Env) (s : Shared) (H : Hp) (s0 : L2.St) (Ex : XK) (hr : Room 11 (A.deeper (envOfC "_law_rest3" (defScope s_f_law_rest3) s.heap.objs.size f (.ref c)))) :
    BX (Gk K) ⟨[0, 1, 2, 3, 4, 5], s0⟩ (cxOf (L2.CX P w) P w K mg base N_f_law_rest3 "_law_rest3" (defScope s_f_law_rest3) f (.ref c) A outer s H Ex) (fun cls d _ H => Ex cls d H) (defBody s_f_law_rest3) b_f_law_rest3 := by
  subst hcc
  refine bx_cons ?_ ?_
  · refine sx_if (TW.tx (tw_or (tx_cmp (op_neD (Room.u64 hr)) os_ne (ax_v (ex_callB (cr_sm rfl) os_sum (fr_sum E) (by decide +kernel) (ax_s 5 ax_nil) (pa_c pa_n)) (ax_s 4 ax_nil))) (tw_or (tx_cmp op_gt os_gt (ax_v (ex_bin op_sub os_sub (ax_v (ex_callB (cr_mx rfl (Room.u66 hr)) os_max (fr_max E) (by decide +kernel) (ax_s 5 ax_nil) (pa_c pa_n)) (ax_v (ex_callB (cr_mn rfl (Room.u66 hr)) os_min (fr_min E) (by decide +kernel) (ax_s 5 ax_nil) (pa_c pa_n)) ax_nil))) (ax_v ex_int ax_nil))) (tw_or (tx_cmp (op_neD (Room.u64 hr)) os_ne (ax_v (ex_callT call_list_of os_list (fr_list E) (by decide +kernel) (ax_s 5 ax_nil) (pa_c pa_n)) (ax_v (ex_srtR rfl (Room.u66 hr) rfl (fr_sorted E) (ax_s 5 ax_nil) (pa_c pa_n)) ax_nil))) (tw_or1 (tx_cmp (op_neD (Room.u64 hr)) os_ne (ax_v (ex_callB call_len os_len (fr_len E) (by decide +kernel) (ax_s 5 ax_nil) (pa_c pa_n)) (ax_s 3 ax_nil)))))))) ?_ ?_
    · refine bx_one ?_
      exact sx_ret ex_bl
    · exact bx_nil
  refine bx_cons ?_ ?_
  · exact sx_set 6 (ex_lc rfl nd_f_law_rest3 (pi_range1 (by rfl) (fr_range E) (pa_c pa_n)) (blkOk_by (own := [("k", 7)]) (by rfl)) ⟨fun N' hv' s' H' C' cl' fp' => (gx_name 7 (hv' _ (by simp)) nd_f_law_rest3), fun N' hv' s' H' C' cl' fp' => .nil, fun N' hv' s' H' C' cl' fp' => (ex_bin (op_add.or op_catL) (os_or2 os_add os_catL) (ax_v ex_int (ax_v (ex_call (cal_f_law_roll E) (hr.mono (by decide : 1 ≤ 11)) LamX.takes0 (ax_s 0 (ax_v ex_int ax_nil)) (pa_c (pa_c pa_n))) ax_nil)))⟩ (ax_v (ex_call (cal_f_law_roll E) (hr.mono (by decide : 1 ≤ 11)) (takes_of rfl rfl rfl rfl) (ax_s 0 (ax_v ex_int ax_nil)) (pa_c (pa_c pa_n))) ax_nil) it_r1) (by decide : ¬ 6 ∈ ([0, 1, 2, 3, 4, 5] : List Nat)) nd_f_law_rest3
  refine bx_cons ?_ ?_
  · exact sx_parT (ax_v (ex_call (cal_f_alternated E) (hr.mono (by decide : 1 ≤ 11)) (takes_of rfl rfl rfl rfl) (ax_s 6 ax_nil) (pa_c pa_n)) (ax_v (ex_srt rfl (Room.u66 hr) rfl (fr_sorted E) (ax_s 6 ax_nil) (pa_c pa_n)) ax_nil)) (pa_c (pa_c pa_n)) rfl rfl (px_cons (gx_name 8 (by decide : ¬ 8 ∈ ([0, 1, 2, 3, 4, 5] : List Nat)) nd_f_law_rest3) (px_cons (gx_name 9 (by decide : ¬ 9 ∈ ([0, 1, 2, 3, 4, 5] : List Nat)) nd_f_law_rest3) px_nil))
  refine bx_cons ?_ ?_
  · refine sx_if (TW.tx (tw_or (tx_cmp (op_neD (Room.u64 hr)) os_ne (ax_v (ex_srt rfl (Room.u66 hr) rfl (fr_sorted E) (ax_s 8 ax_nil) (pa_c pa_n)) (ax_s 9 ax_nil))) (tw_or1 (tx_cmp (op_neD (Room.u64 hr)) os_ne (ax_v (ex_lc rfl nd_f_law_rest3 (pi_range1 (by rfl) (fr_range E) (pa_c pa_n)) (blkOk_by (own := [("k", 7)]) (by rfl)) ⟨fun N' hv' s' H' C' cl' fp' => (gx_name 7 (hv' _ (by simp)) nd_f_law_rest3), fun N' hv' s' H' C' cl' fp' => .nil, fun N' hv' s' H' C' cl' fp' => (ex_ix ix_seq os_ix (ax_s 8 (ax_v (ex_bin (op_mul.or op_mulW) (os_or2 os_mulS os_mul) (ax_v ex_int (ax_s 7 ax_nil))) ax_nil)))⟩ (ax_v (ex_bin op_fdivW os_div (ax_v (ex_bin (op_add.or op_catL) (os_or2 os_add os_catL) (ax_v (ex_callB call_len os_len (fr_len E) (by decide +kernel) (ax_s 9 ax_nil) (pa_c pa_n)) (ax_v ex_int ax_nil))) (ax_v ex_int ax_nil))) ax_nil) it_r1) (ax_v (ex_lc rfl nd_f_law_rest3 (pi_range1 (by rfl) (fr_range E) (pa_c pa_n)) (blkOk_by (own := [("k", 7)]) (by rfl)) ⟨fun N' hv' s' H' C' cl' fp' => (gx_name 7 (hv' _ (by simp)) nd_f_law_rest3), fun N' hv' s' H' C' cl' fp' => .nil, fun N' hv' s' H' C' cl' fp' => (ex_ix ix_seq os_ix (ax_s 9 (ax_v (ex_bin op_sub os_sub (ax_v (ex_bin op_sub os_sub (ax_v (ex_callB call_len os_len (fr_len E) (by decide +kernel) (ax_s 9 ax_nil) (pa_c pa_n)) (ax_v ex_int ax_nil))) (ax_s 7 ax_nil))) ax_nil)))⟩ (ax_v (ex_bin op_fdivW os_div (ax_v (ex_bin (op_add.or op_catL) (os_or2 os_add os_catL) (ax_v (ex_callB call_len os_len (fr_len E) (by decide +kernel) (ax_s 9 ax_nil) (pa_c pa_n)) (ax_v ex_int ax_nil))) (ax_v ex_int ax_nil))) ax_nil) it_r1) ax_nil)))))) ?_ ?_
    · refine bx_one ?_
      exact sx_ret ex_bl
    · exact bx_nil
  refine bx_cons ?_ ?_
  · refine sx_if (tx_cmp (op_neD (Room.u64 hr)) os_ne (ax_v (ex_lc rfl nd_f_law_rest3 (pi_range1 (by rfl) (fr_range E) (pa_c pa_n)) (blkOk_by (own := [("k", 7)]) (by rfl)) ⟨fun N' hv' s' H' C' cl' fp' => (gx_name 7 (hv' _ (by simp)) nd_f_law_rest3), fun N' hv' s' H' C' cl' fp' => .nil, fun N' hv' s' H' C' cl' fp' => (ex_ix ix_seq os_ix (ax_s 8 (ax_v (ex_bin (op_add.or op_catL) (os_or2 os_add os_catL) (ax_v (ex_bin (op_mul.or op_mulW) (os_or2 os_mulS os_mul) (ax_v ex_int (ax_s 7 ax_nil))) (ax_v ex_int ax_nil))) ax_nil)))⟩ (ax_v (ex_bin op_fdivW os_div (ax_v (ex_callB call_len os_len (fr_len E) (by decide +kernel) (ax_s 9 ax_nil) (pa_c pa_n)) (ax_v ex_int ax_nil))) ax_nil) it_r1) (ax_v (ex_sl rfl (ex_frz 9) .none (.some (ex_bin op_fdivW os_div (ax_v (ex_callB call_len os_len (fr_len E) (by decide +kernel) (ax_s 9 ax_nil) (pa_c pa_n)) (ax_v ex_int ax_nil))))) ax_nil))) ?_ ?_
    · refine bx_one ?_
      exact sx_ret ex_bl
    · exact bx_nil
  refine bx_cons ?_ ?_
  · exact sx_set 10 (ex_bin (op_add.or op_catL) (os_or2 os_add os_catL) (ax_v ex_int (ax_v (ex_call (cal_f_law_roll E) (hr.mono (by decide : 1 ≤ 11)) (takes_of rfl rfl rfl rfl) (ax_s 0 (ax_v ex_int ax_nil)) (pa_c (pa_c pa_n))) ax_nil))) (by decide : ¬ 10 ∈ ([0, 1, 2, 3, 4, 5] : List Nat)) nd_f_law_rest3
  refine bx_cons ?_ ?_
  · exact sx_par2 11 12 (ax_v (ex_told (k := 9) (told E) (E.t (d_f_law_rest3.at_, Lq "_law_rest3" ++ "<lambda>") (List.mem_of_getElem? (i := 4) rfl)) rfl (En.tabM (p := (d_f_law_rest3.at_, Lq "_law_rest3" ++ "<lambda>")) (List.mem_of_getElem? (i := 4) rfl)) (E.tabU (p := (d_f_law_rest3.at_, Lq "_law_rest3" ++ "<lambda>")) (List.mem_of_getElem? (i := 4) rfl)) hr (LamX.lamS_by (by rfl)) (fun A' o' s' H' E' f' c' hr' => (ex_call (cal_f_head_boards E) (hr'.mono (by decide : 1 ≤ 9)) (takes_of rfl rfl rfl rfl) (ax_s 10 (ax_s 6 ax_nil)) (pa_c (pa_c pa_n))))) (ax_v (ex_lst ops_lst ax_nil pa_n) ax_nil)) (pa_c (pa_c pa_n)) rfl (by decide : ¬ 11 ∈ ([0, 1, 2, 3, 4, 5] : List Nat)) (by decide : ¬ 12 ∈ ([0, 1, 2, 3, 4, 5] : List Nat)) nd_f_law_rest3 rfl
  refine bx_cons ?_ ?_
  · refine sx_for (passes_of rfl) rfl (pi_range1 (by rfl) (fr_range E) (pa_c pa_n)) (ax_v (ex_callB call_len os_len (fr_len E) (by decide +kernel) (ax_s 9 ax_nil) (pa_c pa_n)) ax_nil) it_r1 (gx_name 7 (by decide : ¬ 7 ∈ ([0, 1, 2, 3, 4, 5] : List Nat)) nd_f_law_rest3) ?_
    refine bx_one ?_
    refine sx_if (tx_cmp op_lt os_lt (ax_v (ex_callB (cr_sm rfl) os_sum (fr_sum E) (by decide +kernel) (ax_s 12 ax_nil) (pa_c pa_n)) (ax_v (ex_bin (op_mul.or op_mulW) (os_or2 os_mulS os_mul) (ax_v ex_int (ax_s 10 ax_nil))) ax_nil))) ?_ ?_
    · refine bx_one ?_
      exact sx_set 12 (ex_bin (op_add.or op_catL) (os_or2 os_add os_catL) (ax_s 12 (ax_v (ex_lst ops_lst (ax_v (ex_ix ix_seq os_ix (ax_s 9 (ax_v (ex_bin op_sub os_sub (ax_v (ex_bin op_sub os_sub (ax_v (ex_callB call_len os_len (fr_len E) (by decide +kernel) (ax_s 9 ax_nil) (pa_c pa_n)) (ax_v ex_int ax_nil))) (ax_s 7 ax_nil))) ax_nil))) ax_nil) (pa_c pa_n)) ax_nil))) (by decide : ¬ 12 ∈ ([0, 1, 2, 3, 4, 5] : List Nat)) nd_f_law_rest3
    · exact bx_nil
  refine bx_cons ?_ ?_
  · refine sx_if (tx_cmp (op_neD (Room.u64 hr)) os_ne (ax_s 11 (ax_v (ex_if (tx_cmp op_ge os_ge (ax_v (ex_callB (cr_sm rfl) os_sum (fr_sum E) (by decide +kernel) (ax_s 12 ax_nil) (pa_c pa_n)) (ax_v (ex_bin (op_mul.or op_mulW) (os_or2 os_mulS os_mul) (ax_v ex_int (ax_s 10 ax_nil))) ax_nil))) (ex_callT call_tuple_of os_tuple (fr_tuple E) (by decide +kernel) (ax_s 12 ax_nil) (pa_c pa_n)) ex_str) ax_nil))) ?_ ?_
    · refine bx_one ?_
      exact sx_ret ex_bl
    · exact bx_nil
  refine bx_cons ?_ ?_
  · refine sx_if (tx_cmp (op_neD (Room.u64 hr)) os_ne (ax_s 11 (ax_v ex_str ax_nil))) ?_ ?_
    · refine bx_cons ?_ ?_
      · exact sx_set 13 (ex_make (cal_m_Head_init E) (hr.mono (by decide : 2 ≤ 11)) (takes_of rfl rfl rfl rfl) (ax_s 10 (ax_s 11 ax_nil)) (pa_c (pa_c pa_n))) (by decide : ¬ 13 ∈ ([0, 1, 2, 3, 4, 5] : List Nat)) nd_f_law_rest3
      refine bx_cons ?_ ?_
      · exact sx_parT (ax_v (ex_bin op_sub os_sub (ax_v (ex_callB (cr_sm rfl) os_sum (fr_sum E) (by decide +kernel) (ax_s 11 ax_nil) (pa_c pa_n)) (ax_v (ex_bin (op_mul.or op_mulW) (os_or2 os_mulS os_mul) (ax_v ex_int (ax_s 10 ax_nil))) ax_nil))) (ax_v (ex_meth0 (cal_m_Head_lengths E) (hr.mono (by decide : 2 ≤ 11)) (takes_of rfl rfl rfl rfl) (ax_s 13 ax_nil)) (ax_v (ex_bin op_sub os_sub (ax_v (ex_bin op_sub os_sub (ax_v ex_int (ax_s 10 ax_nil))) (ax_v (ex_bin op_fdivW os_div (ax_v (ex_bin op_sub os_sub (ax_v (ex_callB (cr_sm rfl) os_sum (fr_sum E) (by decide +kernel) (ax_s 11 ax_nil) (pa_c pa_n)) (ax_v (ex_bin (op_mul.or op_mulW) (os_or2 os_mulS os_mul) (ax_v ex_int (ax_s 10 ax_nil))) ax_nil))) (ax_v ex_int ax_nil))) ax_nil))) ax_nil))) (pa_c (pa_c (pa_c pa_n))) rfl rfl (px_cons (gx_name 14 (by decide : ¬ 14 ∈ ([0, 1, 2, 3, 4, 5] : List Nat)) nd_f_law_rest3) (px_cons (gx_name 15 (by decide : ¬ 15 ∈ ([0, 1, 2, 3, 4, 5] : List Nat)) nd_f_law_rest3) (px_cons (gx_name 16 (by decide : ¬ 16 ∈ ([0, 1, 2, 3, 4, 5] : List Nat)) nd_f_law_rest3) px_nil)))
      refine bx_cons ?_ ?_
      · refine sx_if (TW.tx (tw_or (tx_cmp (op_neD (Room.u64 hr)) os_ne (ax_v (ex_meth0 (cal_m_Head_over E) (hr.mono (by decide : 1 ≤ 11)) (takes_of rfl rfl rfl rfl) (ax_s 13 ax_nil)) (ax_s 14 ax_nil))) (tw_or1 (tx_cmp (op_neD (Room.u64 hr)) os_ne (ax_v (ex_meth0 (cal_m_Head_key E) (hr.mono (by decide : 1 ≤ 11)) (takes_of rfl rfl rfl rfl) (ax_s 13 ax_nil)) (ax_v (ex_tup ops_tup (ax_s 10 (ax_s 11 ax_nil)) (pa_c (pa_c pa_n))) ax_nil)))))) ?_ ?_
        · refine bx_one ?_
          exact sx_ret ex_bl
        · exact bx_nil
      refine bx_cons ?_ ?_
      · refine sx_for (passes_of rfl) rfl (pi_range1 (by rfl) (fr_range E) (pa_c pa_n)) (ax_v (ex_callB call_len os_len (fr_len E) (by decide +kernel) (ax_s 11 ax_nil) (pa_c pa_n)) ax_nil) it_r1 (gx_name 7 (by decide : ¬ 7 ∈ ([0, 1, 2, 3, 4, 5] : List Nat)) nd_f_law_rest3) ?_
        refine bx_cons ?_ ?_
        · exact sx_set 17 (ex_callB (cr_mn rfl (Room.u66 hr)) os_min (fr_min E) (by decide +kernel) (ax_v (ex_lc rfl nd_f_law_rest3 (pi_range2 (by rfl) (fr_range E) (pa_c (pa_c pa_n))) (blkOk_by (own := [("spot", 18)]) (by rfl)) ⟨fun N' hv' s' H' C' cl' fp' => (gx_name 18 (hv' _ (by simp)) nd_f_law_rest3), fun N' hv' s' H' C' cl' fp' => .nil, fun N' hv' s' H' C' cl' fp' => (ex_callB call_abs os_abs (fr_abs E) (by decide +kernel) (ax_s 18 ax_nil) (pa_c pa_n))⟩ (ax_v (ex_frz 16) (ax_v (ex_bin (op_add.or op_catL) (os_or2 os_add os_catL) (ax_v (ex_bin (op_add.or op_catL) (os_or2 os_add os_catL) (ax_s 16 (ax_v (ex_ix ix_seq os_ix (ax_s 11 (ax_s 7 ax_nil))) ax_nil))) (ax_v ex_int ax_nil))) ax_nil)) it_r2) ax_nil) (pa_c pa_n)) (by decide : ¬ 17 ∈ ([0, 1, 2, 3, 4, 5] : List Nat)) nd_f_law_rest3
        refine bx_cons ?_ ?_
        · exact sx_set 19 (ex_callB (call_max2 rfl) os_max2 (fr_max E) (by decide +kernel) (ax_v ex_int (ax_v (ex_bin op_sub os_sub (ax_v (ex_bin (op_mul.or op_mulW) (os_or2 os_mulS os_mul) (ax_s 10 (ax_s 10 ax_nil))) (ax_v (ex_bin (op_mul.or op_mulW) (os_or2 os_mulS os_mul) (ax_s 17 (ax_s 17 ax_nil))) ax_nil))) ax_nil)) (pa_c (pa_c pa_n))) (by decide : ¬ 19 ∈ ([0, 1, 2, 3, 4, 5] : List Nat)) nd_f_law_rest3
        refine bx_cons ?_ ?_
        · refine sx_if (TW.tx (tw_or (tx_cmp (op_neD (Room.u64 hr)) os_ne (ax_v (ex_bin op_mod os_mod (ax_v (ex_ix ix_seq os_ix (ax_s 15 (ax_s 7 ax_nil))) (ax_v ex_int ax_nil))) (ax_v ex_int ax_nil))) (tw_or1 (tx_cmp op_lt os_lt (ax_v (ex_bin (op_mul.or op_mulW) (os_or2 os_mulS os_mul) (ax_v (ex_ix ix_seq os_ix (ax_s 15 (ax_s 7 ax_nil))) (ax_v (ex_ix ix_seq os_ix (ax_s 15 (ax_s 7 ax_nil))) ax_nil))) (ax_v (ex_bin (op_mul.or op_mulW) (os_or2 os_mulS os_mul) (ax_v ex_int (ax_s 19 ax_nil))) ax_nil)))))) ?_ ?_
          · refine bx_one ?_
            exact sx_ret ex_bl
          · exact bx_nil
        refine bx_cons ?_ ?_
        · refine sx_if (TW.tx (tw_and (tx_cmp op_gt os_gt (ax_v (ex_ix ix_seq os_ix (ax_s 15 (ax_s 7 ax_nil))) (ax_v ex_int ax_nil))) (tw_and1 (tx_cmp op_ge os_ge (ax_v (ex_bin (op_mul.or op_mulW) (os_or2 os_mulS os_mul) (ax_v (ex_bin op_sub os_sub (ax_v (ex_ix ix_seq os_ix (ax_s 15 (ax_s 7 ax_nil))) (ax_v ex_int ax_nil))) (ax_v (ex_bin op_sub os_sub (ax_v (ex_ix ix_seq os_ix (ax_s 15 (ax_s 7 ax_nil))) (ax_v ex_int ax_nil))) ax_nil))) (ax_v (ex_bin (op_mul.or op_mulW) (os_or2 os_mulS os_mul) (ax_v ex_int (ax_s 19 ax_nil))) ax_nil)))))) ?_ ?_
          · refine bx_one ?_
            exact sx_ret ex_bl
          · exact bx_nil
        refine bx_one ?_
        exact sx_set 16 (ex_bin (op_add.or op_catL) (os_or2 os_add os_catL) (ax_s 16 (ax_v (ex_ix ix_seq os_ix (ax_s 11 (ax_s 7 ax_nil))) ax_nil))) (by decide : ¬ 16 ∈ ([0, 1, 2, 3, 4, 5] : List Nat)) nd_f_law_rest3
      refine bx_cons ?_ ?_
      · exact sx_set 20 (ex_bin (op_add.or op_catL) (os_or2 os_add os_catL) (ax_v ex_int (ax_v (ex_call (cal_f_law_roll E) (hr.mono (by decide : 1 ≤ 11)) (takes_of rfl rfl rfl rfl) (ax_s 0 (ax_v ex_int ax_nil)) (pa_c (pa_c pa_n))) ax_nil))) (by decide : ¬ 20 ∈ ([0, 1, 2, 3, 4, 5] : List Nat)) nd_f_law_rest3
      refine bx_one ?_
      refine sx_if (tx_cmp (op_neD (Room.u64 hr)) os_ne (ax_v (ex_meth (cal_m_Head_pegs E) (hr.mono (by decide : 5 ≤ 11)) (takes_of rfl rfl rfl rfl) (ax_s 13 ax_nil) (ax_s 20 ax_nil) (pa_c pa_n)) (ax_v (ex_callB (cr_sm rfl) os_sum (fr_sum E) (by decide +kernel) (ax_v (ex_lc rfl nd_f_law_rest3 (pi_range2 (by rfl) (fr_range E) (pa_c (pa_c pa_n))) (blkOk_by (own := [("k", 7)]) (by rfl)) ⟨fun N' hv' s' H' C' cl' fp' => (gx_name 7 (hv' _ (by simp)) nd_f_law_rest3), fun N' hv' s' H' C' cl' fp' => .nil, fun N' hv' s' H' C' cl' fp' => (ex_callB (call_max2 rfl) os_max2 (fr_max E) (by decide +kernel) (ax_v ex_int (ax_v (ex_bin op_fdivW os_div (ax_v (ex_callB (call_min2 rfl) os_min2 (fr_min E) (by decide +kernel) (ax_v (ex_ix ix_seq os_ix (ax_s 15 (ax_s 7 ax_nil))) (ax_v (ex_ix ix_seq os_ix (ax_s 15 (ax_v (ex_bin op_sub os_sub (ax_s 7 (ax_v ex_int ax_nil))) ax_nil))) ax_nil)) (pa_c (pa_c pa_n))) (ax_s 20 ax_nil))) ax_nil)) (pa_c (pa_c pa_n)))⟩ (ax_v ex_int (ax_v (ex_callB call_len os_len (fr_len E) (by decide +kernel) (ax_s 15 ax_nil) (pa_c pa_n)) ax_nil)) it_r2) ax_nil) (pa_c pa_n)) ax_nil))) ?_ ?_
      · refine bx_one ?_
        exact sx_ret ex_bl
      · exact bx_nil
    · exact bx_nil
  refine bx_cons ?_ ?_
  · refine sx_if (tx_not (tx_val (ex_call (cal_f_law_rest1 E) (hr.mono (by decide : 9 ≤ 11)) (takes_of rfl rfl rfl rfl) (ax_s 0 (ax_s 1 (ax_s 2 ax_nil))) (pa_c (pa_c (pa_c pa_n)))))) ?_ ?_
    · refine bx_one ?_
      exact sx_ret ex_bl
    · exact bx_nil
  refine bx_one ?_
  exact sx_ret ex_bl
theorem sc_f_law_rest3 : FnScope N_f_law_rest3 ["dice", "row", "cask", "many", "total", "parts"] (defScope s_f_law_rest3) := ⟨rfl, rfl, rfl, by decide +kernel, rfl, by decide +kernel, by decide +kernel⟩
theorem cal_f_law_rest3 {P : Program} {w : World} {K : PySem.W.Frag} {mg : Str → Option Value} {base : Heap} (E : En fa fn tq w K mg base) : CalF P w K mg base (Gk K) 12 "_law_rest3" op_f_law_rest3 := by
  obtain ⟨fd, F⟩ := E.def_ (d := d_f_law_rest3) (List.mem_of_getElem? (i := 35) rfl) s_f_law_rest3
  have bi : Binds K fd ["dice", "row", "cask", "many", "total", "parts"] [] := F.binds fun _ _ _ _ _ _ us hl => match us, hl with | [_, _, _, _, _, _], _ => rfl
  have ok := fn_ownC (P := P) (w := w) (mg := mg) (base := base) (G := Gk K) F sc_f_law_rest3 fun A outer s H s0 Ex hr => bx_f_law_rest3 E _ _ rfl A outer s H s0 Ex hr
  exact E.calF (d := d_f_law_rest3) F ok (fa_in (by decide +kernel)) bi
abbrev N_f_law : List Str := ["script", "dice", "thick", "ends", "row", "cask", "place", "steps", "halves", "k", "half", "wide", "narrow", "times", "one", "width", "round_length", "many", "total", "parts"]
theorem nd_f_law : N_f_law.Nodup := by decide +kernel
theorem bx_f_law {P : Program} {w : World} {K : PySem.W.Frag} {mg : Str → Option Value} {base : Heap} (E : En fa fn tq w K mg base) (f : Addr) (c : Addr) (hcc : c = He.codeOf K d_f_law.at_) (A : Around) (outer : List Env) (s : Shared) (H : Hp) (s0 : L2.St) (Ex : XK) (hr : Room 12 (A.deeper (envOfC "law" (defScope s_f_law) s.heap.objs.size f (.ref c)))) :
    BX (Gk K) ⟨[0], s0⟩ (cxOf (L2.CX P w) P w K mg base N_f_law "law" (defScope s_f_law) f (.ref c) A outer s H Ex) (fun cls d _ H => Ex cls d H) (defBody s_f_law) b_f_law := by
  subst hcc
  refine bx_cons ?_ ?_
  · refine sx_forO rfl (passes_of rfl) rfl (ex_call (cal_f_law_rounds E) (hr.mono (by decide : 2 ≤ 12)) (takes_of rfl rfl rfl rfl) (ax_s 0 (ax_v ex_int ax_nil)) (pa_c (pa_c pa_n))) (gx_name 1 (by decide : ¬ 1 ∈ ([0] : List Nat)) nd_f_law) ?_
    refine bx_cons ?_ ?_
    · exact sx_set 2 (ex_bin (op_add.or op_catL) (os_or2 os_add os_catL) (ax_v ex_int (ax_v (ex_call (cal_f_law_roll E) (hr.mono (by decide : 1 ≤ 12)) (takes_of rfl rfl rfl rfl) (ax_s 1 (ax_v ex_int ax_nil)) (pa_c (pa_c pa_n))) ax_nil))) (by decide : ¬ 2 ∈ ([0] : List Nat)) nd_f_law
    refine bx_cons ?_ ?_
    · exact sx_set 3 (ex_bin (op_add.or op_catL) (os_or2 os_add os_catL) (ax_v (ex_bin (op_add.or op_catL) (os_or2 os_add os_catL) (ax_s 2 (ax_v ex_int ax_nil))) (ax_v (ex_call (cal_f_law_roll E) (hr.mono (by decide : 1 ≤ 12)) (takes_of rfl rfl rfl rfl) (ax_s 1 (ax_v ex_int ax_nil)) (pa_c (pa_c pa_n))) ax_nil))) (by decide : ¬ 3 ∈ ([0] : List Nat)) nd_f_law
    refine bx_cons ?_ ?_
    · exact sx_set 4 (ex_tup ops_tup (ax_v (ex_bin (op_add.or op_catL) (os_or2 os_add os_catL) (ax_v ex_int (ax_v (ex_call (cal_f_law_roll E) (hr.mono (by decide : 1 ≤ 12)) (takes_of rfl rfl rfl rfl) (ax_s 1 (ax_v ex_int ax_nil)) (pa_c (pa_c pa_n))) ax_nil))) (ax_s 3 (ax_v (ex_bin (op_add.or op_catL) (os_or2 os_add os_catL) (ax_s 3 (ax_v (ex_call (cal_f_law_roll E) (hr.mono (by decide : 1 ≤ 12)) (takes_of rfl rfl rfl rfl) (ax_s 1 (ax_v ex_int ax_nil)) (pa_c (pa_c pa_n))) ax_nil))) (ax_s 2 ax_nil)))) (pa_c (pa_c (pa_c (pa_c pa_n))))) (by decide : ¬ 4 ∈ ([0] : List Nat)) nd_f_law
    refine bx_cons ?_ ?_
    · exact sx_set 5 (ex_make (cal_m_Cask_init E) (hr.mono (by decide : 2 ≤ 12)) (takes_of rfl rfl rfl rfl) (ax_v (ex_ix ix_seq os_ix (ax_s 4 (ax_v ex_int ax_nil))) (ax_v (ex_ix ix_seq os_ix (ax_s 4 (ax_v ex_int ax_nil))) (ax_v (ex_ix ix_seq os_ix (ax_s 4 (ax_v ex_int ax_nil))) (ax_v (ex_ix ix_seq os_ix (ax_s 4 (ax_v ex_int ax_nil))) ax_nil)))) (pa_c (pa_c (pa_c (pa_c pa_n))))) (by decide : ¬ 5 ∈ ([0] : List Nat)) nd_f_law
    refine bx_cons ?_ ?_
    · refine sx_if (TW.tx (tw_or (tx_cmp (op_neD (Room.u64 hr)) os_ne (ax_v (ex_meth0 (cal_m_Cask_bulge E) (hr.mono (by decide : 1 ≤ 12)) (takes_of rfl rfl rfl rfl) (ax_s 5 ax_nil)) (ax_v (ex_bin op_sub os_sub (ax_v (ex_ix ix_seq os_ix (ax_s 4 (ax_v ex_int ax_nil))) (ax_v (ex_ix ix_seq os_ix (ax_s 4 (ax_v ex_int ax_nil))) ax_nil))) ax_nil))) (tw_or1 (tx_cmp (op_neD (Room.u64 hr)) os_ne (ax_v (ex_meth0 (cal_m_Cask_key E) (hr.mono (by decide : 1 ≤ 12)) (takes_of rfl rfl rfl rfl) (ax_s 5 ax_nil)) (ax_s 4 ax_nil)))))) ?_ ?_
      · refine bx_one ?_
        exact sx_ret ex_bl
      · exact bx_nil
    refine bx_cons ?_ ?_
    · refine sx_if (tx_cmp (op_neD (Room.u64 hr)) os_ne (ax_v (ex_lc rfl nd_f_law (pi_range1 (by rfl) (fr_range E) (pa_c pa_n)) (blkOk_by (own := [("place", 6)]) (by rfl)) ⟨fun N' hv' s' H' C' cl' fp' => (gx_name 6 (hv' _ (by simp)) nd_f_law), fun N' hv' s' H' C' cl' fp' => .nil, fun N' hv' s' H' C' cl' fp' => (ex_meth (cal_m_Cask_half_at E) (hr.mono (by decide : 2 ≤ 12)) LamX.takes0 (ax_s 5 ax_nil) (ax_s 6 ax_nil) (pa_c pa_n))⟩ (ax_v (ex_bin (op_add.or op_catL) (os_or2 os_add os_catL) (ax_v (ex_ix ix_seq os_ix (ax_s 4 (ax_v ex_int ax_nil))) (ax_v ex_int ax_nil))) ax_nil) it_r1) (ax_v (ex_lc rfl nd_f_law (pi_range1 (by rfl) (fr_range E) (pa_c pa_n)) (blkOk_by (own := [("place", 6)]) (by rfl)) ⟨fun N' hv' s' H' C' cl' fp' => (gx_name 6 (hv' _ (by simp)) nd_f_law), fun N' hv' s' H' C' cl' fp' => .nil, fun N' hv' s' H' C' cl' fp' => (ex_call (cal_f_law_half E) (hr.mono (by decide : 1 ≤ 12)) LamX.takes0 (ax_s 4 (ax_s 6 ax_nil)) (pa_c (pa_c pa_n)))⟩ (ax_v (ex_bin (op_add.or op_catL) (os_or2 os_add os_catL) (ax_v (ex_ix ix_seq os_ix (ax_s 4 (ax_v ex_int ax_nil))) (ax_v ex_int ax_nil))) ax_nil) it_r1) ax_nil))) ?_ ?_
      · refine bx_one ?_
        exact sx_ret ex_bl
      · exact bx_nil
    refine bx_cons ?_ ?_
    · refine sx_if (TW.tx (tw_or (tx_cmp (op_neD (Room.u64 hr)) os_ne (ax_v (ex_meth (cal_m_Cask_half_at E) (hr.mono (by decide : 2 ≤ 12)) (takes_of rfl rfl rfl rfl) (ax_s 5 ax_nil) (ax_v ex_int ax_nil) (pa_c pa_n)) (ax_s 3 ax_nil))) (tw_or (tx_cmp (op_neD (Room.u64 hr)) os_ne (ax_v (ex_meth (cal_m_Cask_half_at E) (hr.mono (by decide : 2 ≤ 12)) (takes_of rfl rfl rfl rfl) (ax_s 5 ax_nil) (ax_v (ex_ix ix_seq os_ix (ax_s 4 (ax_v ex_int ax_nil))) ax_nil) (pa_c pa_n)) (ax_s 3 ax_nil))) (tw_or1 (tx_cmp (op_neD (Room.u64 hr)) os_ne (ax_v (ex_callB (cr_mx rfl (Room.u66 hr)) os_max (fr_max E) (by decide +kernel) (ax_v (ex_lc rfl nd_f_law (pi_range1 (by rfl) (fr_range E) (pa_c pa_n)) (blkOk_by (own := [("place", 6)]) (by rfl)) ⟨fun N' hv' s' H' C' cl' fp' => (gx_name 6 (hv' _ (by simp)) nd_f_law), fun N' hv' s' H' C' cl' fp' => .nil, fun N' hv' s' H' C' cl' fp' => (ex_meth (cal_m_Cask_half_at E) (hr.mono (by decide : 2 ≤ 12)) LamX.takes0 (ax_s 5 ax_nil) (ax_s 6 ax_nil) (pa_c pa_n))⟩ (ax_v (ex_ix ix_seq os_ix (ax_s 4 (ax_v ex_int ax_nil))) ax_nil) it_r1) ax_nil) (pa_c pa_n)) (ax_v (ex_ix ix_seq os_ix (ax_s 4 (ax_v ex_int ax_nil))) ax_nil))))))) ?_ ?_
      · refine bx_one ?_
        exact sx_ret ex_bl
      · exact bx_nil
    refine bx_cons ?_ ?_
    · exact sx_set 7 (ex_bin (op_add.or op_catL) (os_or2 os_add os_catL) (ax_v ex_int (ax_v (ex_call (cal_f_law_roll E) (hr.mono (by decide : 1 ≤ 12)) (takes_of rfl rfl rfl rfl) (ax_s 1 (ax_v ex_int ax_nil)) (pa_c (pa_c pa_n))) ax_nil))) (by decide : ¬ 7 ∈ ([0] : List Nat)) nd_f_law
    refine bx_cons ?_ ?_
    · exact sx_setLc 8 rfl nd_f_law (by decide : ¬ 8 ∈ ([0] : List Nat)) (pi_range1 (by rfl) (fr_range E) (pa_c pa_n)) (blkOk_by (own := [("k", 9)]) (by rfl)) ⟨fun N' hv' s' H' C' cl' fp' => (gx_name 9 (hv' _ (by simp)) nd_f_law), fun N' hv' s' H' C' cl' fp' => .nil, fun N' hv' s' H' C' cl' fp' => (ex_bin op_sub os_sub (ax_v (ex_call (cal_f_law_half E) (hr.mono (by decide : 1 ≤ 12)) LamX.takes0 (ax_s 4 (ax_v (ex_bin op_fdivW os_div (ax_v (ex_bin (op_mul.or op_mulW) (os_or2 os_mulS os_mul) (ax_v (ex_bin (op_add.or op_catL) (os_or2 os_add os_catL) (ax_v (ex_bin (op_mul.or op_mulW) (os_or2 os_mulS os_mul) (ax_v ex_int (ax_s 9 ax_nil))) (ax_v ex_int ax_nil))) (ax_v (ex_ix ix_seq os_ix (ax_s 4 (ax_v ex_int ax_nil))) ax_nil))) (ax_v (ex_bin (op_mul.or op_mulW) (os_or2 os_mulS os_mul) (ax_v ex_int (ax_s 7 ax_nil))) ax_nil))) ax_nil)) (pa_c (pa_c pa_n))) (ax_s 2 ax_nil)))⟩ (ax_v (ex_frz 7) ax_nil) it_r1 rfl
    refine bx_cons ?_ ?_
    · refine sx_if (tx_cmp (op_neD (Room.u64 hr)) os_ne (ax_v (ex_meth (cal_m_Cask_slice_room E) (hr.mono (by decide : 3 ≤ 12)) (takes_of rfl rfl rfl rfl) (ax_s 5 ax_nil) (ax_s 7 ax_nil) (pa_c pa_n)) (ax_v (ex_bin op_fdivW os_div (ax_v (ex_bin (op_mul.or op_mulW) (os_or2 os_mulS os_mul) (ax_v (ex_callB (cr_sm rfl) os_sum (fr_sum E) (by decide +kernel) (ax_v (ex_lc rfl nd_f_law pi_a (blkOk_by (own := [("half", 10)]) (by rfl)) ⟨fun N' hv' s' H' C' cl' fp' => (gx_name 10 (hv' _ (by simp)) nd_f_law), fun N' hv' s' H' C' cl' fp' => .nil, fun N' hv' s' H' C' cl' fp' => (ex_bin (op_mul.or op_mulW) (os_or2 os_mulS os_mul) (ax_s 10 (ax_s 10 ax_nil)))⟩ (ax_v (ex_frz 8) ax_nil) it_a) ax_nil) (pa_c pa_n)) (ax_v (ex_ix ix_seq os_ix (ax_s 4 (ax_v ex_int ax_nil))) ax_nil))) (ax_s 7 ax_nil))) ax_nil))) ?_ ?_
      · refine bx_one ?_
        exact sx_ret ex_bl
      · exact bx_nil
    refine bx_cons ?_ ?_
    · exact sx_par2 11 12 (ax_v (ex_bin op_sub os_sub (ax_v (ex_ix ix_seq os_ix (ax_s 4 (ax_v ex_int ax_nil))) (ax_s 2 ax_nil))) (ax_v (ex_bin op_sub os_sub (ax_s 3 (ax_s 2 ax_nil))) ax_nil)) (pa_c (pa_c pa_n)) rfl (by decide : ¬ 11 ∈ ([0] : List Nat)) (by decide : ¬ 12 ∈ ([0] : List Nat)) nd_f_law rfl
    refine bx_cons ?_ ?_
    · refine sx_if (tx_cmp (op_neD (Room.u64 hr)) os_ne (ax_v (ex_meth0 (cal_m_Cask_plain_room E) (hr.mono (by decide : 1 ≤ 12)) (takes_of rfl rfl rfl rfl) (ax_s 5 ax_nil)) (ax_v (ex_bin op_fdivW os_div (ax_v (ex_bin (op_mul.or op_mulW) (os_or2 os_mulS os_mul) (ax_v (ex_bin (op_add.or op_catL) (os_or2 os_add os_catL) (ax_v (ex_bin (op_mul.or op_mulW) (os_or2 os_mulS os_mul) (ax_v (ex_bin (op_mul.or op_mulW) (os_or2 os_mulS os_mul) (ax_v ex_int (ax_s 11 ax_nil))) (ax_s 11 ax_nil))) (ax_v (ex_bin (op_mul.or op_mulW) (os_or2 os_mulS os_mul) (ax_s 12 (ax_s 12 ax_nil))) ax_nil))) (ax_v (ex_ix ix_seq os_ix (ax_s 4 (ax_v ex_int ax_nil))) ax_nil))) (ax_v ex_int ax_nil))) ax_nil))) ?_ ?_
      · refine bx_one ?_
        exact sx_ret ex_bl
      · exact bx_nil
    refine bx_cons ?_ ?_
    · exact sx_set 13 (ex_bin (op_add.or op_catL) (os_or2 os_add os_catL) (ax_v ex_int (ax_v (ex_call (cal_f_law_roll E) (hr.mono (by decide : 1 ≤ 12)) (takes_of rfl rfl rfl rfl) (ax_s 1 (ax_v ex_int ax_nil)) (pa_c (pa_c pa_n))) ax_nil))) (by decide : ¬ 13 ∈ ([0] : List Nat)) nd_f_law
    refine bx_cons ?_ ?_
    · refine sx_if (tx_cmp (op_neD (Room.u64 hr)) os_ne (ax_v (ex_meth0 (cal_m_Cask_key E) (hr.mono (by decide : 1 ≤ 12)) (takes_of rfl rfl rfl rfl) (ax_v (ex_meth (cal_m_Cask_scaled E) (hr.mono (by decide : 3 ≤ 12)) (takes_of rfl rfl rfl rfl) (ax_s 5 ax_nil) (ax_s 13 (ax_v ex_int ax_nil)) (pa_c (pa_c pa_n))) ax_nil)) (ax_v (ex_callT call_tuple_of os_tuple (fr_tuple E) (by decide +kernel) (ax_v (ex_lc rfl nd_f_law pi_a (blkOk_by (own := [("one", 14)]) (by rfl)) ⟨fun N' hv' s' H' C' cl' fp' => (gx_name 14 (hv' _ (by simp)) nd_f_law), fun N' hv' s' H' C' cl' fp' => .nil, fun N' hv' s' H' C' cl' fp' => (ex_bin (op_mul.or op_mulW) (os_or2 os_mulS os_mul) (ax_s 14 (ax_s 13 ax_nil)))⟩ (ax_v (ex_frz 4) ax_nil) it_a) ax_nil) (pa_c pa_n)) ax_nil))) ?_ ?_
      · refine bx_one ?_
        exact sx_ret ex_bl
      · exact bx_nil
    refine bx_cons ?_ ?_
    · exact sx_par2 10 15 (ax_v (ex_call (cal_f_law_roll E) (hr.mono (by decide : 1 ≤ 12)) (takes_of rfl rfl rfl rfl) (ax_s 1 (ax_v ex_int ax_nil)) (pa_c (pa_c pa_n))) (ax_v (ex_bin (op_add.or op_catL) (os_or2 os_add os_catL) (ax_v ex_int (ax_v (ex_call (cal_f_law_roll E) (hr.mono (by decide : 1 ≤ 12)) (takes_of rfl rfl rfl rfl) (ax_s 1 (ax_v ex_int ax_nil)) (pa_c (pa_c pa_n))) ax_nil))) ax_nil)) (pa_c (pa_c pa_n)) rfl (by decide : ¬ 10 ∈ ([0] : List Nat)) (by decide : ¬ 15 ∈ ([0] : List Nat)) nd_f_law rfl
    refine bx_cons ?_ ?_
    · exact sx_set 16 (ex_call (cal_f_around E) (hr.mono (by decide : 1 ≤ 12)) (takes_of rfl rfl rfl rfl) (ax_s 10 ax_nil) (pa_c pa_n)) (by decide : ¬ 16 ∈ ([0] : List Nat)) nd_f_law
    refine bx_cons ?_ ?_
    · refine sx_if (TW.tx (tw_or (tx_cmp (op_neD (Room.u64 hr)) os_ne (ax_s 16 (ax_v (ex_call (cal_f_law_round E) (hr.mono (by decide : 1 ≤ 12)) (takes_of rfl rfl rfl rfl) (ax_s 10 ax_nil) (pa_c pa_n)) ax_nil))) (tw_or1 (tx_cmp op_gt os_gt (ax_v (ex_callB call_abs os_abs (fr_abs E) (by decide +kernel) (ax_v (ex_bin op_sub os_sub (ax_v (ex_bin (op_mul.or op_mulW) (os_or2 os_mulS os_mul) (ax_v ex_int (ax_s 16 ax_nil))) (ax_v (ex_bin (op_mul.or op_mulW) (os_or2 os_mulS os_mul) (ax_v ex_int (ax_s 10 ax_nil))) ax_nil))) ax_nil) (pa_c pa_n)) (ax_v ex_int ax_nil)))))) ?_ ?_
      · refine bx_one ?_
        exact sx_ret ex_bl
      · exact bx_nil
    refine bx_cons ?_ ?_
    · refine sx_if (tx_cmp (op_neD (Room.u64 hr)) os_ne (ax_v (ex_call (cal_f_staves_for E) (hr.mono (by decide : 2 ≤ 12)) (takes_of rfl rfl rfl rfl) (ax_s 10 (ax_s 15 ax_nil)) (pa_c (pa_c pa_n))) (ax_v (ex_tup ops_tup (ax_v (ex_bin op_fdivW os_div (ax_s 16 (ax_s 15 ax_nil))) (ax_v (ex_bin op_mod os_mod (ax_s 16 (ax_s 15 ax_nil))) ax_nil)) (pa_c (pa_c pa_n))) ax_nil))) ?_ ?_
      · refine bx_one ?_
        exact sx_ret ex_bl
      · exact bx_nil
    refine bx_cons ?_ ?_
    · exact sx_set 17 (ex_bin (op_add.or op_catL) (os_or2 os_add os_catL) (ax_v ex_int (ax_v (ex_call (cal_f_law_roll E) (hr.mono (by decide : 1 ≤ 12)) (takes_of rfl rfl rfl rfl) (ax_s 1 (ax_v ex_int ax_nil)) (pa_c (pa_c pa_n))) ax_nil))) (by decide : ¬ 17 ∈ ([0] : List Nat)) nd_f_law
    refine bx_cons ?_ ?_
    · refine sx_if (tx_cmp (op_neD (Room.u64 hr)) os_ne (ax_v (ex_call (cal_f_tapered E) (hr.mono (by decide : 2 ≤ 12)) (takes_of rfl rfl rfl rfl) (ax_s 5 (ax_s 17 ax_nil)) (pa_c (pa_c pa_n))) (ax_v (ex_tup ops_tup (ax_v (ex_bin op_fdivW os_div (ax_v (ex_call (cal_f_law_round E) (hr.mono (by decide : 1 ≤ 12)) (takes_of rfl rfl rfl rfl) (ax_s 3 ax_nil) (pa_c pa_n)) (ax_s 17 ax_nil))) (ax_v (ex_bin op_fdivW os_div (ax_v (ex_call (cal_f_law_round E) (hr.mono (by decide : 1 ≤ 12)) (takes_of rfl rfl rfl rfl) (ax_v (ex_ix ix_seq os_ix (ax_s 4 (ax_v ex_int ax_nil))) ax_nil) (pa_c pa_n)) (ax_s 17 ax_nil))) ax_nil)) (pa_c (pa_c pa_n))) ax_nil))) ?_ ?_
      · refine bx_one ?_
        exact sx_ret ex_bl
      · exact bx_nil
    refine bx_cons ?_ ?_
    · exact sx_set 18 (ex_bin (op_add.or op_catL) (os_or2 os_add os_catL) (ax_s 17 (ax_v (ex_call (cal_f_law_roll E) (hr.mono (by decide : 1 ≤ 12)) (takes_of rfl rfl rfl rfl) (ax_s 1 (ax_v ex_int ax_nil)) (pa_c (pa_c pa_n))) ax_nil))) (by decide : ¬ 18 ∈ ([0] : List Nat)) nd_f_law
    refine bx_cons ?_ ?_
    · exact sx_set 19 (ex_call (cal_f_even_round E) (hr.mono (by decide : 1 ≤ 12)) (takes_of rfl rfl rfl rfl) (ax_s 18 (ax_s 17 ax_nil)) (pa_c (pa_c pa_n))) (by decide : ¬ 19 ∈ ([0] : List Nat)) nd_f_law
    refine bx_one ?_
    refine sx_if (tx_not (tx_val (ex_call (cal_f_law_rest3 E) (hr.mono (by decide : 12 ≤ 12)) (takes_of rfl rfl rfl rfl) (ax_s 1 (ax_s 4 (ax_s 5 (ax_s 17 (ax_s 18 (ax_s 19 ax_nil)))))) (pa_c (pa_c (pa_c (pa_c (pa_c (pa_c pa_n))))))))) ?_ ?_
    · refine bx_one ?_
      exact sx_ret ex_bl
    · exact bx_nil
  refine bx_one ?_
  exact sx_ret ex_bl
theorem sc_f_law : FnScope N_f_law ["script"] (defScope s_f_law) := ⟨rfl, rfl, rfl, by decide +kernel, rfl, by decide +kernel, by decide +kernel⟩
theorem cal_f_law {P : Program} {w : World} {K : PySem.W.Frag} {mg : Str → Option Value} {base : Heap} (E : En fa fn tq w K mg base) : CalF P w K mg base (Gk K) 13 "law" op_f_law := by
  obtain ⟨fd, F⟩ := E.def_ (d := d_f_law) (List.mem_of_getElem? (i := 36) rfl) s_f_law
  have bi : Binds K fd ["script"] [] := F.binds fun _ _ _ _ _ _ us hl => match us, hl with | [_], _ => rfl
  have ok := fn_ownC (P := P) (w := w) (mg := mg) (base := base) (G := Gk K) F sc_f_law fun A outer s H s0 Ex hr => bx_f_law E _ _ rfl A outer s H s0 Ex hr
  exact E.calF (d := d_f_law) F ok (fa_in (by decide +kernel)) bi
end K02
/-! reckoning with the mirrors: each form evaluated once its parts are -/
namespace DL
open PySem PySem.Spec PyProof.Rows L2
/-! ### what waits for its value -/
def rb {α β : Type} (r : Res α) (g : α → M β) : Res β := match r with
  | .ok a ρ => g a ρ
  | .exc c p ρ => .exc c p ρ
  | .stuck => .stuck
def fb (r : Fl) (h : B) : Fl := match r with
  | .nx ρ => h ρ
  | r => r
def db {α : Type} (r : Res α) (k : α → B) : Fl := match r with
  | .ok a ρ => k a ρ
  | .exc c p ρ => .exc c p ρ
  | .stuck => .stuck
def ib {α : Type} (r : Res Bool) (g h : List S → α) (e : Nat → D → List S → α) (z : α) : α := match r with
  | .ok b ρ => if b then g ρ else h ρ
  | .exc c p ρ => e c p ρ
  | .stuck => z
section
variable {α β : Type} {a : α} {ρ : List S} {c : Nat} {p : D}
theorem rb_ok (g : α → M β) : rb (.ok a ρ) g = g a ρ := (rfl)
theorem rb_exc (g : α → M β) : rb (.exc c p ρ) g = .exc c p ρ := (rfl)
theorem fb_nx (h : B) : fb (.nx ρ) h = h ρ := (rfl)
theorem fb_rt {s : S} (h : B) : fb (.rt s ρ) h = .rt s ρ := (rfl)
theorem fb_exc (h : B) : fb (.exc c p ρ) h = .exc c p ρ := (rfl)
theorem fb_bk (h : B) : fb (.bk ρ) h = .bk ρ := (rfl)
theorem fb_ct (h : B) : fb (.ct ρ) h = .ct ρ := (rfl)
theorem db_ok (k : α → B) : db (.ok a ρ) k = k a ρ := (rfl)
theorem db_exc (k : α → B) : db (.exc c p ρ) k = .exc c p ρ := (rfl)
theorem ib_t (g h : List S → α) (e : Nat → D → List S → α) (z : α) : ib (.ok true ρ) g h e z = g ρ := (rfl)
theorem ib_f (g h : List S → α) (e : Nat → D → List S → α) (z : α) : ib (.ok false ρ) g h e z = h ρ := (rfl)
theorem ib_exc (g h : List S → α) (e : Nat → D → List S → α) (z : α) : ib (.exc c p ρ) g h e z = e c p ρ := (rfl)
theorem ib_d {q : Prop} [Decidable q] (g h : List S → α) (e : Nat → D → List S → α) (z : α) : ib (.ok (decide q) ρ) g h e z = if q then g ρ else h ρ := by
  by_cases hq : q <;> simp [ib, hq]
theorem ib_nd {q : Prop} [Decidable q] (g h : List S → α) (e : Nat → D → List S → α) (z : α) : ib (.ok (!decide q) ρ) g h e z = if q then h ρ else g ρ := by
  by_cases hq : q <;> simp [ib, hq]
end
/-! ### statements -/
section
variable {α : Type} (ρ : List S)
theorem e_mbind {β : Type} (f : M α) (g : α → M β) : mbind f g ρ = rb (f ρ) g := (rfl)
theorem e_mpure (a : α) : mpure a ρ = .ok a ρ := (rfl)
theorem e_bnx : bnx ρ = .nx ρ := (rfl)
theorem e_bseq (g h : B) : bseq g h ρ = fb (g ρ) h := by
  unfold bseq fb
  cases g ρ <;> rfl
theorem e_bdo (f : M α) (k : α → B) : bdo f k ρ = db (f ρ) k := (rfl)
theorem e_bset (i : Nat) (s : S) (h : i < ρ.length) : bset i s ρ = .nx (ρ.set i s) := if_pos h
theorem e_bAsg (i : Nat) (f : M S) : bAsg i f ρ = db (f ρ) (bset i) := (rfl)
theorem e_bRet (f : M S) : bRet f ρ = db (f ρ) fun s ρ => .rt s ρ := (rfl)
theorem e_bExp (f : M S) : bExp f ρ = db (f ρ) fun _ ρ => .nx ρ := (rfl)
theorem e_bIf (t : M Bool) (g h : B) : bIf t g h ρ = ib (t ρ) g h (fun c p ρ => .exc c p ρ) .stuck := by
  unfold bIf bdo ib
  cases t ρ with
  | ok b ρ' => cases b <;> rfl
  | exc c p ρ' => rfl
  | stuck => rfl
theorem e_mIf (t : M Bool) (f g : M α) : mIf t f g ρ = ib (t ρ) f g (fun c p ρ => .exc c p ρ) .stuck := by
  unfold mIf mbind ib
  cases t ρ with
  | ok b ρ' => cases b <;> rfl
  | exc c p ρ' => rfl
  | stuck => rfl
theorem e_mAnd (t u : M Bool) : mAnd t u ρ = ib (t ρ) u (fun ρ => .ok false ρ) (fun c p ρ => .exc c p ρ) .stuck := by
  unfold mAnd mbind ib
  cases t ρ with
  | ok b ρ' => cases b <;> rfl
  | exc c p ρ' => rfl
  | stuck => rfl
theorem e_mOr (t u : M Bool) : mOr t u ρ = ib (t ρ) (fun ρ => .ok true ρ) u (fun c p ρ => .exc c p ρ) .stuck := by
  unfold mOr mbind ib
  cases t ρ with
  | ok b ρ' => cases b <;> rfl
  | exc c p ρ' => rfl
  | stuck => rfl
def nb (r : Res Bool) : Res Bool := match r with
  | .ok b ρ => .ok (!b) ρ
  | r => r
theorem e_mNot (t : M Bool) : mNot t ρ = nb (t ρ) := by
  unfold mNot mbind nb mpure
  cases t ρ <;> rfl
def vb (r : Res S) : Res Bool := match r with
  | .ok (.d (.bl b)) ρ => .ok b ρ
  | .exc c p ρ => .exc c p ρ
  | _ => .stuck
theorem e_mT (f : M S) : mT f ρ = vb (f ρ) := by
  unfold mT mbind vb
  cases h : f ρ with
  | ok s ρ' => cases s with
    | d x => cases x <;> rfl
    | _ => rfl
  | exc c p ρ' => rfl
  | stuck => rfl
def sb (r : Res S) (k : Bool → M S) : Res S := match r with
  | .ok (.d (.bl b)) ρ => k b ρ
  | .exc c p ρ => .exc c p ρ
  | _ => .stuck
theorem e_mAndV (f g : M S) : mAndV f g ρ = sb (f ρ) fun b => if b then g else mpure (.d (.bl false)) := by
  unfold mAndV mbind sb
  cases h : f ρ with
  | ok s ρ' => cases s with
    | d x => cases x <;> rfl
    | _ => rfl
  | exc c p ρ' => rfl
  | stuck => rfl
theorem e_mOrV (f g : M S) : mOrV f g ρ = sb (f ρ) fun b => if b then mpure (.d (.bl true)) else g := by
  unfold mOrV mbind sb
  cases h : f ρ with
  | ok s ρ' => cases s with
    | d x => cases x <;> rfl
    | _ => rfl
  | exc c p ρ' => rfl
  | stuck => rfl
theorem e_mNotV (f : M S) : mNotV f ρ = sb (f ρ) fun b => mpure (.d (.bl (!b))) := by
  unfold mNotV mbind sb
  cases h : f ρ with
  | ok s ρ' => cases s with
    | d x => cases x <;> rfl
    | _ => rfl
  | exc c p ρ' => rfl
  | stuck => rfl
end
section
variable {ρ : List S} {b : Bool} {c : Nat} {p : D}
theorem nb_ok : nb (.ok b ρ) = .ok (!b) ρ := (rfl)
theorem nb_exc : nb (.exc c p ρ) = .exc c p ρ := (rfl)
theorem vb_ok : vb (.ok (.d (.bl b)) ρ) = .ok b ρ := (rfl)
theorem vb_exc : vb (.exc c p ρ) = .exc c p ρ := (rfl)
theorem sb_ok (k : Bool → M S) : sb (.ok (.d (.bl b)) ρ) k = k b ρ := (rfl)
theorem sb_exc (k : Bool → M S) : sb (.exc c p ρ) k = .exc c p ρ := (rfl)
end
/-! ### arguments -/
def slotB {α : Type} (o : Option S) (k : Res α) : Res α := match o with
  | none => .stuck
  | some .gone => .stuck
  | some _ => k
section
variable {α : Type} {k : Res α}
theorem slotB_d (x : D) : slotB (some (.d x)) k = k := (rfl)
theorem slotB_l (xs : List D) : slotB (some (.l xs)) k = k := (rfl)
theorem slotB_ls (xs : List S) : slotB (some (.ls xs)) k = k := (rfl)
theorem slotB_m (ks vs : List D) : slotB (some (.m ks vs)) k = k := (rfl)
theorem slotB_o (c : Nat) (fs : List S) : slotB (some (.o c fs)) k = k := (rfl)
end
section
variable (ρ : List S)
theorem e_args_nil : mArgs [] ρ = .ok [] ρ := (rfl)
theorem e_args_v (f : M S) (r : List Arg) : mArgs (.v f :: r) ρ = rb (f ρ) fun s => mbind (mArgs r) fun avs => mpure (.s s :: avs) := (rfl)
theorem e_args_b (i : Nat) (r : List Arg) : mArgs (.b i :: r) ρ = slotB ρ[i]? (rb (mArgs r ρ) fun avs => mpure (.n i :: avs)) := by
  conv => lhs; unfold mArgs
  unfold slotB
  cases ρ[i]? with
  | none => rfl
  | some s => cases s <;> rfl
def gm (x : S) (o : Option (List S × List S)) : Option (List S × List S) := o.map fun p => (x :: p.1, p.2)
theorem gm_some (x : S) (a b : List S) : gm x (some (a, b)) = some (x :: a, b) := (rfl)
def grabS (o : Option S) (ρ : List S) (i : Nat) (r : List AV) : Option (List S × List S) := match o with
  | none => none
  | some .gone => none
  | some (.d x) => gm (.d x) (grab ρ r)
  | some s => gm s (grab (ρ.set i .gone) r)
variable (i : Nat) (r : List AV)
theorem grabS_d (x : D) : grabS (some (.d x)) ρ i r = gm (.d x) (grab ρ r) := (rfl)
theorem grabS_l (x : List D) : grabS (some (.l x)) ρ i r = gm (.l x) (grab (ρ.set i .gone) r) := (rfl)
theorem grabS_ls (x : List S) : grabS (some (.ls x)) ρ i r = gm (.ls x) (grab (ρ.set i .gone) r) := (rfl)
theorem grabS_m (x y : List D) : grabS (some (.m x y)) ρ i r = gm (.m x y) (grab (ρ.set i .gone) r) := (rfl)
theorem grabS_o (c : Nat) (x : List S) : grabS (some (.o c x)) ρ i r = gm (.o c x) (grab (ρ.set i .gone) r) := (rfl)
theorem e_grab_nil : grab ρ [] = some ([], ρ) := (rfl)
theorem e_grab_s (x : S) : grab ρ (.s x :: r) = gm x (grab ρ r) := (rfl)
theorem e_grab_n : grab ρ (.n i :: r) = grabS ρ[i]? ρ i r := by
  conv => lhs; unfold grab
  unfold grabS gm
  cases ρ[i]? with
  | none => rfl
  | some s => cases s <;> rfl
def fin1 (op : List S → ORes) (avs : List AV) (o : Option (List S × List S)) (k : ORes → List S → List S → Res S) : Res S := match o with
  | none => .stuck
  | some p => k (op p.1) p.1 p.2
def fin2 (avs : List AV) (r : ORes) (xs ρ : List S) : Res S := match r with
  | .ok z outs => if outs.length = xs.length then .ok z (lay ρ avs xs outs) else .stuck
  | .exc c q outs => if outs.length = xs.length then .exc c q (lay ρ avs xs outs) else .stuck
  | .stuck => .stuck
theorem e_mFin (op : List S → ORes) (avs : List AV) : mFin op avs ρ = fin1 op avs (grab ρ avs) (fin2 avs) := by
  unfold mFin fin1 fin2
  cases grab ρ avs with
  | none => rfl
  | some p => rfl
theorem e_mOp (op : List S → ORes) (as : List Arg) : mOp op as ρ = rb (mArgs as ρ) (mFin op) := (rfl)
end
theorem fin1_some (op : List S → ORes) (avs : List AV) (xs ρ : List S) (k : ORes → List S → List S → Res S) : fin1 op avs (some (xs, ρ)) k = k (op xs) xs ρ := (rfl)
theorem fin2_ok (avs : List AV) (z : S) (outs xs ρ : List S) (h : outs.length = xs.length) : fin2 avs (.ok z outs) xs ρ = .ok z (lay ρ avs xs outs) := if_pos h
theorem fin2_exc (avs : List AV) (c : Nat) (p : D) (outs xs ρ : List S) (h : outs.length = xs.length) : fin2 avs (.exc c p outs) xs ρ = .exc c p (lay ρ avs xs outs) := if_pos h
section
variable (ρ : List S) (i : Nat) (r : List AV) (x y : S) (xs ys : List S)
theorem lay_nil : lay ρ [] xs ys = ρ := by cases xs <;> cases ys <;> rfl
theorem lay_s : lay ρ (.s x :: r) (y :: xs) (z :: ys) = lay ρ r xs ys := (rfl)
theorem lay_d (w : D) : lay ρ (.n i :: r) (.d w :: xs) (y :: ys) = lay ρ r xs ys := (rfl)
theorem lay_l (w : List D) : lay ρ (.n i :: r) (.l w :: xs) (y :: ys) = (lay ρ r xs ys).set i y := (rfl)
theorem lay_ls (w : List S) : lay ρ (.n i :: r) (.ls w :: xs) (y :: ys) = (lay ρ r xs ys).set i y := (rfl)
theorem lay_m (w v : List D) : lay ρ (.n i :: r) (.m w v :: xs) (y :: ys) = (lay ρ r xs ys).set i y := (rfl)
theorem lay_o (c : Nat) (w : List S) : lay ρ (.n i :: r) (.o c w :: xs) (y :: ys) = (lay ρ r xs ys).set i y := (rfl)
end
/-! ### names, constants -/
def varS (o : Option S) (ρ : List S) : Res S := match o with
  | some (.d x) => .ok (.d x) ρ
  | _ => .stuck
def movS (o : Option S) (ρ : List S) (i : Nat) : Res S := match o with
  | some .gone => .stuck
  | some s => .ok s (ρ.set i .gone)
  | none => .stuck
def frzS (o : Option S) (ρ : List S) (i : Nat) : Res S := match o with
  | some (.d x) => .ok (.d x) ρ
  | some s => match s.frz with
    | some x => .ok (.d x) (ρ.set i (.d x))
    | none => .stuck
  | none => .stuck
section
variable (ρ : List S) (i : Nat)
theorem e_mCon (x : D) : mCon x ρ = .ok (.d x) ρ := (rfl)
theorem e_mVar : mVar i ρ = varS ρ[i]? ρ := by
  unfold mVar varS
  cases ρ[i]? with
  | none => rfl
  | some s => cases s <;> rfl
theorem e_mMov : mMov i ρ = movS ρ[i]? ρ i := by
  unfold mMov movS
  cases ρ[i]? with
  | none => rfl
  | some s => cases s <;> rfl
theorem e_mFrz : mFrz i ρ = frzS ρ[i]? ρ i := by
  unfold mFrz frzS
  cases h : ρ[i]? with
  | none => rfl
  | some s => cases s with
    | d x =>
      show Res.ok (S.d x) (ρ.set i (S.d x)) = Res.ok (S.d x) ρ
      rw [set_same h]
    | _ => rfl
theorem varS_d (x : D) : varS (some (.d x)) ρ = .ok (.d x) ρ := (rfl)
theorem movS_d (x : D) : movS (some (.d x)) ρ i = .ok (.d x) (ρ.set i .gone) := (rfl)
theorem movS_l (x : List D) : movS (some (.l x)) ρ i = .ok (.l x) (ρ.set i .gone) := (rfl)
theorem movS_ls (x : List S) : movS (some (.ls x)) ρ i = .ok (.ls x) (ρ.set i .gone) := (rfl)
theorem movS_m (x y : List D) : movS (some (.m x y)) ρ i = .ok (.m x y) (ρ.set i .gone) := (rfl)
theorem movS_o (c : Nat) (x : List S) : movS (some (.o c x)) ρ i = .ok (.o c x) (ρ.set i .gone) := (rfl)
theorem frzS_d (x : D) : frzS (some (.d x)) ρ i = .ok (.d x) ρ := (rfl)
theorem frzS_l (x : List D) : frzS (some (.l x)) ρ i = .ok (.d (.lst x)) (ρ.set i (.d (.lst x))) := (rfl)
theorem frzS_m (x y : List D) : frzS (some (.m x y)) ρ i = .ok (.d (.dic x y)) (ρ.set i (.d (.dic x y))) := (rfl)
def frzO (c : Nat) (o : Option (List D)) (ρ : List S) (i : Nat) : Res S := match o with
  | some xs => .ok (.d (.obj c xs)) (ρ.set i (.d (.obj c xs)))
  | none => .stuck
theorem frzS_o (c : Nat) (x : List S) : frzS (some (.o c x)) ρ i = frzO c (S.frzs x) ρ i := by
  unfold frzS frzO
  simp only [S.frz]
  cases S.frzs x <;> rfl
theorem frzO_some (c : Nat) (x : List D) : frzO c (some x) ρ i = .ok (.d (.obj c x)) (ρ.set i (.d (.obj c x))) := (rfl)
end
/-! ### settling -/
def fc (o : Option D) (r : Option (List D)) : Option (List D) := match o, r with
  | some x, some xs => some (x :: xs)
  | _, _ => none
theorem fc_some (x : D) (xs : List D) : fc (some x) (some xs) = some (x :: xs) := (rfl)
theorem e_frzs_nil : S.frzs [] = some [] := (rfl)
theorem e_frzs_cons (s : S) (r : List S) : S.frzs (s :: r) = fc s.frz (S.frzs r) := (rfl)
theorem e_frz_d (x : D) : S.frz (.d x) = some x := (rfl)
theorem e_frz_l (x : List D) : S.frz (.l x) = some (.lst x) := (rfl)
theorem e_frz_m (x y : List D) : S.frz (.m x y) = some (.dic x y) := (rfl)
theorem e_frz_o (c : Nat) (x : List S) : S.frz (.o c x) = (S.frzs x).map (D.obj c) := (rfl)
theorem e_frz_ls (x : List S) : S.frz (.ls x) = (S.frzs x).map D.lst := (rfl)
/-! ### methods, makers, told -/
section
variable (ρ : List S)
def clsB {α : Type} (o : Option Nat) (c : Nat) (k : Res α) : Res α := if o = some c then k else .stuck
theorem clsB_ok {α : Type} (c : Nat) (k : Res α) : clsB (some c) c k = k := if_pos rfl
def methK (c : Nat) (g : List S → ORes) (as : List Arg) (av : List AV) : M S := fun ρ => clsB (clsA ρ av) c (rb (mArgs as ρ) fun avs => mFin g (av ++ avs))
theorem e_mMeth (c : Nat) (g : List S → ORes) (a : Arg) (as : List Arg) : mMeth c g a as ρ = rb (mArgs [a] ρ) (methK c g as) := (rfl)
theorem e_methK (c : Nat) (g : List S → ORes) (as : List Arg) (av : List AV) : methK c g as av ρ = clsB (clsA ρ av) c (rb (mArgs as ρ) fun avs => mFin g (av ++ avs)) := (rfl)
theorem e_clsA_s (x : S) : clsA ρ [.s x] = clsS x := (rfl)
theorem e_clsA_n (i : Nat) : clsA ρ [.n i] = (ρ[i]?).bind clsS := (rfl)
theorem e_clsS_o (c : Nat) (fs : List S) : clsS (.o c fs) = some c := (rfl)
theorem e_clsS_d (c : Nat) (fs : List D) : clsS (.d (.obj c fs)) = some c := (rfl)
theorem e_bind_some {α β : Type} (x : α) (f : α → Option β) : (some x).bind f = f x := (rfl)
def tyB {α : Type} (o : Option String) (T : String) (k : Res α) : Res α := if o = some T then k else .stuck
theorem tyB_ok {α : Type} (T : String) (k : Res α) : tyB (some T) T k = k := if_pos rfl
def bmK (T : String) (g : List S → ORes) (as : List Arg) (av : List AV) : M S := fun ρ => tyB (tyA ρ av) T (rb (mArgs as ρ) fun avs => mFin g (av ++ avs))
theorem e_mBm (T : String) (g : List S → ORes) (a : Arg) (as : List Arg) : mBm T g a as ρ = rb (mArgs [a] ρ) (bmK T g as) := (rfl)
theorem e_bmK (T : String) (g : List S → ORes) (as : List Arg) (av : List AV) : bmK T g as av ρ = tyB (tyA ρ av) T (rb (mArgs as ρ) fun avs => mFin g (av ++ avs)) := (rfl)
theorem e_tyA_s (x : S) : tyA ρ [.s x] = tyS x := (rfl)
theorem e_tyA_n (i : Nat) : tyA ρ [.n i] = (ρ[i]?).bind tyS := (rfl)
theorem e_tyS_l (x : List D) : tyS (.l x) = some "list" := (rfl)
theorem e_tyS_ls (x : List S) : tyS (.ls x) = some "list" := (rfl)
theorem e_tyS_dl (x : List D) : tyS (.d (.lst x)) = some "list" := (rfl)
theorem e_tyS_str (x : Str) : tyS (.d (.str x)) = some "str" := (rfl)
theorem e_tyS_m (x y : List D) : tyS (.m x y) = some "dict" := (rfl)
def mkR (r : ORes) : ORes := match r with
  | .ok (.d .non) (z :: outs) => .ok z outs
  | .exc k p (_ :: outs) => .exc k p outs
  | _ => .stuck
theorem e_mkOp (c : Nat) (op : List S → ORes) (xs : List S) : mkOp c op xs = mkR (op (.o c [] :: xs)) := (rfl)
theorem mkR_ok (z : S) (outs : List S) : mkR (.ok (.d .non) (z :: outs)) = .ok z outs := (rfl)
theorem mkR_exc (k : Nat) (p : D) (z : S) (outs : List S) : mkR (.exc k p (z :: outs)) = .exc k p outs := (rfl)
def toldR (tbl : List (Nat × Str)) (r : Res S) : Res S := match r with
  | .ok s ρ' => .ok s ρ'
  | .exc c _ ρ' => match tbl.lookup c with
    | some r => .ok (.d (.str r)) ρ'
    | none => .stuck
  | .stuck => .stuck
theorem e_mTold (tbl : List (Nat × Str)) (f : M S) : mTold tbl f ρ = toldR tbl (f ρ) := by
  unfold mTold toldR
  cases f ρ <;> rfl
theorem toldR_ok (tbl : List (Nat × Str)) (s : S) : toldR tbl (.ok s ρ) = .ok s ρ := (rfl)
theorem toldR_exc (tbl : List (Nat × Str)) (c : Nat) (p : D) (r : Str) (h : tbl.lookup c = some r) : toldR tbl (.exc c p ρ) = .ok (.d (.str r)) ρ := by
  simp only [toldR, h]
end
/-! ### defs -/
def fnR (np : Nat) (J : List Nat) (r : Fl) : ORes := match r with
  | .nx ρ => .ok (.d .non) (outsF J ρ 0 np)
  | .rt s ρ => .ok s (outsF J ρ 0 np)
  | .exc c p ρ => .exc c p (outsF J ρ 0 np)
  | _ => .stuck
theorem e_fnOp (np nl : Nat) (J : List Nat) (g : B) (xs : List S) (h : xs.length = np) : fnOp np nl J g xs = fnR np J (g (xs ++ List.replicate (nl - np) .gone)) := by
  unfold fnOp fnR
  rw [if_pos h]
  first | done | (cases g (xs ++ List.replicate (nl - np) .gone) <;> rfl)
section
variable (np : Nat) (J : List Nat) (ρ : List S)
theorem fnR_nx : fnR np J (.nx ρ) = .ok (.d .non) (outsF J ρ 0 np) := (rfl)
theorem fnR_rt (s : S) : fnR np J (.rt s ρ) = .ok s (outsF J ρ 0 np) := (rfl)
theorem fnR_exc (c : Nat) (p : D) : fnR np J (.exc c p ρ) = .exc c p (outsF J ρ 0 np) := (rfl)
theorem e_outs_z (j : Nat) : outsF J ρ j 0 = [] := (rfl)
theorem e_outs_s (j n : Nat) : outsF J ρ j (n + 1) = (if j ∈ J then ρ[j]?.getD .gone else .gone) :: outsF J ρ (j + 1) n := (rfl)
end
/-! ### fields -/
section
variable (ρ : List S)
def fldK (i c k : Nat) (s : S) (ρ : List S) (o : Option S) : Fl := match o with
  | some (.o c' fs) => if c' = c then (match setF fs k s with
    | some fs' => .nx (ρ.set i (.o c fs'))
    | none => .stuck) else .stuck
  | _ => .stuck
theorem e_bFld (i c k : Nat) (f : M S) : bFld i c k f ρ = db (f ρ) fun s ρ => fldK i c k s ρ ρ[i]? := by
  unfold bFld bdo db
  cases f ρ with
  | ok s ρ' =>
    show (match ρ'[i]? with
      | some (.o c' fs) => if c' = c then (match setF fs k s with
        | some fs' => .nx (ρ'.set i (.o c fs'))
        | none => .stuck) else .stuck
      | _ => .stuck) = fldK i c k s ρ' ρ'[i]?
    rfl
  | exc c p ρ' => rfl
  | stuck => rfl
def fldN (i c : Nat) (ρ : List S) (o : Option (List S)) : Fl := match o with
  | some fs' => .nx (ρ.set i (.o c fs'))
  | none => .stuck
theorem e_fldK (i c k : Nat) (s : S) (fs : List S) : fldK i c k s ρ (some (.o c fs)) = fldN i c ρ (setF fs k s) := by
  unfold fldK fldN
  simp only [if_true]
theorem fldN_some (i c : Nat) (fs : List S) : fldN i c ρ (some fs) = .nx (ρ.set i (.o c fs)) := (rfl)
def fldA (c k : Nat) (fs : List S) (o : Option S) : ORes := match o with
  | some s => match s.frz with
    | some x => .ok (.d x) [.o c (fs.set k (.d x))]
    | none => .stuck
  | none => .stuck
theorem e_fld_o (c k : Nat) (fs : List S) : opFld c k [.o c fs] = fldA c k fs fs[k]? := by
  unfold fldA
  simp only [opFld, if_true]
  first | done | (cases fs[k]? with
    | none => rfl
    | some s => cases h : s.frz <;> simp [h])
theorem fldA_d (c k : Nat) (fs : List S) (x : D) : fldA c k fs (some (.d x)) = .ok (.d x) [.o c (fs.set k (.d x))] := (rfl)
theorem fldA_l (c k : Nat) (fs : List S) (x : List D) : fldA c k fs (some (.l x)) = .ok (.d (.lst x)) [.o c (fs.set k (.d (.lst x)))] := (rfl)
theorem fldA_m (c k : Nat) (fs : List S) (x y : List D) : fldA c k fs (some (.m x y)) = .ok (.d (.dic x y)) [.o c (fs.set k (.d (.dic x y)))] := (rfl)
def fldB (c : Nat) (xs : List D) (o : Option D) : ORes := match o with
  | some x => .ok (.d x) [.d (.obj c xs)]
  | none => .stuck
theorem e_fld_d (c k : Nat) (xs : List D) : opFld c k [.d (.obj c xs)] = fldB c xs xs[k]? := by
  unfold fldB
  simp only [opFld, if_true]
  first | done | (cases xs[k]? <;> rfl)
theorem fldB_some (c : Nat) (xs : List D) (x : D) : fldB c xs (some x) = .ok (.d x) [.d (.obj c xs)] := (rfl)
theorem setF_in (fs : List S) (k : Nat) (s : S) (h : k < fs.length) : setF fs k s = some (fs.set k s) := if_pos h
theorem setF_end (fs : List S) (k : Nat) (s : S) (h : k = fs.length) : setF fs k s = some (fs ++ [s]) := by
  unfold setF
  rw [if_neg (by omega), if_pos h]
end
end DL
/-! reckoning with the mirrors: operations -/
namespace DL
open PySem PySem.Spec PyProof.Rows L2
/-! ### ints -/
def oi (o : Option D) (i j : Int) : ORes := match o with
  | some z => .ok (.d z) [.d (.int i), .d (.int j)]
  | none => .stuck
theorem e_opI (f : Int → Int → Option D) (i j : Int) : opI f [.d (.int i), .d (.int j)] = oi (f i j) i j := by
  unfold oi
  simp only [opI]
  first | done | (cases f i j <;> rfl)
theorem oi_some (z : D) (i j : Int) : oi (some z) i j = .ok (.d z) [.d (.int i), .d (.int j)] := (rfl)
def orR (r : ORes) (h : List S → ORes) (xs : List S) : ORes := match r with
  | .stuck => h xs
  | r => r
theorem e_opOr (g h : List S → ORes) (xs : List S) : opOr g h xs = orR (g xs) h xs := by
  unfold opOr orR
  cases g xs <;> rfl
theorem orR_ok (z : S) (o : List S) (h : List S → ORes) (xs : List S) : orR (.ok z o) h xs = .ok z o := (rfl)
theorem orR_exc (c : Nat) (p : D) (o : List S) (h : List S → ORes) (xs : List S) : orR (.exc c p o) h xs = .exc c p o := (rfl)
theorem orR_stuck (h : List S → ORes) (xs : List S) : orR .stuck h xs = h xs := (rfl)
section
variable (i j : Int)
theorem e_fAdd : fAdd i j = some (.int (i + j)) := (rfl)
theorem e_fSub : fSub i j = some (.int (i - j)) := (rfl)
theorem e_fLt : fLt i j = some (.bl (decide (i < j))) := (rfl)
theorem e_fLe : fLe i j = some (.bl (decide (i ≤ j))) := (rfl)
theorem e_fGt : fGt i j = some (.bl (decide (j < i))) := (rfl)
theorem e_fGe : fGe i j = some (.bl (decide (j ≤ i))) := (rfl)
theorem e_fMul_r (h : -18446744073709551616 < j ∧ j < 18446744073709551616) : fMulS i j = some (.int (i * j)) := if_pos (.inr h)
theorem e_fMul_l (h : -18446744073709551616 < i ∧ i < 18446744073709551616) : fMulS i j = some (.int (i * j)) := if_pos (.inl h)
theorem log2_lt {n : Nat} (h : n < 18446744073709551616) : n.log2 < 9000 := by
  by_cases h0 : n = 0
  · subst h0; decide
  · have := (Nat.log2_lt h0 (k := 64)).mpr (by simpa using h)
    omega
theorem e_fDiv (h : 0 < j ∧ j < 18446744073709551616) : fDiv i j = some (.int (i / j)) := if_pos ⟨h.1, log2_lt (by omega)⟩
theorem e_fMod (h : 0 < j) : fMod i j = some (.int (i % j)) := if_pos h
theorem e_fMin : fMin i j = some (.int (if j < i then j else i)) := (rfl)
theorem e_fMax : fMax i j = some (.int (if j > i then j else i)) := (rfl)
theorem e_fAbs : fAbs i = some (.int (if i < 0 then -i else i)) := (rfl)
theorem e_opNeg : opNeg [.d (.int i)] = .ok (.d (.int (-i))) [.d (.int i)] := (rfl)
theorem e_opInt : opInt [.d (.int i)] = .ok (.d (.int i)) [.d (.int i)] := (rfl)
theorem e_opInt_b (b : Bool) : opInt [.d (.bl b)] = .ok (.d (.int (if b then 1 else 0))) [.d (.bl b)] := (rfl)
theorem e_opI3 (f : Int → Int → Int → Int) (k : Int) : opI3 f [.d (.int i), .d (.int j), .d (.int k)] = .ok (.d (.int (f i j k))) [.d (.int i), .d (.int j), .d (.int k)] := (rfl)
end
def of1 (o : Option D) (i : Int) : ORes := match o with
  | some z => .ok (.d z) [.d (.int i)]
  | none => .stuck
theorem e_opF1 (f : Int → Option D) (i : Int) : opF1 f [.d (.int i)] = of1 (f i) i := by
  unfold of1
  simp only [opF1]
  first | done | (cases f i <;> rfl)
theorem of1_some (z : D) (i : Int) : of1 (some z) i = .ok (.d z) [.d (.int i)] := (rfl)
/-! ### tuples, lists -/
theorem e_opTup (xs : List S) (ys : List D) (h : S.frzs xs = some ys) (hl : ys.length ≤ 100000) : opTup xs = .ok (.d (.tup ys)) (ys.map .d) := by
  unfold opTup
  rw [h]
  exact if_pos hl
theorem e_opLst (xs : List S) (ys : List D) (h : S.frzs xs = some ys) (hl : ys.length ≤ 100000) : opLst xs = .ok (.l ys) (ys.map .d) := by
  unfold opLst
  rw [h]
  exact if_pos hl
def tupK (o : Option (List D)) : ORes := match o with
  | some ys => if ys.length ≤ 100000 then .ok (.d (.tup ys)) (ys.map .d) else .stuck
  | none => .stuck
def lstK (o : Option (List D)) : ORes := match o with
  | some ys => if ys.length ≤ 100000 then .ok (.l ys) (ys.map .d) else .stuck
  | none => .stuck
theorem e_tup (xs : List S) : opTup xs = tupK (S.frzs xs) := by
  unfold opTup tupK
  cases S.frzs xs <;> rfl
theorem e_lst (xs : List S) : opLst xs = lstK (S.frzs xs) := by
  unfold opLst lstK
  cases S.frzs xs <;> rfl
theorem tupK_some (ys : List D) (h : ys.length ≤ 100000) : tupK (some ys) = .ok (.d (.tup ys)) (ys.map .d) := if_pos h
theorem lstK_some (ys : List D) (h : ys.length ≤ 100000) : lstK (some ys) = .ok (.l ys) (ys.map .d) := if_pos h
theorem e_seq_l (xs : List D) : seqS (.l xs) = some xs := (rfl)
theorem e_seq_dl (xs : List D) : seqS (.d (.lst xs)) = some xs := (rfl)
theorem e_seq_dt (xs : List D) : seqS (.d (.tup xs)) = some xs := (rfl)
def lenK (o : Option Nat) (s : S) : ORes := match o with
  | some n => .ok (.d (.int n)) [s]
  | none => .stuck
theorem e_opLen_l (xs : List D) : opLen [.l xs] = .ok (.d (.int xs.length)) [.l xs] := (rfl)
theorem e_opLen_dl (xs : List D) : opLen [.d (.lst xs)] = .ok (.d (.int xs.length)) [.d (.lst xs)] := (rfl)
theorem e_opLen_dt (xs : List D) : opLen [.d (.tup xs)] = .ok (.d (.int xs.length)) [.d (.tup xs)] := (rfl)
def ixK (o : Option D) (s : S) (i : Int) : ORes := match o with
  | some x => .ok (.d x) [s, .d (.int i)]
  | none => .stuck
theorem ixK_some (x : D) (s : S) (i : Int) : ixK (some x) s i = .ok (.d x) [s, .d (.int i)] := (rfl)
theorem e_opIx_l (xs : List D) (i : Int) : opIx [.l xs, .d (.int i)] = ixK (atI xs i) (.l xs) i := by
  show (match atI xs i with | some x => ORes.ok (.d x) [.l xs, .d (.int i)] | none => .stuck) = _
  unfold ixK
  cases atI xs i <;> rfl
theorem e_opIx_dl (xs : List D) (i : Int) : opIx [.d (.lst xs), .d (.int i)] = ixK (atI xs i) (.d (.lst xs)) i := by
  show (match atI xs i with | some x => ORes.ok (.d x) [.d (.lst xs), .d (.int i)] | none => .stuck) = _
  unfold ixK
  cases atI xs i <;> rfl
theorem e_opIx_dt (xs : List D) (i : Int) : opIx [.d (.tup xs), .d (.int i)] = ixK (atI xs i) (.d (.tup xs)) i := by
  show (match atI xs i with | some x => ORes.ok (.d x) [.d (.tup xs), .d (.int i)] | none => .stuck) = _
  unfold ixK
  cases atI xs i <;> rfl
/-- an item by its place -/
theorem atI_pos {α : Type} (xs : List α) (i : Int) (h : 0 ≤ i ∧ i < xs.length) : atI xs i = xs[i.toNat]? := by
  unfold atI ixN
  rw [if_pos h.1, if_pos h.2]
  rfl
theorem atI_neg {α : Type} (xs : List α) (i : Int) (h : i < 0 ∧ -(xs.length : Int) ≤ i) : atI xs i = xs[(i + xs.length).toNat]? := by
  unfold atI ixN
  rw [if_neg (by omega), if_pos h.2]
  rfl
theorem atI_mapD {α β : Type} (f : α → β) (xs : List α) (i : Int) : atI (xs.map f) i = (atI xs i).map f := by
  unfold atI
  rw [List.length_map]
  cases ixN xs.length i with
  | none => rfl
  | some j => simp
theorem atI_0 {α : Type} (x : α) (xs : List α) : atI (x :: xs) 0 = some x := by
  rw [atI_pos _ _ (by simp only [List.length_cons]; omega)]
  rfl
theorem atI_1 {α : Type} (x y : α) (xs : List α) : atI (x :: y :: xs) 1 = some y := by
  rw [atI_pos _ _ (by simp only [List.length_cons]; omega)]
  rfl
theorem atI_2 {α : Type} (x y z : α) (xs : List α) : atI (x :: y :: z :: xs) 2 = some z := by
  rw [atI_pos _ _ (by simp only [List.length_cons]; omega)]
  rfl
theorem atI_3 {α : Type} (x y z u : α) (xs : List α) : atI (x :: y :: z :: u :: xs) 3 = some u := by
  rw [atI_pos _ _ (by simp only [List.length_cons]; omega)]
  rfl
theorem atI_4 {α : Type} (x y z u v : α) (xs : List α) : atI (x :: y :: z :: u :: v :: xs) 4 = some v := by
  rw [atI_pos _ _ (by simp only [List.length_cons]; omega)]
  rfl
/-- an int of a list, by an int -/
def nth (ns : List Int) (i : Int) : Int := ns.getD i.toNat 0
theorem atI_int (ns : List Int) (i : Int) (h : 0 ≤ i ∧ i < ns.length) : atI (ns.map D.int) i = some (.int (nth ns i)) := by
  rw [atI_mapD, atI_pos _ _ h]
  have : i.toNat < ns.length := by omega
  simp [nth, List.getD, this]
theorem atI_int_last (ns : List Int) (h : 0 < ns.length) : atI (ns.map D.int) (-1) = some (.int (nth ns (ns.length - 1))) := by
  rw [atI_mapD, atI_neg _ _ (by omega)]
  have h1 : (-1 + (ns.length : Int)).toNat = ns.length - 1 := by omega
  have h2 : ((ns.length : Int) - 1).toNat = ns.length - 1 := by omega
  have : ns.length - 1 < ns.length := by omega
  simp [nth, h1, h2, List.getD, this]
/-- an item of any list -/
theorem atI_of {α : Type} [Inhabited α] (f : α → D) (xs : List α) (i : Int) (h : 0 ≤ i ∧ i < xs.length) : atI (xs.map f) i = some (f (xs.getD i.toNat default)) := by
  rw [atI_mapD, atI_pos _ _ h]
  have : i.toNat < xs.length := by omega
  simp [List.getD, this]
def appK (xs : List D) (o : Option D) : ORes := match o with
  | some x => if xs.length < 100000 then .ok (.d .non) [.l (xs ++ [x]), .d x] else .stuck
  | none => .stuck
theorem e_opApp (xs : List D) (s : S) : opApp [.l xs, s] = appK xs s.frz := by
  unfold appK
  simp only [opApp]
  first | done | (cases s.frz <;> rfl)
theorem appK_some (xs : List D) (x : D) (h : xs.length < 100000) : appK xs (some x) = .ok (.d .non) [.l (xs ++ [x]), .d x] := if_pos h
theorem e_opList_l (xs : List D) : opList [.l xs] = .ok (.l xs) [.l xs] := (rfl)
theorem e_opList_dl (xs : List D) : opList [.d (.lst xs)] = .ok (.l xs) [.d (.lst xs)] := (rfl)
theorem e_opList_dt (xs : List D) : opList [.d (.tup xs)] = .ok (.l xs) [.d (.tup xs)] := (rfl)
theorem e_opTuple_l (xs : List D) : opTuple [.l xs] = .ok (.d (.tup xs)) [.l xs] := (rfl)
theorem e_opTuple_dl (xs : List D) : opTuple [.d (.lst xs)] = .ok (.d (.tup xs)) [.d (.lst xs)] := (rfl)
theorem e_opTuple_dt (xs : List D) : opTuple [.d (.tup xs)] = .ok (.d (.tup xs)) [.d (.tup xs)] := (rfl)
theorem e_opCat (xs ys : List D) (h : xs.length + ys.length ≤ 100000) : opCat [.l xs, .l ys] = .ok (.l (xs ++ ys)) [.l xs, .l ys] := if_pos h
theorem e_opI_l (f : Int → Int → Option D) (xs : List D) (r : List S) : opI f (.l xs :: r) = .stuck := by
  unfold opI
  split <;> simp_all
def setK (s : S) (o : Option D) (xs : List D) (i : Int) (n : Option Nat) : ORes := match o, n with
  | some x, some j => .ok (.d .non) [.d x, .l (xs.set j x), .d (.int i)]
  | _, _ => .stuck
theorem e_opSetL (s : S) (xs : List D) (i : Int) : opSetL [s, .l xs, .d (.int i)] = setK s s.frz xs i (ixN xs.length i) := by
  unfold setK
  simp only [opSetL]
  first | done | (cases s.frz <;> cases ixN xs.length i <;> rfl)
theorem setK_some (s : S) (x : D) (xs : List D) (i : Int) (j : Nat) : setK s (some x) xs i (some j) = .ok (.d .non) [.d x, .l (xs.set j x), .d (.int i)] := (rfl)
theorem ixN_pos (n : Nat) (i : Int) (h : 0 ≤ i ∧ i < n) : ixN n i = some i.toNat := by
  unfold ixN
  rw [if_pos h.1, if_pos h.2]
/-! ### chains -/
def chK (p q : Int → Int → Bool) (fc : M S) (x y : S) : M S := match x, y with
  | .d (.int i), .d (.int j) => if p i j then mbind fc fun z => match z with
      | .d (.int k) => mpure (.d (.bl (q j k)))
      | _ => mstuck
    else mpure (.d (.bl false))
  | _, _ => mstuck
def chZ (q : Int → Int → Bool) (j : Int) (z : S) : M S := match z with
  | .d (.int k) => mpure (.d (.bl (q j k)))
  | _ => mstuck
theorem e_mChain (p q : Int → Int → Bool) (fa fb fc : M S) (ρ : List S) : mChain p q fa fb fc ρ = rb (fa ρ) fun x => mbind fb fun y => chK p q fc x y := (rfl)
theorem e_chK (p q : Int → Int → Bool) (fc : M S) (i j : Int) (ρ : List S) : chK p q fc (.d (.int i)) (.d (.int j)) ρ = if p i j = true then rb (fc ρ) (chZ q j) else .ok (.d (.bl false)) ρ := by
  unfold chK
  dsimp only
  split <;> rfl
theorem e_chZ (q : Int → Int → Bool) (j k : Int) (ρ : List S) : chZ q j (.d (.int k)) ρ = .ok (.d (.bl (q j k))) ρ := (rfl)
/-! ### parallel assignment, targets -/
def nxO (o : Option (List S)) : Fl := match o with
  | some ρ => .nx ρ
  | none => .stuck
theorem nxO_some (ρ : List S) : nxO (some ρ) = .nx ρ := (rfl)
theorem e_bPar (is : List Nat) (as : List Arg) (ρ : List S) : bPar is as ρ = db (mArgs as ρ) fun avs ρ => nxO (setAll is avs ρ) := by
  unfold bPar bdo db
  cases mArgs as ρ with
  | ok avs ρ' =>
    dsimp only
    unfold nxO
    cases setAll is avs ρ' <;> rfl
  | _ => rfl
theorem e_setAll_nil (ρ : List S) : setAll [] [] ρ = some ρ := (rfl)
theorem e_setAll_cons (i : Nat) (is : List Nat) (x : S) (r : List AV) (ρ : List S) (h : i < ρ.length) : setAll (i :: is) (.s x :: r) ρ = setAll is r (ρ.set i x) := by
  rw [setAll]
  exact if_pos h
theorem e_bAsgT (t : Tg) (f : M S) (ρ : List S) : bAsgT t f ρ = db (f ρ) fun s ρ => nxO (asgT t s ρ) := by
  unfold bAsgT bdo db
  cases f ρ with
  | ok s ρ' =>
    dsimp only
    unfold nxO
    cases asgT t s ρ' <;> rfl
  | _ => rfl
theorem e_asgT_n (i : Nat) (s : S) (ρ : List S) (h : i < ρ.length) : asgT (.n i) s ρ = some (ρ.set i s) := by
  rw [asgT]
  exact if_pos h
theorem e_asgT_t (ts : List Tg) (xs : List D) (ρ : List S) : asgT (.t ts) (.d (.tup xs)) ρ = asgTs ts xs ρ := by rw [asgT]
theorem e_asgTs_nil (ρ : List S) : asgTs [] [] ρ = some ρ := by rw [asgTs]
theorem e_asgTs_cons (t : Tg) (ts : List Tg) (x : D) (xs : List D) (ρ : List S) : asgTs (t :: ts) (x :: xs) ρ = (asgT t (.d x) ρ).bind (asgTs ts xs) := by rw [asgTs]
def augK (i : Nat) (op : Int → Int → Int) (f : M S) (ρ : List S) (o : Option S) : Fl := match o with
  | some (.d (.int n)) => bdo f (fun s => match s with
    | .d (.int m) => bset i (.d (.int (op n m)))
    | _ => fun _ => .stuck) ρ
  | _ => .stuck
def augZ (i : Nat) (op : Int → Int → Int) (n : Int) (s : S) : B := match s with
  | .d (.int m) => bset i (.d (.int (op n m)))
  | _ => fun _ => .stuck
theorem e_bAugI (i : Nat) (op : Int → Int → Int) (f : M S) (ρ : List S) : bAugI i op f ρ = augK i op f ρ ρ[i]? := by
  unfold bAugI augK
  rfl
theorem e_augK (i : Nat) (op : Int → Int → Int) (f : M S) (ρ : List S) (n : Int) : augK i op f ρ (some (.d (.int n))) = db (f ρ) (augZ i op n) := (rfl)
theorem e_augZ (i : Nat) (op : Int → Int → Int) (n m : Int) (ρ : List S) (h : i < ρ.length) : augZ i op n (.d (.int m)) ρ = .nx (ρ.set i (.d (.int (op n m)))) := if_pos h
theorem beq_tt : (true == true) = true := (rfl)
theorem beq_ff : (false == false) = true := (rfl)
theorem beq_tf : (true == false) = false := (rfl)
theorem beq_ft : (false == true) = false := (rfl)
end DL
/-! reckoning with the mirrors: ==, loops, comprehensions -/
namespace DL
open PySem PySem.Spec PyProof.Rows L2
/-! ### the same data -/
def strG (x : Str) : Bool := PyData.canLay0 (.str x)
def Sh : Nat → D → Prop
  | _, .non => True
  | _, .bl _ => True
  | _, .int _ => True
  | _, .str x => strG x = true
  | n + 1, .tup xs => ∀ x ∈ xs, Sh n x
  | n + 1, .lst xs => ∀ x ∈ xs, Sh n x
  | _, _ => False
theorem Sh.py : ∀ (n : Nat) (x : D), Sh n x → ∃ p, dPy x = some p ∧ p.canLay0 = true ∧ p.depth ≤ n
  | _, .non, _ => ⟨_, rfl, rfl, Nat.zero_le _⟩
  | _, .bl _, _ => ⟨_, rfl, rfl, Nat.zero_le _⟩
  | _, .int _, _ => ⟨_, rfl, rfl, Nat.zero_le _⟩
  | _, .str x, h => ⟨_, rfl, by cases ‹Nat› <;> exact h, Nat.zero_le _⟩
  | 0, .tup _, h => h.elim
  | 0, .lst _, h => h.elim
  | 0, .dic _ _, h => h.elim
  | 0, .obj _ _, h => h.elim
  | _ + 1, .dic _ _, h => h.elim
  | _ + 1, .obj _ _, h => h.elim
  | n + 1, .tup xs, h => by
    have go : ∀ ys : List D, (∀ x ∈ ys, Sh n x) → ∃ ps, dPys ys = some ps ∧ PyData.canLayAll0 ps = true ∧ PyData.depthAll ps ≤ n := fun ys => by
      induction ys with
      | nil => exact fun _ => ⟨[], rfl, rfl, Nat.zero_le _⟩
      | cons y ys ih =>
        intro hy
        obtain ⟨p, e1, e2, e3⟩ := Sh.py n y (hy y (by simp))
        obtain ⟨ps, f1, f2, f3⟩ := ih fun x hx => hy x (List.mem_cons_of_mem _ hx)
        refine ⟨p :: ps, by simp only [dPys, e1, f1], by simp only [PyData.canLayAll0, e2, f2, Bool.and_self], ?_⟩
        show max p.depth (PyData.depthAll ps) ≤ n
        omega
    obtain ⟨ps, f1, f2, f3⟩ := go xs h
    refine ⟨.tuple ps, by simp only [dPy, f1, Option.map_some], f2, ?_⟩
    show PyData.depthAll ps + 1 ≤ n + 1
    omega
  | n + 1, .lst xs, h => by
    have go : ∀ ys : List D, (∀ x ∈ ys, Sh n x) → ∃ ps, dPys ys = some ps ∧ PyData.canLayAll0 ps = true ∧ PyData.depthAll ps ≤ n := fun ys => by
      induction ys with
      | nil => exact fun _ => ⟨[], rfl, rfl, Nat.zero_le _⟩
      | cons y ys ih =>
        intro hy
        obtain ⟨p, e1, e2, e3⟩ := Sh.py n y (hy y (by simp))
        obtain ⟨ps, f1, f2, f3⟩ := ih fun x hx => hy x (List.mem_cons_of_mem _ hx)
        refine ⟨p :: ps, by simp only [dPys, e1, f1], by simp only [PyData.canLayAll0, e2, f2, Bool.and_self], ?_⟩
        show max p.depth (PyData.depthAll ps) ≤ n
        omega
    obtain ⟨ps, f1, f2, f3⟩ := go xs h
    refine ⟨.list ps, by simp only [dPy, f1, Option.map_some], f2, ?_⟩
    show PyData.depthAll ps + 1 ≤ n + 1
    omega
theorem Sh.shaped {n : Nat} {x : D} (h : Sh n x) (hn : n ≤ 64) : ∃ p, dPy x = some p ∧ SeqAt.shaped p = true := by
  obtain ⟨p, e1, e2, e3⟩ := h.py
  refine ⟨p, e1, ?_⟩
  unfold SeqAt.shaped
  rw [e2, decide_eq_true (show p.depth ≤ 64 by omega)]
  rfl
mutual
theorem eqv_refl : ∀ (d : PyData), d.canLay0 = true → PyData.eqv d d = true
  | .none, _ => rfl
  | .bool b, _ => by simp [PyData.eqv]
  | .int i, _ => by simp [PyData.eqv]
  | .str x, _ => by simp [PyData.eqv]
  | .list xs, h => by simpa [PyData.eqv] using eqvAll_refl xs h
  | .tuple xs, h => by simpa [PyData.eqv] using eqvAll_refl xs h
  | .dict kv, h => by simp [PyData.canLay0] at h
theorem eqvAll_refl : ∀ (d : List PyData), PyData.canLayAll0 d = true → PyData.eqvAll d d = true
  | [], _ => rfl
  | x :: xs, h => by
    have h' : x.canLay0 = true ∧ PyData.canLayAll0 xs = true := by simpa [PyData.canLayAll0] using h
    simp [PyData.eqvAll, eqv_refl x h'.1, eqvAll_refl xs h'.2]
end
/-- what two slots hold, compared as data -/
def toD : S → D
  | .d x => x
  | .l xs => .lst xs
  | _ => .non
def isR : S → Bool
  | .d _ => true
  | .l _ => true
  | _ => false
theorem sPy_toD {x : S} (h : isR x = true) : sPy x = dPy (toD x) := by
  cases x with
  | d x => rfl
  | l xs => simp only [sPy, toD, dPy]
  | _ => simp [isR] at h
theorem opEq_of (neg : Bool) {x y : S} {p q : PyData} (h1 : sPy x = some p) (h2 : sPy y = some q) (k1 : SeqAt.shaped p = true) (k2 : SeqAt.shaped q = true) :
    opEq neg [x, y] = .ok (.d (.bl (if neg then !PyData.eqv p q else PyData.eqv p q))) [x, y] := by
  simp [opEq, h1, h2, k1, k2]
/-- alike -/
theorem opEq_same {neg : Bool} {x y : S} (hx : isR x = true) (hy : isR y = true) (e : toD x = toD y) (n : Nat) (hn : n ≤ 64) (h : Sh n (toD x)) :
    opEq neg [x, y] = .ok (.d (.bl (!neg))) [x, y] := by
  obtain ⟨p, e1, e2⟩ := h.shaped hn
  have h1 := (sPy_toD hx).trans e1
  have h2 := (sPy_toD hy).trans (e ▸ e1)
  rw [opEq_of neg h1 h2 e2 e2, eqv_refl p (SeqAt.canLay_of_shaped e2)]
  cases neg <;> rfl
theorem shaped_int (i : Int) : SeqAt.shaped (.int i) = true := (rfl)
theorem shaped_bool (i : Bool) : SeqAt.shaped (.bool i) = true := (rfl)
theorem e_eq_int (i j : Int) : opEq false [.d (.int i), .d (.int j)] = .ok (.d (.bl (decide (i = j)))) [.d (.int i), .d (.int j)] := by
  rw [opEq_of false rfl rfl (shaped_int i) (shaped_int j)]
  rfl
theorem e_ne_int (i j : Int) : opEq true [.d (.int i), .d (.int j)] = .ok (.d (.bl (!decide (i = j)))) [.d (.int i), .d (.int j)] := by
  rw [opEq_of true rfl rfl (shaped_int i) (shaped_int j)]
  rfl
theorem e_eq_bl (i j : Bool) : opEq false [.d (.bl i), .d (.bl j)] = .ok (.d (.bl (i == j))) [.d (.bl i), .d (.bl j)] := by
  rw [opEq_of false rfl rfl (shaped_bool i) (shaped_bool j)]
  rfl
theorem e_ne_bl (i j : Bool) : opEq true [.d (.bl i), .d (.bl j)] = .ok (.d (.bl (!(i == j)))) [.d (.bl i), .d (.bl j)] := by
  rw [opEq_of true rfl rfl (shaped_bool i) (shaped_bool j)]
  rfl
theorem eqvAll_int : ∀ (xs ys : List Int), PyData.eqvAll (xs.map .int) (ys.map .int) = decide (xs = ys)
  | [], [] => rfl
  | [], _ :: _ => by simp [PyData.eqvAll]
  | _ :: _, [] => by simp [PyData.eqvAll]
  | x :: xs, y :: ys => by
    simp only [List.map_cons, PyData.eqvAll, PyData.eqv, eqvAll_int xs ys, List.cons.injEq]
    by_cases h1 : x = y <;> by_cases h2 : xs = ys <;> simp [h1, h2]
theorem dPys_int : ∀ xs : List Int, dPys (xs.map D.int) = some (xs.map .int)
  | [] => rfl
  | x :: xs => by simp only [List.map_cons, dPys, dPy, dPys_int xs]
theorem lay_int : ∀ xs : List Int, PyData.canLayAll0 (xs.map .int) = true
  | [] => rfl
  | x :: xs => by simp only [List.map_cons, PyData.canLayAll0, PyData.canLay0, lay_int xs, Bool.and_self]
theorem depth_int : ∀ xs : List Int, PyData.depthAll (xs.map .int) = 0
  | [] => rfl
  | x :: xs => by simp only [List.map_cons, PyData.depthAll, PyData.depth, depth_int xs, Nat.max_self]
theorem shaped_ints (xs : List Int) : SeqAt.shaped (.list (xs.map .int)) = true := by
  unfold SeqAt.shaped
  simp only [PyData.canLay0, lay_int, PyData.depth, depth_int]
  rfl
theorem shaped_tints (xs : List Int) : SeqAt.shaped (.tuple (xs.map .int)) = true := by
  unfold SeqAt.shaped
  simp only [PyData.canLay0, lay_int, PyData.depth, depth_int]
  rfl
/-- lists of rgI, however held -/
theorem opEq_ints (neg : Bool) (x y : S) (xs ys : List Int) (hx : isR x = true) (hy : isR y = true) (ex : toD x = .lst (xs.map .int)) (ey : toD y = .lst (ys.map .int)) :
    opEq neg [x, y] = .ok (.d (.bl (if neg then !decide (xs = ys) else decide (xs = ys)))) [x, y] := by
  have h1 : sPy x = some (.list (xs.map .int)) := by rw [sPy_toD hx, ex, dPy, dPys_int]; rfl
  have h2 : sPy y = some (.list (ys.map .int)) := by rw [sPy_toD hy, ey, dPy, dPys_int]; rfl
  rw [opEq_of neg h1 h2 (shaped_ints xs) (shaped_ints ys)]
  simp only [PyData.eqv, eqvAll_int]
theorem opEq_tints (neg : Bool) (xs ys : List Int) :
    opEq neg [.d (.tup (xs.map .int)), .d (.tup (ys.map .int))] = .ok (.d (.bl (if neg then !decide (xs = ys) else decide (xs = ys)))) [.d (.tup (xs.map .int)), .d (.tup (ys.map .int))] := by
  have h : ∀ zs : List Int, sPy (.d (.tup (zs.map .int))) = some (.tuple (zs.map .int)) := fun zs => by
    simp only [sPy, dPy, dPys_int]; rfl
  rw [opEq_of neg (h xs) (h ys) (shaped_tints xs) (shaped_tints ys)]
  simp only [PyData.eqv, eqvAll_int]
/-- a text against a text, against something else -/
theorem opEq_str (neg : Bool) (x y : Str) (hx : strG x = true) (hy : strG y = true) :
    opEq neg [.d (.str x), .d (.str y)] = .ok (.d (.bl (if neg then !(x == y) else (x == y)))) [.d (.str x), .d (.str y)] := by
  have k : ∀ z : Str, strG z = true → SeqAt.shaped (.str z) = true := fun z h => by
    unfold SeqAt.shaped
    rw [show PyData.canLay0 (.str z) = true from h]
    rfl
  rw [opEq_of neg (x := .d (.str x)) (y := .d (.str y)) rfl rfl (k x hx) (k y hy)]
  simp only [PyData.eqv]
theorem e_ne_str (x : Str) (h : strG x = true) : opEq true [.d (.str x), .d (.str x)] = .ok (.d (.bl false)) [.d (.str x), .d (.str x)] := by
  rw [opEq_str true x x h h]
  simp
theorem e_eq_str (x : Str) (h : strG x = true) : opEq false [.d (.str x), .d (.str x)] = .ok (.d (.bl true)) [.d (.str x), .d (.str x)] := by
  rw [opEq_str false x x h h]
  simp
def isStr : D → Bool
  | .str _ => true
  | _ => false
theorem opEq_nostr (neg : Bool) (x : S) (y : Str) (hx : isR x = true) (hs : isStr (toD x) = false) (n : Nat) (hn : n ≤ 64) (h : Sh n (toD x)) (hy : strG y = true) :
    opEq neg [x, .d (.str y)] = .ok (.d (.bl neg)) [x, .d (.str y)] := by
  obtain ⟨p, e1, e2⟩ := h.shaped hn
  have ky : SeqAt.shaped (.str y) = true := by
    unfold SeqAt.shaped
    rw [show PyData.canLay0 (.str y) = true from hy]
    rfl
  rw [opEq_of neg (y := .d (.str y)) ((sPy_toD hx).trans e1) rfl e2 ky]
  have : PyData.eqv p (.str y) = false := by
    cases hd : toD x with
    | non => rw [hd] at e1; cases e1; rfl
    | bl b => rw [hd] at e1; cases e1; rfl
    | int b => rw [hd] at e1; cases e1; rfl
    | str b => rw [hd] at hs; cases hs
    | tup b =>
      rw [hd, dPy] at e1
      cases hp : dPys b with
      | none => rw [hp] at e1; cases e1
      | some q => rw [hp] at e1; cases e1; rfl
    | lst b =>
      rw [hd, dPy] at e1
      cases hp : dPys b with
      | none => rw [hp] at e1; cases e1
      | some q => rw [hp] at e1; cases e1; rfl
    | dic a b => rw [hd] at e1; cases e1
    | obj a b => rw [hd] at e1; cases e1
  rw [this]
  cases neg <;> rfl
/-! ### ranges -/
def rgI (lo : Int) (n : Nat) : List Int := (List.range n).map fun (k : Nat) => lo + (k : Int)
theorem rngD_rgI (lo : Int) (n : Nat) : rngD lo n = (rgI lo n).map .int := by
  unfold rngD rgI
  rw [List.map_map]
  rfl
theorem rgI_length (lo : Int) (n : Nat) : (rgI lo n).length = n := by simp [rgI]
theorem mem_rgI {lo x : Int} {n : Nat} : x ∈ rgI lo n ↔ lo ≤ x ∧ x < lo + n := by
  unfold rgI
  simp only [List.mem_map, List.mem_range]
  constructor
  · rintro ⟨k, h, e⟩
    omega
  · intro h
    exact ⟨(x - lo).toNat, by omega, by omega⟩
theorem rgI_get {lo : Int} {n i : Nat} {x : Int} (h : (rgI lo n)[i]? = some x) : x = lo + i ∧ i < n := by
  unfold rgI at h
  rw [List.getElem?_map] at h
  by_cases hi : i < n
  · simp [hi] at h
    exact ⟨h.symm, hi⟩
  · simp [hi] at h
theorem b62_ok (i : Int) (h : -4611686018427387904 ≤ i ∧ i < 4611686018427387904) : b62 i = true := by
  unfold b62
  rw [decide_eq_true (show -(2 ^ 62) ≤ i by omega), decide_eq_true (show i < 2 ^ 62 by omega)]
  rfl
theorem e_ioR1 (j : Int) (h : -4611686018427387904 ≤ j ∧ j < 4611686018427387904) : ioR1 [.d (.int j)] = some ((rgI 0 j.toNat).map .int) := by
  simp only [ioR1, b62_ok j h, if_true, rngD_rgI]
theorem e_ioR2 (i j : Int) (h : -4611686018427387904 ≤ i ∧ i < 4611686018427387904) (h2 : -4611686018427387904 ≤ j ∧ j < 4611686018427387904) : ioR2 [.d (.int i), .d (.int j)] = some ((rgI i (j - i).toNat).map .int) := by
  simp only [ioR2, b62_ok i h, b62_ok j h2, Bool.and_self, if_true, rngD_rgI]
theorem e_ioA_l (xs : List D) : ioA [.l xs] = some xs := (rfl)
theorem e_ioA_dl (xs : List D) : ioA [.d (.lst xs)] = some xs := (rfl)
theorem e_ioA_dt (xs : List D) : ioA [.d (.tup xs)] = some xs := (rfl)
theorem e_ioA_str (z : Str) : ioA [.d (.str z)] = some (signs z) := (rfl)
theorem e_ioRvA_l (xs : List D) : ioRvA [.l xs] = some xs.reverse := (rfl)
theorem e_ioRvA_dl (xs : List D) : ioRvA [.d (.lst xs)] = some xs.reverse := (rfl)
theorem e_ioRvA_dt (xs : List D) : ioRvA [.d (.tup xs)] = some xs.reverse := (rfl)
/-! ### for -/
def forK (t : Tg) (body : B) (o : Option (List D)) (ρ : List S) : Fl := match o with
  | some items => forL t body items ρ
  | none => .stuck
def forG (io : List S → Option (List D)) (t : Tg) (body : B) (o : Option (List S × List S)) : Fl := match o with
  | some p => forK t body (io p.1) p.2
  | none => .stuck
theorem e_bFor (as : List Arg) (io : List S → Option (List D)) (t : Tg) (body : B) (ρ : List S) : bFor as io t body ρ = db (mArgs as ρ) fun avs ρ => forG io t body (grab ρ avs) := by
  unfold bFor bdo db
  cases mArgs as ρ with
  | ok avs ρ' =>
    dsimp only
    unfold forG forK
    cases grab ρ' avs with
    | none => rfl
    | some p =>
      dsimp only
      cases io p.1 <;> rfl
  | _ => rfl
theorem forG_some (io : List S → Option (List D)) (t : Tg) (body : B) (xs ρ : List S) : forG io t body (some (xs, ρ)) = forK t body (io xs) ρ := (rfl)
theorem forK_some (t : Tg) (body : B) (items : List D) (ρ : List S) : forK t body (some items) ρ = forL t body items ρ := (rfl)
theorem forL_nil (t : Tg) (body : B) (ρ : List S) : forL t body [] ρ = .nx ρ := (rfl)
/-- written items -/
def foB (t : Tg) (body : B) (xs : List D) (r : Fl) : Fl := match r with
  | .nx ρ2 => forL t body xs ρ2
  | .ct ρ2 => forL t body xs ρ2
  | .bk ρ2 => .nx ρ2
  | r => r
def foA (t : Tg) (body : B) (xs : List D) (o : Option (List S)) : Fl := match o with
  | none => .stuck
  | some ρ1 => foB t body xs (body ρ1)
theorem e_forL_cons (t : Tg) (body : B) (x : D) (xs : List D) (ρ : List S) : forL t body (x :: xs) ρ = foA t body xs (asgT t (.d x) ρ) := by
  rw [forL]
  unfold foA foB
  cases asgT t (.d x) ρ with
  | none => rfl
  | some ρ1 =>
    dsimp only
    first | done | (cases body ρ1 <;> rfl)
section
variable (t : Tg) (body : B) (xs : List D) (ρ : List S)
theorem foA_some : foA t body xs (some ρ) = foB t body xs (body ρ) := (rfl)
theorem foB_nx : foB t body xs (.nx ρ) = forL t body xs ρ := (rfl)
theorem foB_ct : foB t body xs (.ct ρ) = forL t body xs ρ := (rfl)
theorem foB_bk : foB t body xs (.bk ρ) = .nx ρ := (rfl)
theorem foB_rt (s : S) : foB t body xs (.rt s ρ) = .rt s ρ := (rfl)
theorem foB_exc (c : Nat) (p : D) : foB t body xs (.exc c p ρ) = .exc c p ρ := (rfl)
end
/-- a loop that ends: its invariant by turns -/
theorem for_nx {ι : Type} {t : Tg} {body : B} (emb : ι → D) (I : Nat → List S → Prop) : ∀ (is : List ι) {ρ : List S}, I 0 ρ →
    (∀ i x ρ, is[i]? = some x → I i ρ → ∃ ρ1 ρ2, asgT t (.d (emb x)) ρ = some ρ1 ∧ (body ρ1 = .nx ρ2 ∨ body ρ1 = .ct ρ2) ∧ I (i + 1) ρ2) →
    ∃ ρ', forL t body (is.map emb) ρ = .nx ρ' ∧ I is.length ρ'
  | [], ρ, h0, _ => ⟨ρ, rfl, h0⟩
  | x :: is, ρ, h0, hs => by
    obtain ⟨ρ1, ρ2, e1, e2, h1⟩ := hs 0 x ρ rfl h0
    obtain ⟨ρ', e3, h3⟩ := for_nx emb (fun i => I (i + 1)) is h1 fun i y r hi h => hs (i + 1) y r hi h
    refine ⟨ρ', ?_, h3⟩
    show forL t body (emb x :: is.map emb) ρ = _
    rw [forL, e1]
    rcases e2 with e2 | e2 <;> (simp only [e2]; exact e3)
/-- a loop in general -/
def stp (J : List S → Prop) (Q : Fl → Prop) : Fl → Prop
  | .nx ρ => J ρ
  | .ct ρ => J ρ
  | .bk ρ => Q (.nx ρ)
  | r => Q r
theorem for_any {ι : Type} {t : Tg} {body : B} {Q : Fl → Prop} (emb : ι → D) (I : Nat → List S → Prop) : ∀ (is : List ι) {ρ : List S}, I 0 ρ →
    (∀ i x ρ, is[i]? = some x → I i ρ → ∃ ρ1, asgT t (.d (emb x)) ρ = some ρ1 ∧ stp (I (i + 1)) Q (body ρ1)) →
    (∀ ρ, I is.length ρ → Q (.nx ρ)) → Q (forL t body (is.map emb) ρ)
  | [], ρ, h0, _, he => he ρ h0
  | x :: is, ρ, h0, hs, he => by
    obtain ⟨ρ1, e1, h1⟩ := hs 0 x ρ rfl h0
    have ih := fun ρ h => for_any (Q := Q) emb (fun i => I (i + 1)) is (ρ := ρ) h (fun i y r hi h => hs (i + 1) y r hi h) he
    cases hb : body ρ1 with
    | nx ρ2 =>
      rw [hb] at h1
      rw [List.map_cons, show forL t body (emb x :: is.map emb) ρ = forL t body (is.map emb) ρ2 by simp only [forL, e1, hb]]
      exact ih ρ2 h1
    | ct ρ2 =>
      rw [hb] at h1
      rw [List.map_cons, show forL t body (emb x :: is.map emb) ρ = forL t body (is.map emb) ρ2 by simp only [forL, e1, hb]]
      exact ih ρ2 h1
    | bk ρ2 =>
      rw [hb] at h1
      rw [List.map_cons, show forL t body (emb x :: is.map emb) ρ = .nx ρ2 by simp only [forL, e1, hb]]
      exact h1
    | rt s ρ2 =>
      rw [hb] at h1
      rw [List.map_cons, show forL t body (emb x :: is.map emb) ρ = .rt s ρ2 by simp only [forL, e1, hb]]
      exact h1
    | exc c p ρ2 =>
      rw [hb] at h1
      rw [List.map_cons, show forL t body (emb x :: is.map emb) ρ = .exc c p ρ2 by simp only [forL, e1, hb]]
      exact h1
    | stuck =>
      rw [hb] at h1
      rw [List.map_cons, show forL t body (emb x :: is.map emb) ρ = .stuck by simp only [forL, e1, hb]]
      exact h1
/-! ### while -/
theorem while_nx {t : M Bool} {body : B} {P : List S → Prop} (I : Nat → List S → Prop) : ∀ (fuel m : Nat) {ρ : List S}, I m ρ → m < fuel →
    (∀ m ρ, I m ρ → ∃ b ρ1, t ρ = .ok b ρ1 ∧ (b = false → P ρ1) ∧ (b = true → ∃ ρ2 m', body ρ1 = .nx ρ2 ∧ m' < m ∧ I m' ρ2)) →
    ∃ ρ', whileL t body fuel ρ = .nx ρ' ∧ P ρ'
  | 0, m, ρ, _, h, _ => absurd h (by omega)
  | f + 1, m, ρ, h0, hf, hs => by
    obtain ⟨b, ρ1, e1, h1, h2⟩ := hs m ρ h0
    cases b with
    | false => exact ⟨ρ1, by simp only [whileL, e1]; rfl, h1 rfl⟩
    | true =>
      obtain ⟨ρ2, m', e2, lt, h3⟩ := h2 rfl
      obtain ⟨ρ', e3, h4⟩ := while_nx I f m' h3 (by omega) hs
      refine ⟨ρ', ?_, h4⟩
      simp only [whileL, e1, e2, if_true]
      exact e3
/-! ### comprehensions -/
theorem compL_ok {ι : Type} {vs : List Nat} {t : Tg} {c : M Bool} {f : M S} {ρ0 : List S} (emb : ι → D) (keep : ι → Bool) (g : ι → D) : ∀ (is : List ι) (acc : List S) (ρ : List S), clr vs ρ = ρ0 →
    (∀ x ∈ is, ∃ ρ1, asgT t (.d (emb x)) ρ0 = some ρ1 ∧ ∃ ρ2, c ρ1 = .ok (keep x) ρ2 ∧ (keep x = false → clr vs ρ2 = ρ0) ∧ (keep x = true → ∃ ρ3, f ρ2 = .ok (.d (g x)) ρ3 ∧ clr vs ρ3 = ρ0)) →
    ∃ ρ', compL vs t c f (is.map emb) acc ρ = .ok (acc ++ ((is.filter keep).map g).map .d) ρ' ∧ clr vs ρ' = ρ0
  | [], acc, ρ, h, _ => ⟨ρ, by simp [compL], h⟩
  | x :: is, acc, ρ, h, hs => by
    obtain ⟨ρ1, e1, ρ2, e2, hf, ht⟩ := hs x (by simp)
    have hs' := fun y hy => hs y (List.mem_cons_of_mem _ hy)
    rw [List.map_cons, compL, h, e1]
    simp only [e2]
    cases hk : keep x with
    | false =>
      obtain ⟨ρ', e3, h3⟩ := compL_ok emb keep g is acc ρ2 (hf hk) hs'
      refine ⟨ρ', ?_, h3⟩
      simp only [List.filter_cons, hk, Bool.false_eq_true, if_false]
      exact e3
    | true =>
      obtain ⟨ρ3, e4, h4⟩ := ht hk
      obtain ⟨ρ', e3, h3⟩ := compL_ok emb keep g is (acc ++ [.d (g x)]) ρ3 h4 hs'
      refine ⟨ρ', ?_, h3⟩
      simp only [List.filter_cons, hk, if_true, e4]
      rw [e3]
      simp
theorem lsN_d : ∀ xs : List D, lsN (xs.map .d) = .l xs := fun xs => by
  have : allD (xs.map .d) = some xs := by
    induction xs with
    | nil => rfl
    | cons x xs ih => simp [allD, ih]
  unfold lsN
  rw [this]
/-- .. evaluated up to its loop -/
def compE (vs : List Nat) (t : Tg) (c : M Bool) (f : M S) (items : List D) (avs : List AV) (xs ρp : List S) : Res S := if items.length ≤ 100000 then (match compL vs t c f items [] ρp with
  | .ok acc ρ2 => .ok (lsN acc) (lay (rst vs ρp (clr vs ρ2)) avs xs xs)
  | _ => .stuck) else .stuck
def compK (vs : List Nat) (t : Tg) (c : M Bool) (f : M S) (avs : List AV) (xs ρp : List S) (o : Option (List D)) : Res S := match o with
  | some items => compE vs t c f items avs xs ρp
  | none => .stuck
def compG (vs : List Nat) (io : List S → Option (List D)) (t : Tg) (c : M Bool) (f : M S) (avs : List AV) (o : Option (List S × List S)) : Res S := match o with
  | some p => compK vs t c f avs p.1 p.2 (io p.1)
  | none => .stuck
theorem e_mComp (vs : List Nat) (as : List Arg) (io : List S → Option (List D)) (t : Tg) (c : M Bool) (f : M S) (ρ : List S) : mComp vs as io t c f ρ = rb (mArgs as ρ) fun avs ρ => compG vs io t c f avs (grab ρ avs) := by
  unfold mComp mbind rb
  cases mArgs as ρ with
  | ok avs ρ' =>
    dsimp only
    unfold compG compK compE
    cases grab ρ' avs with
    | none => rfl
    | some p =>
      dsimp only
      cases io p.1 <;> rfl
  | _ => rfl
theorem compG_some (vs : List Nat) (io : List S → Option (List D)) (t : Tg) (c : M Bool) (f : M S) (avs : List AV) (xs ρ : List S) : compG vs io t c f avs (some (xs, ρ)) = compK vs t c f avs xs ρ (io xs) := (rfl)
theorem compK_some (vs : List Nat) (t : Tg) (c : M Bool) (f : M S) (avs : List AV) (xs ρ : List S) (items : List D) : compK vs t c f avs xs ρ (some items) = compE vs t c f items avs xs ρ := (rfl)
/-- a comprehension whose parts leave the slots as they were -/
def CPure {ι : Type} (vs : List Nat) (t : Tg) (c : M Bool) (f : M S) (ρ0 : List S) (emb : ι → D) (is : List ι) (keep : ι → Bool) (g : ι → D) : Prop :=
  ∀ x ∈ is, ∃ ρ1, asgT t (.d (emb x)) ρ0 = some ρ1 ∧ ∃ ρ2, c ρ1 = .ok (keep x) ρ2 ∧ (keep x = false → clr vs ρ2 = ρ0) ∧ (keep x = true → ∃ ρ3, f ρ2 = .ok (.d (g x)) ρ3 ∧ clr vs ρ3 = ρ0)
theorem comp_ok {ι : Type} {vs : List Nat} {t : Tg} {c : M Bool} {f : M S} {ρp : List S} {avs : List AV} {xs : List S} (emb : ι → D) (is : List ι) (keep : ι → Bool) (g : ι → D) (ρ0 : List S) (h0 : clr vs ρp = ρ0) (hl : is.length ≤ 100000)
    (hs : CPure vs t c f ρ0 emb is keep g) : compE vs t c f (is.map emb) avs xs ρp = .ok (.l ((is.filter keep).map g)) (lay (rst vs ρp ρ0) avs xs xs) := by
  obtain ⟨ρ2, e, h⟩ := compL_ok emb keep g is [] ρp h0 hs
  unfold compE
  simp only [List.length_map, hl, if_true, e, h, List.nil_append, lsN_d]
/-- all items are taken -/
theorem comp_all {ι : Type} {vs : List Nat} {t : Tg} {f : M S} {ρp : List S} {avs : List AV} {xs : List S} (emb : ι → D) (is : List ι) (g : ι → D) (ρ0 : List S) (h0 : clr vs ρp = ρ0) (hl : is.length ≤ 100000)
    (hs : ∀ x ∈ is, ∃ ρ1, asgT t (.d (emb x)) ρ0 = some ρ1 ∧ ∃ ρ3, f ρ1 = .ok (.d (g x)) ρ3 ∧ clr vs ρ3 = ρ0) : compE vs t (mpure true) f (is.map emb) avs xs ρp = .ok (.l (is.map g)) (lay (rst vs ρp ρ0) avs xs xs) := by
  rw [comp_ok emb is (fun _ => true) g ρ0 h0 hl fun x hx => ?_]
  · rw [List.filter_eq_self.mpr fun _ _ => rfl]
  · obtain ⟨ρ1, e1, ρ3, e2, e3⟩ := hs x hx
    exact ⟨ρ1, e1, ρ1, rfl, (fun z => by cases z), fun _ => ⟨ρ3, e2, e3⟩⟩
theorem comp_allI {ι : Type} {vs : List Nat} {t : Tg} {f : M S} {ρp : List S} {avs : List AV} {xs : List S} (emb : ι → D) (is : List ι) (g : ι → Int) (ρ0 : List S) (h0 : clr vs ρp = ρ0) (hl : is.length ≤ 100000)
    (hs : ∀ x ∈ is, ∃ ρ1, asgT t (.d (emb x)) ρ0 = some ρ1 ∧ ∃ ρ3, f ρ1 = .ok (.d (.int (g x))) ρ3 ∧ clr vs ρ3 = ρ0) : compE vs t (mpure true) f (is.map emb) avs xs ρp = .ok (.l ((is.map g).map .int)) (lay (rst vs ρp ρ0) avs xs xs) := by
  rw [comp_all emb is (fun x => .int (g x)) ρ0 h0 hl hs, List.map_map]
  rfl
theorem comp_okI {ι : Type} {vs : List Nat} {t : Tg} {c : M Bool} {f : M S} {ρp : List S} {avs : List AV} {xs : List S} (emb : ι → D) (is : List ι) (keep : ι → Bool) (g : ι → Int) (ρ0 : List S) (h0 : clr vs ρp = ρ0) (hl : is.length ≤ 100000)
    (hs : CPure vs t c f ρ0 emb is keep fun x => .int (g x)) : compE vs t c f (is.map emb) avs xs ρp = .ok (.l (((is.filter keep).map g).map .int)) (lay (rst vs ρp ρ0) avs xs xs) := by
  rw [comp_ok emb is keep (fun x => .int (g x)) ρ0 h0 hl hs, List.map_map]
  rfl
/-! ### generator expressions -/
/-- the parts leave the slots behind their own ones as they were -/
def GPure {ι : Type} (m : Nat) (t : Tg) (c : M Bool) (f : M S) (ρp : List S) (emb : ι → D) (is : List ι) (keep : ι → Bool) (g : ι → D) : Prop :=
  ∀ x ∈ is, ∀ own : List S, own.length = m → ∃ own' : List S, own'.length = m ∧ asgT t (.d (emb x)) (own ++ ρp) = some (own' ++ ρp) ∧ c (own' ++ ρp) = .ok (keep x) (own' ++ ρp) ∧ (keep x = true → f (own' ++ ρp) = .ok (.d (g x)) (own' ++ ρp))
theorem GPure.tl {ι : Type} {m : Nat} {t : Tg} {c : M Bool} {f : M S} {ρp : List S} {emb : ι → D} {x : ι} {is : List ι} {keep : ι → Bool} {g : ι → D} (h : GPure m t c f ρp emb (x :: is) keep g) : GPure m t c f ρp emb is keep g :=
  fun y hy => h y (List.mem_cons_of_mem _ hy)
theorem len1 {own : List S} (h : own.length = 1) : ∃ a, own = [a] := by
  match own, h with
  | [a], _ => exact ⟨a, rfl⟩
theorem len2 {own : List S} (h : own.length = 2) : ∃ a b, own = [a, b] := by
  match own, h with
  | [a, b], _ => exact ⟨a, b, rfl⟩
theorem len3 {own : List S} (h : own.length = 3) : ∃ a b c, own = [a, b, c] := by
  match own, h with
  | [a, b, c], _ => exact ⟨a, b, c, rfl⟩
theorem trB_ok {ι : Type} (qv : Bool) {stp : S → Bool} (hst : ∀ b, stp (.d (.bl b)) = (b == qv)) {m : Nat} {t : Tg} {c : M Bool} {f : M S} {ρp : List S} {emb : ι → D} {keep : ι → Bool} {g : ι → Bool} : ∀ (is : List ι) (own : List S), own.length = m →
    GPure m t c f ρp emb is keep (fun x => .bl (g x)) →
    ∃ tr en, trL stp t c f (is.map emb) (own ++ ρp) = some (tr, en) ∧ tr.all (fun x => isB x.1) = true ∧ en.isNone = (is.filter keep).any (fun x => g x == qv) ∧ ∃ ρ', endR tr en = some ρ' ∧ ρ'.drop m = ρp
  | [], own, ho, _ => ⟨[], some (own ++ ρp), rfl, rfl, rfl, _, rfl, by rw [List.drop_left' ho]⟩
  | x :: is, own, ho, hs => by
    obtain ⟨o2, l2, e1, e2, e3⟩ := hs x (by simp) own ho
    rw [List.map_cons, trL, e1]
    simp only [e2]
    cases hk : keep x with
    | false =>
      obtain ⟨tr, en, h1, h2, h3, h4⟩ := trB_ok qv hst is o2 l2 hs.tl
      refine ⟨tr, en, h1, h2, ?_, h4⟩
      simp only [List.filter_cons, hk, Bool.false_eq_true, if_false]
      exact h3
    | true =>
      simp only [e3 hk, hst]
      by_cases hg : (g x == qv) = true
      · rw [hg]
        refine ⟨_, _, rfl, by simp [isB], by simp [hk, hg], o2 ++ ρp, rfl, by rw [List.drop_left' l2]⟩
      · have hg' : (g x == qv) = false := by simpa using hg
        rw [hg']
        obtain ⟨tr, en, h1, h2, h3, ρ', h4, h5⟩ := trB_ok qv hst is o2 l2 hs.tl
        simp only [Bool.false_eq_true, if_false, h1, Option.map_some]
        refine ⟨_, _, rfl, ?_, ?_, ?_⟩
        · simp only [List.all_cons, h2, Bool.and_true]
          rfl
        · simp only [List.filter_cons, hk, if_true, List.any_cons, hg', Bool.false_or]
          exact h3
        · cases en with
          | some ρ2 => exact ⟨ρ', h4, h5⟩
          | none =>
            cases tr with
            | nil => simp [endR] at h4
            | cons p tr =>
              refine ⟨ρ', ?_, h5⟩
              simp only [endR, List.getLast?_cons_cons] at h4 ⊢
              exact h4
/-- evaluated up to the loop -/
def genL (m : Nat) (stp : S → Bool) (t : Tg) (c : M Bool) (f : M S) (fin : List (S × List S) → Option (List S) → Option S) (items : List D) (avs : List AV) (xs ρp : List S) : Res S := match trL stp t c f items (List.replicate m .gone ++ ρp) with
  | none => .stuck
  | some q => match endR q.1 q.2, fin q.1 q.2 with
    | some ρ', some z => .ok z (lay (ρ'.drop m) avs xs xs)
    | _, _ => .stuck
def genK (m : Nat) (stp : S → Bool) (t : Tg) (c : M Bool) (f : M S) (fin : List (S × List S) → Option (List S) → Option S) (avs : List AV) (xs ρp : List S) (o : Option (List D)) : Res S := match o with
  | some items => genL m stp t c f fin items avs xs ρp
  | none => .stuck
def genG (m : Nat) (io : List S → Option (List D)) (stp : S → Bool) (t : Tg) (c : M Bool) (f : M S) (fin : List (S × List S) → Option (List S) → Option S) (avs : List AV) (o : Option (List S × List S)) : Res S := match o with
  | some p => genK m stp t c f fin avs p.1 p.2 (io p.1)
  | none => .stuck
theorem e_mGen (m : Nat) (as : List Arg) (io : List S → Option (List D)) (stp : S → Bool) (t : Tg) (c : M Bool) (f : M S) (fin : List (S × List S) → Option (List S) → Option S) (ρ : List S) : mGen m as io stp t c f fin ρ = rb (mArgs as ρ) fun avs ρ => genG m io stp t c f fin avs (grab ρ avs) := by
  unfold mGen mbind rb
  cases mArgs as ρ with
  | ok avs ρ' =>
    dsimp only
    unfold genG genK genL
    cases grab ρ' avs with
    | none => rfl
    | some p =>
      dsimp only
      cases io p.1 with
      | none => rfl
      | some items => rfl
  | _ => rfl
theorem e_mAny (m : Nat) (as : List Arg) (io : List S → Option (List D)) (t : Tg) (c : M Bool) (f : M S) (ρ : List S) : mAny m as io t c f ρ = rb (mArgs as ρ) fun avs ρ => genG m io stAny t c f finAny avs (grab ρ avs) := e_mGen m as io stAny t c f finAny ρ
theorem e_mAll (m : Nat) (as : List Arg) (io : List S → Option (List D)) (t : Tg) (c : M Bool) (f : M S) (ρ : List S) : mAll m as io t c f ρ = rb (mArgs as ρ) fun avs ρ => genG m io stAll t c f finAll avs (grab ρ avs) := e_mGen m as io stAll t c f finAll ρ
theorem e_mSum (m : Nat) (as : List Arg) (io : List S → Option (List D)) (t : Tg) (c : M Bool) (f : M S) (ρ : List S) : mSum m as io t c f ρ = rb (mArgs as ρ) fun avs ρ => genG m io (fun _ => false) t c f finSum avs (grab ρ avs) := e_mGen m as io (fun _ => false) t c f finSum ρ
theorem genG_some (m : Nat) (io : List S → Option (List D)) (stp : S → Bool) (t : Tg) (c : M Bool) (f : M S) (fin : List (S × List S) → Option (List S) → Option S) (avs : List AV) (xs ρ : List S) : genG m io stp t c f fin avs (some (xs, ρ)) = genK m stp t c f fin avs xs ρ (io xs) := (rfl)
theorem genK_some (m : Nat) (stp : S → Bool) (t : Tg) (c : M Bool) (f : M S) (fin : List (S × List S) → Option (List S) → Option S) (avs : List AV) (xs ρ : List S) (items : List D) : genK m stp t c f fin avs xs ρ (some items) = genL m stp t c f fin items avs xs ρ := (rfl)
theorem any_ok {ι : Type} {m : Nat} {t : Tg} {c : M Bool} {f : M S} {ρp : List S} {avs : List AV} {xs : List S} (emb : ι → D) (is : List ι) (keep : ι → Bool) (g : ι → Bool)
    (hs : GPure m t c f ρp emb is keep (fun x => .bl (g x))) : genL m stAny t c f finAny (is.map emb) avs xs ρp = .ok (.d (.bl ((is.filter keep).any g))) (lay ρp avs xs xs) := by
  obtain ⟨tr, en, e, h1, h2, ρ2, h3, h4⟩ := trB_ok true (stp := stAny) (fun b => by cases b <;> rfl) is (List.replicate m .gone) (by simp) hs
  unfold genL
  simp only [e, h3, finAny, h1, if_true, h4, h2]
  simp
theorem all_ok {ι : Type} {m : Nat} {t : Tg} {c : M Bool} {f : M S} {ρp : List S} {avs : List AV} {xs : List S} (emb : ι → D) (is : List ι) (keep : ι → Bool) (g : ι → Bool)
    (hs : GPure m t c f ρp emb is keep (fun x => .bl (g x))) : genL m stAll t c f finAll (is.map emb) avs xs ρp = .ok (.d (.bl ((is.filter keep).all g))) (lay ρp avs xs xs) := by
  obtain ⟨tr, en, e, h1, h2, ρ2, h3, h4⟩ := trB_ok false (stp := stAll) (fun b => by cases b <;> rfl) is (List.replicate m .gone) (by simp) hs
  unfold genL
  simp only [e, h3, finAll, h1, if_true, h4]
  have : en.isSome = (is.filter keep).all g := by
    have h5 : en.isSome = !en.isNone := by cases en <;> rfl
    rw [h5, h2, List.all_eq_not_any_not]
    congr 2
    funext x
    cases g x <;> rfl
  rw [this]
theorem trS_ok {ι : Type} {m : Nat} {t : Tg} {c : M Bool} {f : M S} {ρp : List S} {emb : ι → D} {keep : ι → Bool} {g : ι → Int} : ∀ (is : List ι) (own : List S), own.length = m →
    GPure m t c f ρp emb is keep (fun x => .int (g x)) →
    ∃ tr ρ', trL (fun _ => false) t c f (is.map emb) (own ++ ρp) = some (tr, some ρ') ∧ tr.map (·.1) = (((is.filter keep).map g).map D.int).map .d ∧ ρ'.drop m = ρp
  | [], own, ho, _ => ⟨[], own ++ ρp, rfl, rfl, by rw [List.drop_left' ho]⟩
  | x :: is, own, ho, hs => by
    obtain ⟨o2, l2, e1, e2, e3⟩ := hs x (by simp) own ho
    rw [List.map_cons, trL, e1]
    simp only [e2]
    cases hk : keep x with
    | false =>
      obtain ⟨tr, ρ', h1, h2, h3⟩ := trS_ok is o2 l2 hs.tl
      refine ⟨tr, ρ', h1, ?_, h3⟩
      simp only [List.filter_cons, hk, Bool.false_eq_true, if_false]
      exact h2
    | true =>
      obtain ⟨tr, ρ', h1, h2, h3⟩ := trS_ok is o2 l2 hs.tl
      simp only [e3 hk, Bool.false_eq_true, if_false, h1, Option.map_some]
      refine ⟨_, _, rfl, ?_, h3⟩
      simp only [List.map_cons, List.filter_cons, hk, if_true, h2]
theorem sumV_ok : ∀ (tr : List (S × List S)) (ns : List Int) (a : Int), tr.map (·.1) = (ns.map D.int).map .d → (∀ k, k ≤ ns.length → inL (a + (ns.take k).sum) = true) → (∀ z ∈ ns, inL z = true) → sumV tr a = some (a + ns.sum)
  | [], [], a, _, _, _ => by simp [sumV]
  | [], _ :: _, _, h, _, _ => by simp at h
  | _ :: _, [], _, h, _, _ => by simp at h
  | (x, r) :: tr, n :: ns, a, h, h1, h2 => by
    simp only [List.map_cons, List.cons.injEq] at h
    obtain ⟨e, h⟩ := h
    subst e
    have k1 := h1 1 (by simp)
    simp only [List.take_succ_cons, List.take_zero, List.sum_cons, List.sum_nil, Int.add_zero] at k1
    rw [sumV, h2 n (by simp), k1]
    simp only [Bool.and_self, if_true, List.sum_cons]
    rw [sumV_ok tr ns (a + n) h (fun k hk => by
      have := h1 (k + 1) (by simp; omega)
      simpa [List.take_succ_cons, Int.add_assoc] using this) fun z hz => h2 z (by simp [hz])]
    congr 1
    omega
/-- sums of few small ints stay within the line -/
theorem sum_bound : ∀ (ns : List Int) (M : Int), 0 ≤ M → (∀ z ∈ ns, -M ≤ z ∧ z ≤ M) → -(M * ns.length) ≤ ns.sum ∧ ns.sum ≤ M * ns.length
  | [], M, _, _ => by simp
  | n :: ns, M, hM, h => by
    obtain ⟨h1, h2⟩ := sum_bound ns M hM fun z hz => h z (by simp [hz])
    have := h n (by simp)
    rw [List.sum_cons, List.length_cons]
    have e : M * ((ns.length + 1 : Nat) : Int) = M * (ns.length : Int) + M := by
      rw [Int.natCast_add, Int.mul_add]
      simp
    rw [e]
    omega
theorem sum_ok {ι : Type} {m : Nat} {t : Tg} {c : M Bool} {f : M S} {ρp : List S} {avs : List AV} {xs : List S} (emb : ι → D) (is : List ι) (keep : ι → Bool) (g : ι → Int)
    (hs : GPure m t c f ρp emb is keep (fun x => .int (g x))) (hb : ∀ x ∈ is, -1000000000000 ≤ g x ∧ g x ≤ 1000000000000) (hl : is.length ≤ 1000000) : genL m (fun _ => false) t c f finSum (is.map emb) avs xs ρp = .ok (.d (.int ((is.filter keep).map g).sum)) (lay ρp avs xs xs) := by
  obtain ⟨tr, ρ2, e, h1, h2⟩ := trS_ok is (List.replicate m .gone) (by simp) hs
  have hb' : ∀ z ∈ (is.filter keep).map g, -1000000000000 ≤ z ∧ z ≤ 1000000000000 := by
    intro z hz
    obtain ⟨x, hx, ex⟩ := List.mem_map.mp hz
    rw [← ex]
    exact hb x (List.mem_filter.mp hx).1
  have hl' : ((is.filter keep).map g).length ≤ 1000000 := by
    rw [List.length_map]
    exact Nat.le_trans (List.length_filter_le _ _) hl
  have h3 := sumV_ok tr _ 0 h1 (fun k hk => by
    have := sum_bound (((is.filter keep).map g).take k) 1000000000000 (by decide) fun z hz => hb' z (List.mem_of_mem_take hz)
    have hq : (((is.filter keep).map g).take k).length ≤ 1000000 := by rw [List.length_take]; omega
    unfold inL
    rw [decide_eq_true (by omega), decide_eq_true (by omega)]
    rfl) (fun z hz => by
    have := hb' z hz
    unfold inL
    rw [decide_eq_true (by omega), decide_eq_true (by omega)]
    rfl)
  unfold genL
  simp only [e, endR, finSum, Option.isSome_some, if_true, h3, Option.map_some, h2, Int.zero_add]
end DL
/-! reckoning with the mirrors: slices, best of a list, the law's loop -/
namespace DL
open PySem PySem.Spec PyProof.Rows L2 PySem.W
def ptK (s : S) : M (Option Int) := match s with
  | .d (.int i) => mpure (some i)
  | _ => mstuck
def slK (o : Option S) : M S := match o with
  | some z => mpure z
  | none => mstuck
theorem e_mSlice (f : M S) (lo hi : Option (M S)) (ρ : List S) : mSlice f lo hi ρ = rb (f ρ) fun s => mbind (mPart lo) fun i => mbind (mPart hi) fun j => slK (slD i j s) := (rfl)
theorem e_slK (z : S) (ρ : List S) : slK (some z) ρ = .ok z ρ := (rfl)
theorem e_part_n (ρ : List S) : mPart none ρ = .ok none ρ := (rfl)
theorem e_part_s (f : M S) (ρ : List S) : mPart (some f) ρ = rb (f ρ) ptK := (rfl)
theorem e_ptK (i : Int) (ρ : List S) : ptK (.d (.int i)) ρ = .ok (some i) ρ := (rfl)
theorem e_slD_l (lo hi : Option Int) (xs : List D) : slD lo hi (.l xs) = some (.l (cutD xs lo hi)) := (rfl)
theorem e_slD_dl (lo hi : Option Int) (xs : List D) : slD lo hi (.d (.lst xs)) = some (.l (cutD xs lo hi)) := (rfl)
theorem e_slD_dt (lo hi : Option Int) (xs : List D) : slD lo hi (.d (.tup xs)) = some (.d (.tup (cutD xs lo hi))) := (rfl)
theorem sIx_p (n d : Nat) (i : Int) (h : 0 ≤ i) : HT.sIx n d (some i) = min i.toNat n := by
  show (if i < 0 then (i + (n : Int)).toNat else min i.toNat n) = _
  rw [if_neg (by omega)]
theorem cut_to (xs : List D) (j : Int) (h : 0 ≤ j) : cutD xs none (some j) = xs.take j.toNat := by
  unfold cutD
  rw [sIx_p _ _ _ h]
  show (xs.drop 0).take (min j.toNat xs.length - 0) = _
  rw [List.drop_zero, Nat.sub_zero]
  by_cases hk : j.toNat ≤ xs.length
  · rw [Nat.min_eq_left hk]
  · rw [Nat.min_eq_right (by omega), List.take_length, List.take_of_length_le (by omega)]
theorem cut_from (xs : List D) (i : Int) (h : 0 ≤ i) : cutD xs (some i) none = xs.drop i.toNat := by
  unfold cutD
  rw [sIx_p _ _ _ h]
  show (xs.drop (min i.toNat xs.length)).take (xs.length - min i.toNat xs.length) = _
  rw [List.take_of_length_le (by simp)]
  by_cases hk : i.toNat ≤ xs.length
  · rw [Nat.min_eq_left hk]
  · rw [Nat.min_eq_right (by omega), List.drop_eq_nil_of_le (Nat.le_refl _), List.drop_eq_nil_of_le (by omega)]
theorem cut_last (xs : List D) : cutD xs none (some (-1)) = xs.dropLast := by
  unfold cutD
  have e : HT.sIx xs.length xs.length (some (-1)) = xs.length - 1 := by
    show (if (-1 : Int) < 0 then (-1 + (xs.length : Int)).toNat else min (-1 : Int).toNat xs.length) = _
    rw [if_pos (by decide)]
    omega
  rw [e]
  show (xs.drop 0).take (xs.length - 1 - 0) = _
  rw [List.drop_zero, Nat.sub_zero, List.dropLast_eq_take]
theorem e_clr_nil (ρ : List S) : clr [] ρ = ρ := (rfl)
theorem e_clr_cons (v : Nat) (vs : List Nat) (ρ : List S) : clr (v :: vs) ρ = (clr vs ρ).set v .gone := (rfl)
theorem e_rst_nil (ρ0 ρ : List S) : rst [] ρ0 ρ = ρ := (rfl)
theorem e_rst_cons (v : Nat) (vs : List Nat) (ρ0 ρ : List S) : rst (v :: vs) ρ0 ρ = rst vs ρ0 (ρ.set v ((clr vs ρ0)[v]?.getD .gone)) := (rfl)
/-- a comprehension over one item -/
theorem comp_one {vs : List Nat} {as : List Arg} {io : List S → Option (List D)} {t : Tg} {c : M Bool} {f : M S} {ρ ρa ρp ρ1 ρ2 ρ3 ρ' : List S} {avs : List AV} {xs : List S} {x : D} {s : S}
    (ha : mArgs as ρ = .ok avs ρa) (hg : grab ρa avs = some (xs, ρp)) (hi : io xs = some [x]) (h1 : asgT t (.d x) (clr vs ρp) = some ρ1) (h2 : c ρ1 = .ok true ρ2) (h3 : f ρ2 = .ok s ρ3)
    (hr : lay (rst vs ρp (clr vs ρ3)) avs xs xs = ρ') : mComp vs as io t c f ρ = .ok (lsN [s]) ρ' := by
  unfold mComp mbind
  simp only [ha, hg, hi, compL, h1, h2, h3, if_true, List.length_cons, List.length_nil, List.nil_append]
  rw [← hr]
  rfl
/-! ### for dice in _law_rounds(script, 1) -/
theorem e_bForO (f : M S) (i : Nat) (body : B) (ρ : List S) : bForO f i body ρ = db (f ρ) fun s ρ => match s with
  | .ls xs => forO i body xs ρ
  | .l xs => forO i body (xs.map .d) ρ
  | _ => .stuck := (rfl)
theorem forO_one (i : Nat) (body : B) (s : S) (ρ ρ2 : List S) (hi : i < ρ.length) (h : body (ρ.set i s) = .nx ρ2) : forO i body [s] ρ = .nx ρ2 := by
  simp only [forO, hi, if_true, h]
/-! ### the greatest, the least of ints -/
theorem bestD_int (lt : PyData → PyData → Bool) (f : Int → Int → Int) (h : ∀ a y, (if lt (.int a) (.int y) then y else a) = f a y) : ∀ (xs : List Int) (x : Int), bestD lt (.int x) (xs.map .int) = .int (xs.foldl f x)
  | [], x => rfl
  | y :: xs, x => by
    show (xs.map D.int).foldl _ (if lt (py (.int x)) (py (.int y)) then D.int y else .int x) = _
    have : (if lt (py (.int x)) (py (.int y)) then D.int y else .int x) = .int (f x y) := by
      rw [← h x y]
      show (if lt (.int x) (.int y) then D.int y else .int x) = .int (if lt (.int x) (.int y) then y else x)
      split <;> rfl
    rw [this]
    exact bestD_int lt f h xs (f x y)
def maxL : List Int → Int
  | [] => 0
  | x :: xs => xs.foldl max x
def minL : List Int → Int
  | [] => 0
  | x :: xs => xs.foldl min x
theorem foldl_max : ∀ (xs : List Int) (x : Int), (x ≤ xs.foldl max x ∧ ∀ y ∈ xs, y ≤ xs.foldl max x) ∧ (xs.foldl max x = x ∨ xs.foldl max x ∈ xs)
  | [], x => ⟨⟨Int.le_refl _, by simp⟩, .inl rfl⟩
  | y :: xs, x => by
    obtain ⟨⟨h1, h2⟩, h3⟩ := foldl_max xs (max x y)
    rw [List.foldl_cons]
    refine ⟨⟨by omega, fun z hz => ?_⟩, ?_⟩
    · rcases List.mem_cons.mp hz with e | hz
      · subst e; omega
      · exact h2 z hz
    · rcases h3 with h3 | h3
      · rw [h3]
        by_cases hm : x ≤ y
        · right; rw [Int.max_eq_right hm]; simp
        · left; exact Int.max_eq_left (by omega)
      · right; exact List.mem_cons_of_mem _ h3
theorem foldl_min : ∀ (xs : List Int) (x : Int), (xs.foldl min x ≤ x ∧ ∀ y ∈ xs, xs.foldl min x ≤ y) ∧ (xs.foldl min x = x ∨ xs.foldl min x ∈ xs)
  | [], x => ⟨⟨Int.le_refl _, by simp⟩, .inl rfl⟩
  | y :: xs, x => by
    obtain ⟨⟨h1, h2⟩, h3⟩ := foldl_min xs (min x y)
    rw [List.foldl_cons]
    refine ⟨⟨by omega, fun z hz => ?_⟩, ?_⟩
    · rcases List.mem_cons.mp hz with e | hz
      · subst e; omega
      · exact h2 z hz
    · rcases h3 with h3 | h3
      · rw [h3]
        by_cases hm : x ≤ y
        · left; exact Int.min_eq_left hm
        · right; rw [Int.min_eq_right (by omega)]; simp
      · right; exact List.mem_cons_of_mem _ h3
theorem maxL_ge {xs : List Int} {y : Int} (h : y ∈ xs) : y ≤ maxL xs := by
  cases xs with
  | nil => simp at h
  | cons x xs =>
    rcases List.mem_cons.mp h with e | h
    · subst e; exact (foldl_max xs y).1.1
    · exact (foldl_max xs x).1.2 y h
theorem maxL_mem {xs : List Int} (h : xs ≠ []) : maxL xs ∈ xs := by
  cases xs with
  | nil => exact absurd rfl h
  | cons x xs =>
    rcases (foldl_max xs x).2 with e | e
    · show xs.foldl max x ∈ x :: xs
      rw [e]; simp
    · exact List.mem_cons_of_mem _ e
theorem minL_le {xs : List Int} {y : Int} (h : y ∈ xs) : minL xs ≤ y := by
  cases xs with
  | nil => simp at h
  | cons x xs =>
    rcases List.mem_cons.mp h with e | h
    · subst e; exact (foldl_min xs y).1.1
    · exact (foldl_min xs x).1.2 y h
theorem minL_mem {xs : List Int} (h : xs ≠ []) : minL xs ∈ xs := by
  cases xs with
  | nil => exact absurd rfl h
  | cons x xs =>
    rcases (foldl_min xs x).2 with e | e
    · show xs.foldl min x ∈ x :: xs
      rw [e]; simp
    · exact List.mem_cons_of_mem _ e
theorem minL_eq {xs : List Int} {y : Int} (h : y ∈ xs) (hl : ∀ z ∈ xs, y ≤ z) : minL xs = y := by
  have h1 := minL_le h
  have h2 := hl _ (minL_mem (List.ne_nil_of_mem h))
  omega
theorem maxL_eq {xs : List Int} {y : Int} (h : y ∈ xs) (hl : ∀ z ∈ xs, z ≤ y) : maxL xs = y := by
  have h1 := maxL_ge h
  have h2 := hl _ (maxL_mem (List.ne_nil_of_mem h))
  omega
theorem alikeB_int : ∀ xs : List Int, alikeB (xs.map .int) = true := fun xs => by
  unfold alikeB
  simp [List.all_eq_true, alike]
theorem opMax_ints (s : S) (xs : List Int) (h : seqS s = some (xs.map .int)) (hn : xs ≠ []) : opMax [s] = .ok (.d (.int (maxL xs))) [s] := by
  cases xs with
  | nil => exact absurd rfl hn
  | cons x xs =>
    have e := dPys_int (x :: xs)
    rw [List.map_cons] at e h
    unfold opMax opBest
    simp only [h, e]
    have a := alikeB_int (x :: xs)
    have b := depth_int (x :: xs)
    rw [a, b, bestD_int dataLt max (fun a y => by rw [dataLt_int]; by_cases hq : a < y <;> simp [hq] <;> omega)]
    rfl
theorem opMin_ints (s : S) (xs : List Int) (h : seqS s = some (xs.map .int)) (hn : xs ≠ []) : opMin [s] = .ok (.d (.int (minL xs))) [s] := by
  cases xs with
  | nil => exact absurd rfl hn
  | cons x xs =>
    have e := dPys_int (x :: xs)
    rw [List.map_cons] at e h
    unfold opMin opBest
    simp only [h, e]
    have a := alikeB_int (x :: xs)
    have b := depth_int (x :: xs)
    rw [a, b, bestD_int (fun a y => dataLt y a) min (fun a y => by rw [dataLt_int]; by_cases hq : y < a <;> simp [hq] <;> omega)]
    rfl
/-! ### lists of ints by place -/
theorem nth_get {ns : List Int} {i : Int} (h : 0 ≤ i ∧ i < ns.length) : ns[i.toNat]? = some (nth ns i) := by
  have : i.toNat < ns.length := by omega
  simp [nth, List.getD, this]
theorem nth_eq {ns : List Int} {i : Int} {v : Int} (h : ns[i.toNat]? = some v) : nth ns i = v := by
  simp [nth, List.getD, h]
theorem nth_map (f : Int → Int) {ns : List Int} {i : Int} (h : 0 ≤ i ∧ i < ns.length) : nth (ns.map f) i = f (nth ns i) := by
  apply nth_eq
  rw [List.getElem?_map, nth_get h]
  rfl
theorem nth_rgI {lo : Int} {n : Nat} {i : Int} (h : 0 ≤ i ∧ i < n) : nth (rgI lo n) i = lo + i := by
  apply nth_eq
  unfold rgI
  have : i.toNat < n := by omega
  simp [this]
  omega
theorem nth_rev {ns : List Int} {i : Int} (h : 0 ≤ i ∧ i < ns.length) : nth ns.reverse i = nth ns (ns.length - 1 - i) := by
  apply nth_eq
  have h1 : i.toNat < ns.length := by omega
  have h2 : (ns.length - 1 - i.toNat) = ((ns.length : Int) - 1 - i).toNat := by omega
  rw [List.getElem?_reverse h1, h2]
  exact nth_get (by omega)
theorem nth_appL {xs ys : List Int} {i : Int} (h : 0 ≤ i ∧ i < xs.length) : nth (xs ++ ys) i = nth xs i := by
  apply nth_eq
  rw [List.getElem?_append_left (by omega)]
  exact nth_get h
theorem nth_appR {xs ys : List Int} {i : Int} (h : xs.length ≤ i) : nth (xs ++ ys) i = nth ys (i - xs.length) := by
  have e : i.toNat - xs.length = (i - (xs.length : Int)).toNat := by omega
  simp only [nth, List.getD]
  rw [List.getElem?_append_right (by omega), e]
theorem nth_0 (x : Int) (xs : List Int) : nth (x :: xs) 0 = x := rfl
theorem nth_s (x : Int) (xs : List Int) {i : Int} (h : 0 < i) : nth (x :: xs) i = nth xs (i - 1) := by
  have e : i.toNat = (i - 1).toNat + 1 := by omega
  simp only [nth, List.getD, e, List.getElem?_cons_succ]
theorem nth_mem {ns : List Int} {i : Int} (h : 0 ≤ i ∧ i < ns.length) : nth ns i ∈ ns := List.mem_of_getElem? (nth_get h)
theorem mem_nth {ns : List Int} {v : Int} (h : v ∈ ns) : ∃ i : Int, (0 ≤ i ∧ i < ns.length) ∧ nth ns i = v := by
  obtain ⟨j, hj, e⟩ := List.getElem_of_mem h
  refine ⟨j, by omega, nth_eq ?_⟩
  rw [Int.toNat_natCast, List.getElem?_eq_getElem hj, e]
theorem nth_ext {xs ys : List Int} (hl : xs.length = ys.length) (h : ∀ i : Int, 0 ≤ i → i < xs.length → nth xs i = nth ys i) : xs = ys := by
  apply List.ext_getElem? fun j => ?_
  by_cases hj : j < xs.length
  · have h1 := nth_get (ns := xs) (i := j) (by omega)
    have h2 := nth_get (ns := ys) (i := j) (by omega)
    rw [Int.toNat_natCast] at h1 h2
    rw [h1, h2, h j (by omega) (by omega)]
  · rw [List.getElem?_eq_none (by omega), List.getElem?_eq_none (by omega)]
theorem map_int_map {ι : Type} (is : List ι) (g : ι → Int) : is.map (fun x => D.int (g x)) = (is.map g).map D.int := by
  rw [List.map_map]
  rfl
theorem fltT {ι : Type} (is : List ι) : is.filter (fun _ => true) = is := List.filter_eq_self.mpr fun _ _ => rfl
theorem rev_int (ns : List Int) : (ns.map D.int).reverse = ns.reverse.map D.int := List.map_reverse.symm
/-! ### index -/
def idx (ns : List Int) (v : Int) : Nat := ns.findIdx (fun z => z == v)
theorem opIdx_ints (s : S) (ns : List Int) (v : Int) (hs : sPy s = some (.list (ns.map .int))) (h : v ∈ ns) : opIdx [s, .d (.int v)] = .ok (.d (.int (idx ns v))) [s, .d (.int v)] := by
  have e : (ns.map PyData.int).findIdx? (fun z => PyData.eqv z (.int v)) = some (idx ns v) := by
    rw [List.findIdx?_map]
    have h1 : (fun z => PyData.eqv z (.int v)) ∘ PyData.int = fun z => z == v := by
      funext z
      simp [PyData.eqv]
    rw [h1]
    exact List.findIdx?_eq_some_of_exists ⟨v, h, by simp⟩
  have e2 : sPy (.d (.int v)) = some (.int v) := rfl
  simp only [opIdx, hs, e2, shaped_ints ns, shaped_int v, and_self, if_true, e]
theorem sPy_l (ns : List Int) : sPy (.l (ns.map .int)) = some (.list (ns.map .int)) := by
  simp only [sPy, dPys_int]
  rfl
theorem sPy_dl (ns : List Int) : sPy (.d (.lst (ns.map .int))) = some (.list (ns.map .int)) := by
  simp only [sPy, dPy, dPys_int]
  rfl
/-! ### ranges by steps -/
def rgS (i c : Int) (n : Nat) : List Int := (List.range n).map fun (k : Nat) => i + (k : Int) * c
theorem rgS_length (i c : Int) (n : Nat) : (rgS i c n).length = n := by simp [rgS]
theorem e_ioR3 (i j c : Int) (hc : 0 < c ∧ c < 1073741824) (hi : -1000000000000 ≤ i ∧ i < 1000000000000) (hj : -1000000000000 ≤ j ∧ j < 1000000000000) : ioR3 [.d (.int i), .d (.int j), .d (.int c)] = some ((rgS i c (Builtin.Range.rangeSize i j c).toNat).map .int) := by
  have h1 : 0 ≤ Builtin.Range.rangeSize i j c := by
    unfold Builtin.Range.rangeSize
    rw [if_pos (by omega)]
    split
    · have := Int.ediv_nonneg (show 0 ≤ j - i - 1 by omega) (show 0 ≤ c by omega)
      omega
    · omega
  have h2 : Builtin.Range.small i j c = true := by
    have hs : Builtin.Range.rangeSize i j c ≤ 2000000000000 := by
      unfold Builtin.Range.rangeSize
      rw [if_pos (by omega)]
      split
      · have h5 : (j - i - 1) / c ≤ j - i - 1 := Int.ediv_le_self _ (by omega)
        omega
      · omega
    have ft : ∀ x : Int, -4000000000000 ≤ x → x ≤ 4000000000000 → Builtin.Range.rangeFitsLong x = true := fun x a b => by
      simp [Builtin.Range.rangeFitsLong]
      omega
    unfold Builtin.Range.small
    rw [ft i (by omega) (by omega), ft j (by omega) (by omega), ft c (by omega) (by omega), ft _ (by omega) (by omega), if_pos (by omega), ft _ (by omega) (by omega)]
    simp
  have h3 : decide (c ≠ 0) = true := decide_eq_true (by omega)
  have h4 : decide (c.natAbs < 1073741824) = true := decide_eq_true (by omega)
  simp only [ioR3, h2, h3, h4, decide_eq_true h1, Bool.and_self, if_true, rgS, List.map_map]
  rfl
/-! ### pairs of ints -/
def pD (p : Int × Int) : D := .tup [.int p.1, .int p.2]
def nthP (ps : List (Int × Int)) (i : Int) : Int × Int := ps.getD i.toNat (0, 0)
theorem nthP_get {ps : List (Int × Int)} {i : Int} (h : 0 ≤ i ∧ i < ps.length) : ps[i.toNat]? = some (nthP ps i) := by
  have : i.toNat < ps.length := by omega
  simp [nthP, List.getD, this]
theorem nthP_eq {ps : List (Int × Int)} {i : Int} {v : Int × Int} (h : ps[i.toNat]? = some v) : nthP ps i = v := by
  simp [nthP, List.getD, h]
theorem atI_pair (ps : List (Int × Int)) (i : Int) (h : 0 ≤ i ∧ i < ps.length) : atI (ps.map pD) i = some (.tup [.int (nthP ps i).1, .int (nthP ps i).2]) := by
  rw [atI_mapD, atI_pos _ _ h, nthP_get h]
  rfl
theorem atI_pair_last (ps : List (Int × Int)) (h : 0 < ps.length) : atI (ps.map pD) (-1) = some (.tup [.int (nthP ps (ps.length - 1)).1, .int (nthP ps (ps.length - 1)).2]) := by
  rw [atI_mapD, atI_neg _ _ (by omega)]
  have h1 : (-1 + (ps.length : Int)).toNat = ((ps.length : Int) - 1).toNat := by omega
  rw [h1, nthP_get (by omega)]
  rfl
theorem nthP_map (f : Int × Int → Int × Int) {ps : List (Int × Int)} {i : Int} (h : 0 ≤ i ∧ i < ps.length) : nthP (ps.map f) i = f (nthP ps i) := by
  apply nthP_eq
  rw [List.getElem?_map, nthP_get h]
  rfl
theorem nth_mapP (f : Int × Int → Int) {ps : List (Int × Int)} {i : Int} (h : 0 ≤ i ∧ i < ps.length) : nth (ps.map f) i = f (nthP ps i) := by
  apply nth_eq
  rw [List.getElem?_map, nthP_get h]
  rfl
theorem nthP_appL {xs ys : List (Int × Int)} {i : Int} (h : 0 ≤ i ∧ i < xs.length) : nthP (xs ++ ys) i = nthP xs i := by
  apply nthP_eq
  rw [List.getElem?_append_left (by omega)]
  exact nthP_get h
theorem nthP_appR {xs ys : List (Int × Int)} {i : Int} (h : xs.length ≤ i) : nthP (xs ++ ys) i = nthP ys (i - xs.length) := by
  have e : i.toNat - xs.length = (i - (xs.length : Int)).toNat := by omega
  simp only [nthP, List.getD]
  rw [List.getElem?_append_right (by omega), e]
theorem nthP_0 (x : Int × Int) (xs : List (Int × Int)) : nthP (x :: xs) 0 = x := rfl
theorem nthP_mem {ps : List (Int × Int)} {i : Int} (h : 0 ≤ i ∧ i < ps.length) : nthP ps i ∈ ps := List.mem_of_getElem? (nthP_get h)
theorem mem_nthP {ps : List (Int × Int)} {v : Int × Int} (h : v ∈ ps) : ∃ i : Int, (0 ≤ i ∧ i < ps.length) ∧ nthP ps i = v := by
  obtain ⟨j, hj, e⟩ := List.getElem_of_mem h
  refine ⟨j, by omega, nthP_eq ?_⟩
  rw [Int.toNat_natCast, List.getElem?_eq_getElem hj, e]
theorem extP {xs ys : List (Int × Int)} (hl : xs.length = ys.length) (h : ∀ i : Int, 0 ≤ i → i < xs.length → nthP xs i = nthP ys i) : xs = ys := by
  apply List.ext_getElem? fun j => ?_
  by_cases hj : j < xs.length
  · have h1 := nthP_get (ps := xs) (i := j) (by omega)
    have h2 := nthP_get (ps := ys) (i := j) (by omega)
    rw [Int.toNat_natCast] at h1 h2
    rw [h1, h2, h j (by omega) (by omega)]
  · rw [List.getElem?_eq_none (by omega), List.getElem?_eq_none (by omega)]
theorem comp_okP {ι : Type} {vs : List Nat} {t : Tg} {c : M Bool} {f : M S} {ρp : List S} {avs : List AV} {xs : List S} (emb : ι → D) (is : List ι) (keep : ι → Bool) (g : ι → Int × Int) (ρ0 : List S) (h0 : clr vs ρp = ρ0) (hl : is.length ≤ 100000)
    (hs : CPure vs t c f ρ0 emb is keep fun x => pD (g x)) : compE vs t c f (is.map emb) avs xs ρp = .ok (.l (((is.filter keep).map g).map pD)) (lay (rst vs ρp ρ0) avs xs xs) := by
  rw [comp_ok emb is keep (fun x => pD (g x)) ρ0 h0 hl hs, List.map_map]
  rfl
theorem comp_allP {ι : Type} {vs : List Nat} {t : Tg} {f : M S} {ρp : List S} {avs : List AV} {xs : List S} (emb : ι → D) (is : List ι) (g : ι → Int × Int) (ρ0 : List S) (h0 : clr vs ρp = ρ0) (hl : is.length ≤ 100000)
    (hs : ∀ x ∈ is, ∃ ρ1, asgT t (.d (emb x)) ρ0 = some ρ1 ∧ ∃ ρ3, f ρ1 = .ok (.d (pD (g x))) ρ3 ∧ clr vs ρ3 = ρ0) : compE vs t (mpure true) f (is.map emb) avs xs ρp = .ok (.l ((is.map g).map pD)) (lay (rst vs ρp ρ0) avs xs xs) := by
  rw [comp_all emb is (fun x => pD (g x)) ρ0 h0 hl hs, List.map_map]
  rfl
/-! ### parts of ranges -/
theorem rgI_app (lo : Int) (n m : Nat) : rgI lo (n + m) = rgI lo n ++ rgI (lo + n) m := by
  unfold rgI
  rw [List.range_add, List.map_append, List.map_map]
  congr 1
  apply List.map_congr_left
  intro k _
  simp
  omega
theorem filt_len (lo a b : Int) (n : Nat) (p : Int → Bool) (h1 : lo ≤ a) (h2 : a ≤ b) (h3 : b ≤ lo + n) (hp : ∀ x, lo ≤ x → x < lo + n → p x = decide (a ≤ x ∧ x < b)) : ((rgI lo n).filter p).length = (b - a).toNat := by
  have e : n = (a - lo).toNat + ((b - a).toNat + (lo + n - b).toNat) := by omega
  have e1 : lo + ((a - lo).toNat : Int) = a := by omega
  have e2 : a + ((b - a).toNat : Int) = b := by omega
  rw [e, rgI_app, rgI_app, e1, e2, List.filter_append, List.filter_append]
  have z1 : (rgI lo (a - lo).toNat).filter p = [] := List.filter_eq_nil_iff.mpr fun x hx => by
    have := mem_rgI.mp hx
    rw [hp x (by omega) (by omega)]
    simp
    omega
  have z2 : (rgI a (b - a).toNat).filter p = rgI a (b - a).toNat := List.filter_eq_self.mpr fun x hx => by
    have := mem_rgI.mp hx
    rw [hp x (by omega) (by omega)]
    simp
    omega
  have z3 : (rgI b (lo + n - b).toNat).filter p = [] := List.filter_eq_nil_iff.mpr fun x hx => by
    have := mem_rgI.mp hx
    rw [hp x (by omega) (by omega)]
    simp
    omega
  rw [z1, z2, z3]
  simp [rgI_length]
/-! ### the greatest, the least of pairs -/
def pP (p : Int × Int) : PyData := .tuple [.int p.1, .int p.2]
theorem dPys_pair : ∀ ps : List (Int × Int), dPys (ps.map pD) = some (ps.map pP)
  | [] => rfl
  | p :: ps => by simp only [List.map_cons, dPys, pD, dPy, dPys_pair ps, Option.map_some, pP]
theorem lay_pair : ∀ ps : List (Int × Int), PyData.canLayAll0 (ps.map pP) = true
  | [] => rfl
  | p :: ps => by simp only [List.map_cons, PyData.canLayAll0, pP, PyData.canLay0, lay_pair ps, Bool.and_self]
theorem depth_pair : ∀ ps : List (Int × Int), PyData.depthAll (ps.map pP) ≤ 1
  | [] => by simp [PyData.depthAll]
  | p :: ps => by
    have := depth_pair ps
    simp only [List.map_cons, PyData.depthAll, pP, PyData.depth]
    omega
def ltP (a b : Int × Int) : Bool := decide (a.1 < b.1 ∨ (a.1 = b.1 ∧ a.2 < b.2))
def maxP : List (Int × Int) → Int × Int
  | [] => (0, 0)
  | x :: xs => xs.foldl (fun a y => if ltP a y then y else a) x
def minP : List (Int × Int) → Int × Int
  | [] => (0, 0)
  | x :: xs => xs.foldl (fun a y => if ltP y a then y else a) x
theorem foldP (lt : Int × Int → Int × Int → Bool) (tr : ∀ a b c, lt b a = false → lt c b = false → lt c a = false) (as : ∀ a b, lt a b = true → lt b a = false) : ∀ (xs : List (Int × Int)) (x : Int × Int),
    (lt (xs.foldl (fun a y => if lt a y then y else a) x) x = false ∧ ∀ y ∈ xs, lt (xs.foldl (fun a y => if lt a y then y else a) x) y = false) ∧ (xs.foldl (fun a y => if lt a y then y else a) x = x ∨ xs.foldl (fun a y => if lt a y then y else a) x ∈ xs)
  | [], x => ⟨⟨by
      show lt x x = false
      cases h : lt x x with
      | false => rfl
      | true => exact absurd (as x x h) (by rw [h]; decide), by simp⟩, .inl rfl⟩
  | y :: xs, x => by
    rw [List.foldl_cons]
    by_cases h : lt x y = true
    · rw [if_pos h]
      obtain ⟨⟨h1, h2⟩, h3⟩ := foldP lt tr as xs y
      refine ⟨⟨tr _ _ _ (as x y h) h1, fun z hz => ?_⟩, ?_⟩
      · rcases List.mem_cons.mp hz with e | hz
        · subst e; exact h1
        · exact h2 z hz
      · rcases h3 with h3 | h3
        · right; rw [h3]; simp
        · right; exact List.mem_cons_of_mem _ h3
    · have h' : lt x y = false := by simpa using h
      rw [if_neg h]
      obtain ⟨⟨h1, h2⟩, h3⟩ := foldP lt tr as xs x
      refine ⟨⟨h1, fun z hz => ?_⟩, ?_⟩
      · rcases List.mem_cons.mp hz with e | hz
        · subst e; exact tr _ _ _ h' h1
        · exact h2 z hz
      · rcases h3 with h3 | h3
        · left; exact h3
        · right; exact List.mem_cons_of_mem _ h3
theorem maxP_mem {xs : List (Int × Int)} (h : xs ≠ []) : maxP xs ∈ xs := by
  cases xs with
  | nil => exact absurd rfl h
  | cons x xs =>
    rcases (foldP ltP (fun a b c h1 h2 => by simp [ltP] at *; omega) (fun a b h => by simp [ltP] at *; omega) xs x).2 with e | e
    · show xs.foldl _ x ∈ x :: xs
      rw [e]; simp
    · exact List.mem_cons_of_mem _ e
theorem maxP_ge {xs : List (Int × Int)} {y : Int × Int} (h : y ∈ xs) : y.1 ≤ (maxP xs).1 := by
  cases xs with
  | nil => simp at h
  | cons x xs =>
    have k := (foldP ltP (fun a b c h1 h2 => by simp [ltP] at *; omega) (fun a b h => by simp [ltP] at *; omega) xs x).1
    have : ltP (maxP (x :: xs)) y = false := by
      rcases List.mem_cons.mp h with e | h
      · subst e; exact k.1
      · exact k.2 y h
    simp [ltP] at this
    omega
theorem minP_mem {xs : List (Int × Int)} (h : xs ≠ []) : minP xs ∈ xs := by
  cases xs with
  | nil => exact absurd rfl h
  | cons x xs =>
    rcases (foldP (fun a b => ltP b a) (fun a b c h1 h2 => by simp [ltP] at *; omega) (fun a b h => by simp [ltP] at *; omega) xs x).2 with e | e
    · show xs.foldl _ x ∈ x :: xs
      rw [e]; simp
    · exact List.mem_cons_of_mem _ e
theorem minP_le {xs : List (Int × Int)} {y : Int × Int} (h : y ∈ xs) : (minP xs).1 ≤ y.1 := by
  cases xs with
  | nil => simp at h
  | cons x xs =>
    have k := (foldP (fun a b => ltP b a) (fun a b c h1 h2 => by simp [ltP] at *; omega) (fun a b h => by simp [ltP] at *; omega) xs x).1
    have : ltP y (minP (x :: xs)) = false := by
      rcases List.mem_cons.mp h with e | h
      · subst e; exact k.1
      · exact k.2 y h
    simp [ltP] at this
    omega
theorem bestD_pair (lt : PyData → PyData → Bool) (l : Int × Int → Int × Int → Bool) (h : ∀ a y, lt (pP a) (pP y) = l a y) : ∀ (xs : List (Int × Int)) (x : Int × Int), bestD lt (pD x) (xs.map pD) = pD (xs.foldl (fun a y => if l a y then y else a) x)
  | [], x => rfl
  | y :: xs, x => by
    show (xs.map pD).foldl _ (if lt (py (pD x)) (py (pD y)) then pD y else pD x) = _
    have : (if lt (py (pD x)) (py (pD y)) then pD y else pD x) = pD (if l x y then y else x) := by
      have e : lt (py (pD x)) (py (pD y)) = l x y := h x y
      rw [e]
      split <;> rfl
    rw [this]
    exact bestD_pair lt l h xs _
theorem alikeB_pair (xs : List (Int × Int)) : alikeB (xs.map pP) = true := by
  unfold alikeB
  simp [List.all_eq_true, pP, alike, alikeAll]
theorem opMax_pairs (s : S) (xs : List (Int × Int)) (h : seqS s = some (xs.map pD)) (hn : xs ≠ []) : opMax [s] = .ok (.d (.tup [.int (maxP xs).1, .int (maxP xs).2])) [s] := by
  cases xs with
  | nil => exact absurd rfl hn
  | cons x xs =>
    have e := dPys_pair (x :: xs)
    rw [List.map_cons] at e h
    unfold opMax opBest
    simp only [h, e]
    have a := alikeB_pair (x :: xs)
    have b := depth_pair (x :: xs)
    rw [a, decide_eq_true (show PyData.depthAll ((x :: xs).map pP) ≤ 64 by omega), bestD_pair dataLt ltP fun a y => dataLt_ii _ _ _ _]
    rfl
theorem opMin_pairs (s : S) (xs : List (Int × Int)) (h : seqS s = some (xs.map pD)) (hn : xs ≠ []) : opMin [s] = .ok (.d (.tup [.int (minP xs).1, .int (minP xs).2])) [s] := by
  cases xs with
  | nil => exact absurd rfl hn
  | cons x xs =>
    have e := dPys_pair (x :: xs)
    rw [List.map_cons] at e h
    unfold opMin opBest
    simp only [h, e]
    have a := alikeB_pair (x :: xs)
    have b := depth_pair (x :: xs)
    rw [a, decide_eq_true (show PyData.depthAll ((x :: xs).map pP) ≤ 64 by omega), bestD_pair (fun a y => dataLt y a) (fun a y => ltP y a) fun a y => dataLt_ii _ _ _ _]
    rfl
/-! ### zip -/
def qD (q : (Int × Int) × (Int × Int)) : D := .tup [pD q.1, pD q.2]
theorem e_ioZ_P (P Q : List (Int × Int)) : ioZ [.d (.lst (P.map pD)), .l (Q.map pD)] = some ((P.zip Q).map qD) := by
  show some (((P.map pD).zip (Q.map pD)).map fun p => D.tup [p.1, p.2]) = _
  rw [List.zip_map, List.map_map]
  rfl
theorem take_snoc {α : Type} {l : List α} {i : Nat} {x : α} (h : l[i]? = some x) : l.take (i + 1) = l.take i ++ [x] := by
  rw [List.take_add_one, h]
  rfl
end DL
/-! reckoning with the mirrors: sorted, sums, pops, items changed -/
namespace DL
open PySem PySem.Spec PyProof.Rows L2 PySem.W
/-! ### sorted -/
def up (ns : List Int) : List Int := ns.mergeSort fun a b => decide (a ≤ b)
def dn (ns : List Int) : List Int := ns.mergeSort fun a b => decide (b ≤ a)
theorem up_perm (ns : List Int) : (up ns).Perm ns := List.mergeSort_perm _ _
theorem dn_perm (ns : List Int) : (dn ns).Perm ns := List.mergeSort_perm _ _
theorem up_length (ns : List Int) : (up ns).length = ns.length := (up_perm ns).length_eq
theorem dn_length (ns : List Int) : (dn ns).length = ns.length := (dn_perm ns).length_eq
theorem up_pw (ns : List Int) : (up ns).Pairwise (· ≤ ·) := by
  have := List.pairwise_mergeSort (le := fun a b : Int => decide (a ≤ b)) (fun a b c => by simp; omega) (fun a b => by simp; omega) ns
  exact this.imp fun h => by simpa using h
theorem dn_pw (ns : List Int) : (dn ns).Pairwise (· ≥ ·) := by
  have := List.pairwise_mergeSort (le := fun a b : Int => decide (b ≤ a)) (fun a b c => by simp; omega) (fun a b => by simp; omega) ns
  exact this.imp fun h => by simpa using h
theorem pw_unique {r : Int → Int → Prop} (as : ∀ a b, r a b → r b a → a = b) : ∀ {xs ys : List Int}, xs.Perm ys → xs.Pairwise r → ys.Pairwise r → xs = ys
  | [], ys, p, _, _ => (List.nil_perm.mp p).symm
  | x :: xs, [], p, _, _ => by simp at p
  | x :: xs, y :: ys, p, h1, h2 => by
    obtain ⟨a1, a2⟩ := List.pairwise_cons.mp h1
    obtain ⟨b1, b2⟩ := List.pairwise_cons.mp h2
    have e : x = y := by
      have hx : x ∈ y :: ys := p.mem_iff.mp (by simp)
      have hy : y ∈ x :: xs := p.mem_iff.mpr (by simp)
      rcases List.mem_cons.mp hx with e | hx
      · exact e
      · rcases List.mem_cons.mp hy with e | hy
        · exact e.symm
        · exact as x y (a1 y hy) (b1 x hx)
    subst e
    rw [pw_unique as ((List.perm_cons x).mp p) a2 b2]
theorem up_unique {xs ns : List Int} (p : xs.Perm ns) (h : xs.Pairwise (· ≤ ·)) : up ns = xs :=
  pw_unique (r := (· ≤ ·)) (fun a b h1 h2 => Int.le_antisymm h1 h2) ((up_perm ns).trans p.symm) (up_pw ns) h
theorem dn_unique {xs ns : List Int} (p : xs.Perm ns) (h : xs.Pairwise (· ≥ ·)) : dn ns = xs :=
  pw_unique (r := (· ≥ ·)) (fun a b h1 h2 => Int.le_antisymm h2 h1) ((dn_perm ns).trans p.symm) (dn_pw ns) h
theorem up_congr {xs ns : List Int} (p : xs.Perm ns) : up xs = up ns := up_unique ((up_perm ns).trans p.symm) (up_pw ns)
theorem dn_up (ns : List Int) : dn ns = (up ns).reverse := dn_unique ((List.reverse_perm _).trans (up_perm ns)) (by
  rw [List.pairwise_reverse]
  exact up_pw ns)
theorem pw_nth {r : Int → Int → Prop} {xs : List Int} (h : xs.Pairwise r) {i j : Int} (h0 : 0 ≤ i) (h1 : i < j) (h2 : j < xs.length) : r (nth xs i) (nth xs j) := by
  have a := nth_get (ns := xs) (i := i) (by omega)
  have b := nth_get (ns := xs) (i := j) (by omega)
  rw [List.pairwise_iff_getElem] at h
  obtain ⟨p1, e1⟩ := List.getElem?_eq_some_iff.mp a
  obtain ⟨p2, e2⟩ := List.getElem?_eq_some_iff.mp b
  rw [← e1, ← e2]
  exact h _ _ p1 p2 (by omega)
theorem nth_pw {r : Int → Int → Prop} {xs : List Int} (h : ∀ i j : Int, 0 ≤ i → i < j → j < xs.length → r (nth xs i) (nth xs j)) : xs.Pairwise r := by
  rw [List.pairwise_iff_getElem]
  intro i j p1 p2 hij
  have a := nth_eq (ns := xs) (i := i) (v := xs[i]) (by simp)
  have b := nth_eq (ns := xs) (i := j) (v := xs[j]) (by simp)
  rw [← a, ← b]
  exact h i j (by omega) (by omega) (by omega)
theorem alB_ints (xs : List Int) : alB (xs.map .int) = true := by
  unfold alB
  simp [List.all_eq_true, alike]
theorem srtB_ints (xs : List Int) : srtB (xs.map .int) = true := by
  unfold srtB
  rw [alB_ints]
  simp [noTc, PyData.depth]
theorem opSorted_ints (rev : Bool) (s : S) (xs : List Int) (h : seqS s = some (xs.map .int)) : opSorted rev [s] = .ok (.l ((if rev then dn xs else up xs).map .int)) [s] := by
  have e : (xs.map D.int).mergeSort (leD rev) = (if rev then dn xs else up xs).map D.int := by
    cases rev with
    | false =>
      show _ = (up xs).map D.int
      unfold up
      rw [List.map_mergeSort (s := leD false) (fun a _ b _ => by
        show decide (a ≤ b) = dataLe false py (.int a) (.int b)
        rw [dataLe_eq]
        show decide (a ≤ b) = !dataLt (.int b) (.int a)
        rw [dataLt_int]
        by_cases hq : a ≤ b <;> simp [hq] <;> omega)]
    | true =>
      show _ = (dn xs).map D.int
      unfold dn
      rw [List.map_mergeSort (s := leD true) (fun a _ b _ => by
        show decide (b ≤ a) = dataLe true py (.int a) (.int b)
        rw [dataLe_eq]
        show decide (b ≤ a) = !dataLt (.int a) (.int b)
        rw [dataLt_int]
        by_cases hq : b ≤ a <;> simp [hq] <;> omega)]
  simp only [opSorted, h, dPys_int, srtB_ints, if_true, e]
theorem e_srt_l (xs : List Int) : opSorted false [.l (xs.map .int)] = .ok (.l ((up xs).map .int)) [.l (xs.map .int)] := opSorted_ints false _ _ rfl
theorem e_srt_dl (xs : List Int) : opSorted false [.d (.lst (xs.map .int))] = .ok (.l ((up xs).map .int)) [.d (.lst (xs.map .int))] := opSorted_ints false _ _ rfl
theorem e_srt_dt (xs : List Int) : opSorted false [.d (.tup (xs.map .int))] = .ok (.l ((up xs).map .int)) [.d (.tup (xs.map .int))] := opSorted_ints false _ _ rfl
theorem e_srd_l (xs : List Int) : opSorted true [.l (xs.map .int)] = .ok (.l ((dn xs).map .int)) [.l (xs.map .int)] := opSorted_ints true _ _ rfl
theorem e_srd_dl (xs : List Int) : opSorted true [.d (.lst (xs.map .int))] = .ok (.l ((dn xs).map .int)) [.d (.lst (xs.map .int))] := opSorted_ints true _ _ rfl
theorem e_srd_dt (xs : List Int) : opSorted true [.d (.tup (xs.map .int))] = .ok (.l ((dn xs).map .int)) [.d (.tup (xs.map .int))] := opSorted_ints true _ _ rfl
/-! ### sums -/
theorem intsD_ints : ∀ xs : List Int, intsD (xs.map D.int) = some xs
  | [] => rfl
  | x :: xs => by
    show (intsD (xs.map D.int)).map (x :: ·) = _
    rw [intsD_ints xs]
    rfl
theorem e_sum_l (xs : List Int) : opSum [.l (xs.map .int)] = .ok (.d (.int xs.sum)) [.l (xs.map .int)] := by
  show (match (some (xs.map D.int)).bind intsD with | some ns => ORes.ok (.d (.int ns.sum)) [.l (xs.map .int)] | none => .stuck) = _
  rw [e_bind_some, intsD_ints]
theorem e_sum_dl (xs : List Int) : opSum [.d (.lst (xs.map .int))] = .ok (.d (.int xs.sum)) [.d (.lst (xs.map .int))] := by
  show (match (some (xs.map D.int)).bind intsD with | some ns => ORes.ok (.d (.int ns.sum)) [.d (.lst (xs.map .int))] | none => .stuck) = _
  rw [e_bind_some, intsD_ints]
theorem e_sum_dt (xs : List Int) : opSum [.d (.tup (xs.map .int))] = .ok (.d (.int xs.sum)) [.d (.tup (xs.map .int))] := by
  show (match (some (xs.map D.int)).bind intsD with | some ns => ORes.ok (.d (.int ns.sum)) [.d (.tup (xs.map .int))] | none => .stuck) = _
  rw [e_bind_some, intsD_ints]
/-! ### pops -/
theorem e_pop (xs : List Int) (h : 0 < xs.length) : opPop [.l (xs.map .int)] = .ok (.d (.int (nth xs (xs.length - 1)))) [.l (xs.dropLast.map .int)] := by
  have e : (xs.map D.int)[(xs.map D.int).length - 1]? = some (.int (nth xs (xs.length - 1))) := by
    have := nth_get (ns := xs) (i := (xs.length : Int) - 1) (by omega)
    rw [show ((xs.length : Int) - 1).toNat = xs.length - 1 by omega] at this
    rw [List.length_map, List.getElem?_map, this]
    rfl
  simp only [opPop, e, List.map_dropLast]
theorem e_pop0 (x : Int) (xs : List Int) : opPopAt [.l ((x :: xs).map .int), .d (.int 0)] = .ok (.d (.int x)) [.l (xs.map .int), .d (.int 0)] := by
  have e : ixN ((x :: xs).map D.int).length 0 = some 0 := by
    rw [ixN_pos _ _ (by simp only [List.length_map, List.length_cons]; omega)]
    rfl
  simp only [opPopAt, e]
  rfl
/-! ### an item changed -/
theorem set_int (ns : List Int) (j : Nat) (v : Int) : (ns.map D.int).set j (.int v) = (ns.set j v).map D.int := List.map_set.symm
def ag5 (io : Nat) (op : Int → Int → Int) (n m : Int) (ys : List D) (ρ : List S) (o : Option Nat) : Fl := match o with
  | some j => .nx (ρ.set io (.l (ys.set j (.int (op n m)))))
  | none => .stuck
def ag4 (io : Nat) (op : Int → Int → Int) (k n m : Int) (ρ : List S) (o : Option S) : Fl := match o with
  | some (.l ys) => ag5 io op n m ys ρ (ixN ys.length k)
  | _ => .stuck
theorem e_augS3 (io : Nat) (op : Int → Int → Int) (k n m : Int) (ρ : List S) : augS3 io op k n (.d (.int m)) ρ = ag4 io op k n m ρ ρ[io]? := by
  unfold augS3 ag4 ag5
  dsimp only
  all_goals
    cases ρ[io]? with
    | none => rfl
    | some s => cases s with
      | l ys =>
        (try dsimp only)
        all_goals (cases ixN ys.length k <;> rfl)
      | _ => rfl
theorem e_ag4 (io : Nat) (op : Int → Int → Int) (k n m : Int) (ρ : List S) (ys : List D) : ag4 io op k n m ρ (some (.l ys)) = ag5 io op n m ys ρ (ixN ys.length k) := (rfl)
theorem e_ag5 (io : Nat) (op : Int → Int → Int) (n m : Int) (ys : List D) (ρ : List S) (j : Nat) : ag5 io op n m ys ρ (some j) = .nx (ρ.set io (.l (ys.set j (.int (op n m))))) := (rfl)
def ag3 (io : Nat) (op : Int → Int → Int) (fe : M S) (k : Int) (ρ : List S) (o : Option D) : Fl := match o with
  | some (.int n) => bdo fe (augS3 io op k n) ρ
  | _ => .stuck
def ag2 (io : Nat) (op : Int → Int → Int) (fe : M S) (k : Int) (ρ : List S) (o : Option S) : Fl := match o with
  | some (.l xs) => ag3 io op fe k ρ (atI xs k)
  | _ => .stuck
theorem e_augS2 (io : Nat) (op : Int → Int → Int) (fe : M S) (k : Int) (ρ : List S) : augS2 io op fe (.d (.int k)) ρ = ag2 io op fe k ρ ρ[io]? := by
  unfold augS2 ag2 ag3
  dsimp only
  all_goals
    cases ρ[io]? with
    | none => rfl
    | some s => cases s with
      | l xs =>
        (try dsimp only)
        all_goals
          cases atI xs k with
          | none => rfl
          | some x => cases x <;> rfl
      | _ => rfl
theorem e_ag2 (io : Nat) (op : Int → Int → Int) (fe : M S) (k : Int) (ρ : List S) (xs : List D) : ag2 io op fe k ρ (some (.l xs)) = ag3 io op fe k ρ (atI xs k) := (rfl)
theorem e_ag3 (io : Nat) (op : Int → Int → Int) (fe : M S) (k n : Int) (ρ : List S) : ag3 io op fe k ρ (some (.int n)) = db (fe ρ) (augS3 io op k n) := (rfl)
def ag1 (io : Nat) (op : Int → Int → Int) (fi fe : M S) (ρ : List S) (o : Option S) : Fl := match o with
  | some (.l _) => bdo fi (augS2 io op fe) ρ
  | _ => .stuck
theorem e_bAugS (io : Nat) (op : Int → Int → Int) (fi fe : M S) (ρ : List S) : bAugS io op fi fe ρ = ag1 io op fi fe ρ ρ[io]? := by
  unfold bAugS ag1
  cases ρ[io]? with
  | none => rfl
  | some s => cases s <;> rfl
theorem e_ag1 (io : Nat) (op : Int → Int → Int) (fi fe : M S) (ρ : List S) (xs : List D) : ag1 io op fi fe ρ (some (.l xs)) = db (fi ρ) (augS2 io op fe) := (rfl)
/-! ### enumerate -/
def enI (ns : List Int) : List (Int × Int) := (rgI 0 ns.length).map fun k => (k, nth ns k)
theorem enI_eq (ns : List Int) : (ns.map D.int).mapIdx (fun i x => D.tup [.int (i : Nat), x]) = (enI ns).map pD := by
  apply List.ext_getElem?
  intro i
  unfold enI
  rw [List.getElem?_mapIdx, List.map_map, List.getElem?_map, List.getElem?_map]
  by_cases hi : i < ns.length
  · have h1 := nth_get (ns := ns) (i := i) (by omega)
    have h2 := nth_get (ns := rgI 0 ns.length) (i := i) (by rw [rgI_length]; omega)
    rw [nth_rgI (by omega), Int.toNat_natCast, Int.zero_add] at h2
    rw [Int.toNat_natCast] at h1
    rw [h1, h2]
    rfl
  · rw [List.getElem?_eq_none (by omega), List.getElem?_eq_none (by rw [rgI_length]; omega)]
    rfl
theorem e_ioEn_l (ns : List Int) : ioEn [.l (ns.map .int)] = some ((enI ns).map pD) := by
  show some ((ns.map D.int).mapIdx fun i x => D.tup [.int (i : Nat), x]) = _
  rw [enI_eq]
theorem e_ioEn_dl (ns : List Int) : ioEn [.d (.lst (ns.map .int))] = some ((enI ns).map pD) := by
  show some ((ns.map D.int).mapIdx fun i x => D.tup [.int (i : Nat), x]) = _
  rw [enI_eq]
/-! ### a comprehension that draws -/
theorem compL_st {ι : Type} {vs : List Nat} {t : Tg} {f : M S} (emb : ι → D) (I : List S → Prop) (P : Int → Prop) : ∀ (is : List ι) (acc : List S) (ρ : List S), I (clr vs ρ) →
    (∀ x ∈ is, ∀ ρ, I ρ → ∃ ρ1, asgT t (.d (emb x)) ρ = some ρ1 ∧ ∃ v ρ3, f ρ1 = .ok (.d (.int v)) ρ3 ∧ P v ∧ I (clr vs ρ3)) →
    ∃ (ns : List Int) (ρ' : List S), ns.length = is.length ∧ (∀ v ∈ ns, P v) ∧ I (clr vs ρ') ∧ compL vs t (mpure true) f (is.map emb) acc ρ = .ok (acc ++ (ns.map D.int).map .d) ρ'
  | [], acc, ρ, h, _ => ⟨[], ρ, rfl, by simp, h, by simp [compL]⟩
  | x :: is, acc, ρ, h, hs => by
    obtain ⟨ρ1, e1, v, ρ3, e2, hv, h3⟩ := hs x (by simp) _ h
    obtain ⟨ns, ρ', l, hp, hI, e⟩ := compL_st emb I P is (acc ++ [.d (.int v)]) ρ3 h3 fun y hy => hs y (List.mem_cons_of_mem _ hy)
    refine ⟨v :: ns, ρ', by simp [l], ?_, hI, ?_⟩
    · intro z hz
      rcases List.mem_cons.mp hz with e | hz
      · subst e; exact hv
      · exact hp z hz
    · rw [List.map_cons, compL, e1]
      simp only [mpure, if_true, e2]
      rw [e]
      simp
theorem comp_st {ι : Type} {vs : List Nat} {t : Tg} {f : M S} {ρp : List S} {avs : List AV} {xs : List S} (emb : ι → D) (is : List ι) (I : List S → Prop) (P : Int → Prop) (h0 : I (clr vs ρp)) (hl : is.length ≤ 100000)
    (hs : ∀ x ∈ is, ∀ ρ, I ρ → ∃ ρ1, asgT t (.d (emb x)) ρ = some ρ1 ∧ ∃ v ρ3, f ρ1 = .ok (.d (.int v)) ρ3 ∧ P v ∧ I (clr vs ρ3)) :
    ∃ (ns : List Int) (ρ' : List S), ns.length = is.length ∧ (∀ v ∈ ns, P v) ∧ I ρ' ∧ compE vs t (mpure true) f (is.map emb) avs xs ρp = .ok (.l (ns.map .int)) (lay (rst vs ρp ρ') avs xs xs) := by
  obtain ⟨ns, ρ', l, hp, hI, e⟩ := compL_st emb I P is [] ρp h0 hs
  refine ⟨ns, _, l, hp, hI, ?_⟩
  unfold compE
  simp only [List.length_map, hl, if_true, e, List.nil_append, lsN_d]
theorem dropLast_int (ns : List Int) : (ns.map D.int).dropLast = ns.dropLast.map D.int := List.map_dropLast.symm
theorem rgI_succ (lo : Int) (n : Nat) : rgI lo (n + 1) = lo :: rgI (lo + 1) n := by
  rw [Nat.add_comm, rgI_app]
  simp [rgI]
theorem rgI_snoc (lo : Int) (n : Nat) : rgI lo (n + 1) = rgI lo n ++ [lo + n] := by
  rw [rgI_app]
  simp [rgI]
theorem rgI_nth (ns : List Int) : (rgI 0 ns.length).map (nth ns) = ns := nth_ext (by rw [List.length_map, rgI_length]) fun i h0 h1 => by
  rw [List.length_map, rgI_length] at h1
  rw [nth_map _ (by rw [rgI_length]; omega), nth_rgI (by omega), Int.zero_add]
theorem take_sum (ns : List Int) (i : Nat) (h : i < ns.length) : (ns.take (i + 1)).sum = (ns.take i).sum + nth ns i := by
  have := nth_get (ns := ns) (i := i) (by omega)
  rw [Int.toNat_natCast] at this
  rw [take_snoc this, List.sum_append]
  simp
def ab (i : Int) : Int := if i < 0 then -i else i
theorem e_fAbs' (i : Int) : fAbs i = some (.int (ab i)) := (rfl)
theorem e_opI_dl (f : Int → Int → Option D) (xs : List D) (r : List S) : opI f (.d (.lst xs) :: r) = .stuck := by
  unfold opI
  split <;> simp_all
end DL
namespace K02
open PySem PySem.Spec PyProof.Rows L2 DL
local macro_rules | `(tactic| ktf_call ⟨$ts,*⟩) => `(tactic| simp (disch := first | omega | (simp only [List.length_map, List.length_append, List.length_cons, List.length_nil, List.length_set, List.length_replicate, rgI_length] <;> omega) | fail) only [$[$ts:term],*, rb_ok, rb_exc, fb_nx, fb_rt, fb_exc, fb_bk, fb_ct, db_ok, db_exc, ib_t, ib_f, ib_exc, ib_d, ib_nd, e_mbind, e_mpure, e_bnx, e_bseq, e_bdo, e_bset, e_bAsg, e_bRet, e_bExp, e_bIf, e_mIf, e_mAnd, e_mOr, e_mNot, e_mT, e_mAndV, e_mOrV, e_mNotV, nb_ok, nb_exc, vb_ok, vb_exc, sb_ok, sb_exc, slotB_d, slotB_l, slotB_ls, slotB_m, slotB_o, e_args_nil, e_args_v, e_args_b, gm_some, grabS_d, grabS_l, grabS_ls, grabS_m, grabS_o, e_grab_nil, e_grab_s, e_grab_n, e_mFin, e_mOp, fin1_some, fin2_ok, fin2_exc, lay_nil, lay_s, lay_d, lay_l, lay_ls, lay_m, lay_o, e_mCon, e_mVar, e_mMov, e_mFrz, varS_d, movS_d, movS_l, movS_ls, movS_m, movS_o, frzS_d, frzS_l, frzS_m, frzS_o, frzO_some, fc_some, e_frzs_nil, e_frzs_cons, e_frz_d, e_frz_l, e_frz_m, e_frz_o, e_frz_ls, clsB_ok, e_mMeth, e_methK, e_clsA_s, e_clsA_n, e_clsS_o, e_clsS_d, e_bind_some, tyB_ok, e_mBm, e_bmK, e_tyA_s, e_tyA_n, e_tyS_l, e_tyS_ls, e_tyS_dl, e_tyS_str, e_tyS_m, e_mkOp, mkR_ok, mkR_exc, e_mTold, toldR_ok, e_fnOp, fnR_nx, fnR_rt, fnR_exc, e_outs_z, e_outs_s, e_bFld, e_fldK, fldN_some, e_fld_o, fldA_d, fldA_l, fldA_m, e_fld_d, fldB_some, setF_in, setF_end, e_opI, oi_some, e_opOr, orR_ok, orR_exc, orR_stuck, e_fAdd, e_fSub, e_fLt, e_fLe, e_fGt, e_fGe, e_fMul_r, e_fMul_l, e_fDiv, e_fMod, e_fMin, e_fMax, e_fAbs', e_opNeg, e_opInt, e_opInt_b, e_opI3, e_opF1, of1_some, e_tup, e_lst, tupK_some, lstK_some, e_seq_l, e_seq_dl, e_seq_dt, e_opLen_l, e_opLen_dl, e_opLen_dt, ixK_some, e_opIx_l, e_opIx_dl, e_opIx_dt, atI_0, atI_1, atI_2, atI_3, atI_int, atI_int_last, atI_pair, atI_pair_last, e_opApp, appK_some, e_opList_l, e_opList_dl, e_opList_dt, e_opTuple_l, e_opTuple_dl, e_opTuple_dt, e_opCat, e_opCatL_ll, e_opCatL_dl, e_opCatL_ld, e_opCatL_dd, e_opI_l, e_opI_dl, e_opSetL, setK_some, ixN_pos, e_mChain, e_chK, e_chZ, nxO_some, e_bPar, e_setAll_nil, e_setAll_cons, e_bAsgT, e_asgT_n, e_asgT_t, e_asgTs_nil, e_asgTs_cons, e_bAugI, e_augK, e_augZ, e_eq_int, e_ne_int, e_eq_bl, e_ne_bl, e_mSlice, e_slK, e_part_n, e_part_s, e_ptK, e_slD_l, e_slD_dl, e_slD_dt, cut_to, cut_from, cut_last, e_clr_nil, e_clr_cons, e_rst_nil, e_rst_cons, e_mComp, compG_some, compK_some, e_mAny, e_mAll, e_mSum, genG_some, genK_some, e_ioA_l, e_ioA_dl, e_ioA_dt, e_ioA_str, e_ioRvA_l, e_ioRvA_dl, e_ioRvA_dt, forK_some, e_forL_cons, foA_some, foB_nx, foB_ct, foB_bk, foB_rt, foB_exc, forL_nil, eq_self, beq_tt, beq_self_eq_true, beq_ff, beq_tf, beq_ft, e_srt_l, e_srt_dl, e_srt_dt, e_srd_l, e_srd_dl, e_srd_dt, e_sum_l, e_sum_dl, e_sum_dt, e_pop, set_int, dropLast_int, e_bAugS, e_ag1, e_augS2, e_ag2, e_ag3, e_augS3, e_ag4, e_ag5, e_ioEn_l, e_ioEn_dl, e_bFor, forG_some, e_ioR1, e_ioR2, e_ioZ_P, e_ioR3, rgS_length, rev_int, fltT, List.length_cons, List.length_nil, List.length_append, List.length_map, List.length_replicate, List.length_set, rgI_length, List.getElem?_cons_zero, List.getElem?_cons_succ, List.set_cons_zero, List.set_cons_succ, List.cons_append, List.nil_append, List.append_nil, List.map_cons, List.map_nil, List.replicate_succ, List.replicate_zero, Option.map_some, Option.getD_some, Nat.reduceAdd, Nat.reduceSub, Nat.reduceLT, Nat.reduceLeDiff, Nat.reduceMul, Nat.reduceEqDiff, List.mem_cons, List.not_mem_nil, or_false, false_or, or_true, true_or, if_true, if_false, ite_true, ite_false, decide_true, decide_false, decide_eq_true_eq, Bool.not_true, Bool.not_false, reduceCtorEq, reduceIte, Int.reduceNeg, if_pos, if_neg, Int.reduceToNat, Int.reduceMul, Int.reduceAdd, Int.reduceSub, Int.reduceLT, Int.reduceLE, Int.reduceEq, ne_eq, not_true_eq_false, not_false_eq_true, Int.toNat_natCast])
/-! ### draws -/
theorem law_roll (a b c m : Int) (hm : 0 < m) (hm2 : m < 18446744073709551616) : ∃ v a' b' c', op_f_law_roll [.l [.int a, .int b, .int c], .d (.int m)] = .ok (.d (.int v)) [.l [.int a', .int b', .int c'], .d (.int m)] ∧ 0 ≤ v ∧ v < m := by
  have hv : ∀ x : Int, 0 ≤ x % m ∧ x % m < m := fun x => ⟨Int.emod_nonneg _ (by omega), Int.emod_lt_of_pos _ hm⟩
  by_cases h : c = 2 ∨ c = 1 ∧ 0 < a
  · refine ⟨a % m, a / m, b, c, ?_, hv a⟩
    by_cases h1 : c = 2
    · subst h1
      ktf_call ⟨op_f_law_roll, b_f_law_roll⟩
    · have h2 : c = 1 := by omega
      have h3 : 0 < a := by omega
      subst h2
      ktf_call ⟨op_f_law_roll, b_f_law_roll⟩
  · by_cases h1 : c = 1
    · have h3 : ¬ 0 < a := by omega
      subst h1
      ktf_call ⟨op_f_law_roll, b_f_law_roll, b_f_law_roll_2, b_f_law_roll_3, b_f_law_roll_4, b_f_law_roll_5⟩
      exact ⟨_, _, _, _, rfl, hv _⟩
    · ktf_call ⟨op_f_law_roll, b_f_law_roll, b_f_law_roll_2, b_f_law_roll_3, b_f_law_roll_4, b_f_law_roll_5⟩
      exact ⟨_, _, _, _, rfl, hv _⟩
theorem law_dice (z : Int) : ∃ a b c, op_f_law_dice [.d (.int z)] = .ok (.l [.int a, .int b, .int c]) [.d (.int z)] := by
  have p : fPow 10 18 = some (.int 1000000000000000000) := rfl
  by_cases h1 : -10 < z <;> by_cases h2 : z < 10 <;> (ktf_call ⟨op_f_law_dice, b_f_law_dice, b_f_law_dice_2, p⟩; exact ⟨_, _, _, rfl⟩)
theorem law_rounds (s : List Int) : ∃ a b c, op_f_law_rounds [.d (.lst (s.map .int)), .d (.int 1)] = .ok (.ls [.l [.int a, .int b, .int c]]) [.d (.lst (s.map .int)), .d (.int 1)] := by
  have go : ∀ (z : Int), ∃ a b c, C_f_law_rounds_1 [.d (.lst (s.map .int)), .d (.int 1), .l [.int z], .gone] = .ok (.ls [.l [.int a, .int b, .int c]]) [.d (.lst (s.map .int)), .d (.int 1), .d (.lst [.int z]), .gone] := fun z => by
    obtain ⟨a, b, c, e⟩ := law_dice z
    refine ⟨a, b, c, ?_⟩
    unfold C_f_law_rounds_1
    refine (comp_one (s := .l [.int a, .int b, .int c]) rfl rfl rfl rfl rfl (by ktf_call ⟨e⟩; rfl) rfl)
  have e0 := opEq_ints false (.l []) (.l []) [] [] rfl rfl rfl rfl
  cases s with
  | nil =>
    obtain ⟨a, b, c, e⟩ := go 0
    refine ⟨a, b, c, ?_⟩
    rw [List.map_nil] at *
    ktf_call ⟨op_f_law_rounds, b_f_law_rounds, b_f_law_rounds_2, b_f_law_rounds_3, e, e0, List.take_nil⟩
  | cons z r =>
    obtain ⟨a, b, c, e⟩ := go z
    have e1 := opEq_ints false (.l [.int z]) (.l []) [z] [] rfl rfl rfl rfl
    refine ⟨a, b, c, ?_⟩
    rw [List.map_cons] at *
    ktf_call ⟨op_f_law_rounds, b_f_law_rounds, b_f_law_rounds_2, b_f_law_rounds_3, e, e1, List.take_succ_cons, List.take_zero⟩
/-! ### refusals -/
section
variable (p : D) (ρ : List S)
theorem told0 : toldR tbl (.exc 0 p ρ) = .ok (.d (.str "size")) ρ := (rfl)
theorem told1 : toldR tbl (.exc 1 p ρ) = .ok (.d (.str "fill")) ρ := (rfl)
theorem told2 : toldR tbl (.exc 2 p ρ) = .ok (.d (.str "plan")) ρ := (rfl)
theorem told3 : toldR tbl (.exc 3 p ρ) = .ok (.d (.str "no such")) ρ := (rfl)
theorem told4 : toldR tbl (.exc 4 p ρ) = .ok (.d (.str "no room")) ρ := (rfl)
theorem told5 : toldR tbl (.exc 5 p ρ) = .ok (.d (.str "no way")) ρ := (rfl)
theorem told7 : toldR tbl (.exc 7 p ρ) = .ok (.d (.str "deed")) ρ := (rfl)
theorem q_size : opEq true [.d (.str "size"), .d (.str "size")] = .ok (.d (.bl false)) [.d (.str "size"), .d (.str "size")] := e_ne_str _ (by decide +kernel)
theorem q_fill : opEq true [.d (.str "fill"), .d (.str "fill")] = .ok (.d (.bl false)) [.d (.str "fill"), .d (.str "fill")] := e_ne_str _ (by decide +kernel)
theorem q_plan : opEq true [.d (.str "plan"), .d (.str "plan")] = .ok (.d (.bl false)) [.d (.str "plan"), .d (.str "plan")] := e_ne_str _ (by decide +kernel)
theorem q_noway : opEq true [.d (.str "no way"), .d (.str "no way")] = .ok (.d (.bl false)) [.d (.str "no way"), .d (.str "no way")] := e_ne_str _ (by decide +kernel)
theorem p_noway : opEq false [.d (.str "no way"), .d (.str "no way")] = .ok (.d (.bl true)) [.d (.str "no way"), .d (.str "no way")] := e_eq_str _ (by decide +kernel)
end
theorem cases1_ok : op_f_law_cases1 [] = .ok (.d (.bl true)) [] := by kernel_rfl
/-! ### casks -/
def cO (l e m t : Int) : S := .o 8 [.d (.int l), .d (.int e), .d (.int m), .d (.int t)]
theorem cask_init (l e m t : Int) (h1 : 1 ≤ l) (h2 : 1 ≤ t) (h3 : t < e) (h4 : e ≤ m) : op_m_Cask_init [.o 8 [], .d (.int l), .d (.int e), .d (.int m), .d (.int t)] = .ok (.d .non) [cO l e m t, .d (.int l), .d (.int e), .d (.int m), .d (.int t)] := by
  have hm : ¬ min3 l e t < 1 := by unfold min3; omega
  ktf_call ⟨op_m_Cask_init, b_m_Cask_init, b_m_Cask_init_2, b_m_Cask_init_3, b_m_Cask_init_4, b_m_Cask_init_5, cO, hm⟩
def hat (l e m p : Int) : Int := m - (m - e) * (2 * p - l) * (2 * p - l) / (l * l)
theorem mulB {a b A B : Int} (h1 : 0 ≤ a ∧ a ≤ A) (h2 : 0 ≤ b ∧ b ≤ B) : 0 ≤ a * b ∧ a * b ≤ A * B :=
  ⟨Int.mul_nonneg h1.1 h2.1, Int.mul_le_mul h1.2 h2.2 h2.1 (by omega)⟩
theorem cask_bulge (l e m t : Int) : op_m_Cask_bulge [cO l e m t] = .ok (.d (.int (m - e))) [cO l e m t] := by
  ktf_call ⟨cO, op_m_Cask_bulge, b_m_Cask_bulge⟩
theorem cask_half_at (l e m t p : Int) (hl : 1 ≤ l ∧ l ≤ 1000) (hp : 0 ≤ p ∧ p ≤ l) : op_m_Cask_half_at [cO l e m t, .d (.int p)] = .ok (.d (.int (hat l e m p))) [cO l e m t, .d (.int p)] := by
  have e1 := cask_bulge l e m t
  have b1 := mulB (A := 1000) (B := 1000) (show 0 ≤ l ∧ l ≤ 1000 by omega) (show 0 ≤ l ∧ l ≤ 1000 by omega)
  have b2 : 0 < l * l := Int.mul_pos (by omega) (by omega)
  have b3 : l * l < 18446744073709551616 := by omega
  unfold cO at *
  ktf_call ⟨op_m_Cask_half_at, b_m_Cask_half_at, b_m_Cask_half_at_2, b_m_Cask_half_at_3, e1, hat⟩
theorem hat_in {l e m p : Int} (hl : 1 ≤ l) (hp : 0 ≤ p ∧ p ≤ l) (hm : e ≤ m) : e ≤ hat l e m p ∧ hat l e m p ≤ m := by
  unfold hat
  have b2 : 0 < l * l := Int.mul_pos (by omega) (by omega)
  have g2 : 0 ≤ (2 * p - l) * (2 * p - l) ∧ (2 * p - l) * (2 * p - l) ≤ l * l := by
    by_cases hs : 0 ≤ 2 * p - l
    · exact mulB ⟨hs, by omega⟩ ⟨hs, by omega⟩
    · have := mulB (a := -(2 * p - l)) (b := -(2 * p - l)) (A := l) (B := l) ⟨by omega, by omega⟩ ⟨by omega, by omega⟩
      rw [Int.neg_mul_neg] at this
      exact this
  have n1 : 0 ≤ (m - e) * ((2 * p - l) * (2 * p - l)) := Int.mul_nonneg (by omega) g2.1
  have n2 : (m - e) * ((2 * p - l) * (2 * p - l)) ≤ (m - e) * (l * l) := Int.mul_le_mul_of_nonneg_left g2.2 (by omega)
  rw [Int.mul_assoc]
  have h1 := Int.ediv_nonneg n1 (Int.le_of_lt b2)
  have h2 : (m - e) * ((2 * p - l) * (2 * p - l)) / (l * l) ≤ m - e := Int.ediv_le_of_le_mul b2 n2
  omega
/-- sums -/
def sm (h : Int → Int) : Nat → Int
  | 0 => 0
  | n + 1 => sm h n + h n
def smL (h : Int → Int) (n : Nat) : List Int := (List.range (n + 1)).map (sm h)
theorem smL_length (h : Int → Int) (n : Nat) : (smL h n).length = n + 1 := by simp [smL]
theorem smL_succ (h : Int → Int) (n : Nat) : smL h (n + 1) = smL h n ++ [sm h n + h n] := by
  unfold smL
  rw [List.range_succ, List.map_append]
  rfl
theorem smL_nth (h : Int → Int) (n : Nat) (k : Int) (hk : 0 ≤ k ∧ k ≤ n) : nth (smL h n) k = sm h k.toNat := by
  apply nth_eq
  unfold smL
  have : k.toNat < n + 1 := by omega
  simp [this]
theorem sm_lt (h : Int → Int) (n : Nat) (hp : ∀ k : Nat, k < n → 0 < h k) : ∀ i j : Nat, i < j → j ≤ n → sm h i < sm h j := by
  intro i j hij hj
  induction j with
  | zero => omega
  | succ j ih =>
    show _ < sm h j + h j
    have := hp j (by omega)
    by_cases hq : i = j
    · subst hq; omega
    · have := ih (by omega) (by omega)
      omega
theorem place_in {l n k : Int} (hl : 1 ≤ l) (hn : 1 ≤ n) (hk : 0 ≤ k ∧ k < n) : 0 ≤ (2 * k + 1) * l / (2 * n) ∧ (2 * k + 1) * l / (2 * n) ≤ l := by
  have h1 : 0 ≤ (2 * k + 1) * l := Int.mul_nonneg (by omega) (by omega)
  have h2 : (2 * k + 1) * l ≤ (2 * n) * l := Int.mul_le_mul_of_nonneg_right (by omega) (by omega)
  refine ⟨Int.ediv_nonneg h1 (by omega), Int.ediv_le_of_le_mul (by omega) ?_⟩
  rw [Int.mul_comm l]
  exact h2
theorem sm_s (h : Int → Int) (i : Nat) : sm h (i + 1) = sm h i + h i := rfl
theorem sm_sum (h : Int → Int) : ∀ n : Nat, ((rgI 0 n).map h).sum = sm h n
  | 0 => rfl
  | n + 1 => by
    rw [rgI_app, List.map_append, List.sum_append, sm_sum h n, sm_s]
    simp [rgI]
theorem cask_key (l e m t : Int) : op_m_Cask_key [cO l e m t] = .ok (.d (.tup [.int l, .int e, .int m, .int t])) [cO l e m t] := by
  ktf_call ⟨op_m_Cask_key, b_m_Cask_key, cO⟩
def cD (l e m t : Int) : S := .d (.obj 8 [.int l, .int e, .int m, .int t])
theorem cask_keyD (l e m t : Int) : op_m_Cask_key [cD l e m t] = .ok (.d (.tup [.int l, .int e, .int m, .int t])) [cD l e m t] := by
  ktf_call ⟨op_m_Cask_key, b_m_Cask_key, cD⟩
theorem cask_bulgeD (l e m t : Int) : op_m_Cask_bulge [cD l e m t] = .ok (.d (.int (m - e))) [cD l e m t] := by
  ktf_call ⟨cD, op_m_Cask_bulge, b_m_Cask_bulge⟩
theorem cask_half_atD (l e m t p : Int) (hl : 1 ≤ l ∧ l ≤ 1000) (hp : 0 ≤ p ∧ p ≤ l) : op_m_Cask_half_at [cD l e m t, .d (.int p)] = .ok (.d (.int (hat l e m p))) [cD l e m t, .d (.int p)] := by
  have e1 := cask_bulgeD l e m t
  have b1 := mulB (A := 1000) (B := 1000) (show 0 ≤ l ∧ l ≤ 1000 by omega) (show 0 ≤ l ∧ l ≤ 1000 by omega)
  have b2 : 0 < l * l := Int.mul_pos (by omega) (by omega)
  have b3 : l * l < 18446744073709551616 := by omega
  unfold cD at *
  ktf_call ⟨op_m_Cask_half_at, b_m_Cask_half_at, b_m_Cask_half_at_2, b_m_Cask_half_at_3, e1, hat⟩
theorem cask_half_atX (l e m t p : Int) (hp : l < p) : op_m_Cask_half_at [cO l e m t, .d (.int p)] = .exc 0 .non [cO l e m t, .d (.int p)] := by
  unfold cO
  by_cases h0 : 0 ≤ p <;> ktf_call ⟨op_m_Cask_half_at, b_m_Cask_half_at⟩
theorem cask_half_atXD (l e m t p : Int) (hp : l < p) : op_m_Cask_half_at [cD l e m t, .d (.int p)] = .exc 0 .non [cD l e m t, .d (.int p)] := by
  unfold cD
  by_cases h0 : 0 ≤ p <;> ktf_call ⟨op_m_Cask_half_at, b_m_Cask_half_at⟩
/-- by the law's own words -/
theorem law_half (l e m t p : Int) (hl : 1 ≤ l ∧ l ≤ 1000) (hp : 0 ≤ p ∧ p ≤ l) : op_f_law_half [.d (.tup [.int l, .int e, .int m, .int t]), .d (.int p)] = .ok (.d (.int (hat l e m p))) [.d (.tup [.int l, .int e, .int m, .int t]), .d (.int p)] := by
  have b1 := mulB (A := 1000) (B := 1000) (show 0 ≤ l ∧ l ≤ 1000 by omega) (show 0 ≤ l ∧ l ≤ 1000 by omega)
  have b2 : 0 < l * l := Int.mul_pos (by omega) (by omega)
  have b3 : l * l < 18446744073709551616 := by omega
  have e : hat l e m p = m - (m - e) * (l - 2 * p) * (l - 2 * p) / (l * l) := by
    unfold hat
    rw [Int.mul_assoc, Int.mul_assoc, show l - 2 * p = -(2 * p - l) by omega, Int.neg_mul_neg]
  ktf_call ⟨op_f_law_half, b_f_law_half, b_f_law_half_2, b_f_law_half_3, e, Option.bind_some⟩
def sq (l e m t n : Int) (k : Int) : Int := (hat l e m ((2 * k + 1) * l / (2 * n)) - t) * (hat l e m ((2 * k + 1) * l / (2 * n)) - t)
theorem slice_room (l e m t n : Int) (hl : 1 ≤ l ∧ l ≤ 1000) (hn : 1 ≤ n ∧ n ≤ 900) (ht : 1 ≤ t ∧ t < e) (hm : e ≤ m ∧ m ≤ 1000) : op_m_Cask_slice_room [cO l e m t, .d (.int n)] = .ok (.d (.int (sm (sq l e m t n) n.toNat * l / n))) [cO l e m t, .d (.int n)] := by
  have lp := for_nx (t := .n 3) (body := L_m_Cask_slice_room_1) D.int (fun i ρ => ∃ x y, ρ = [cO l e m t, .d (.int n), .d (.int (sm (sq l e m t n) i)), x, y]) (rgI 0 n.toNat) (ρ := [cO l e m t, .d (.int n), .d (.int 0), .gone, .gone]) ⟨_, _, rfl⟩ (by
    rintro i j _ hi ⟨x, y, rfl⟩
    have hk := rgI_get hi
    rw [Int.zero_add] at hk
    obtain ⟨rfl, hi⟩ := hk
    have hp := place_in (l := l) (n := n) (k := i) hl.1 hn.1 (by omega)
    have hh := cask_half_at l e m t ((2 * (i : Int) + 1) * l / (2 * n)) hl hp
    have hb := hat_in (e := e) (m := m) hl.1 hp hm.1
    rw [sm_s]
    unfold sq cO at *
    exact ⟨_, _, by ktf_call ⟨rb_ok⟩ <;> rfl, .inl (by ktf_call ⟨L_m_Cask_slice_room_1, L_m_Cask_slice_room_1_2, hh⟩ <;> rfl), _, _, rfl⟩)
  obtain ⟨ρ', lp, x, y, rfl⟩ := lp
  rw [rgI_length] at lp
  unfold cO at *
  ktf_call ⟨op_m_Cask_slice_room, b_m_Cask_slice_room, b_m_Cask_slice_room_2, b_m_Cask_slice_room_3, b_m_Cask_slice_room_4, lp⟩
theorem plain_room (l e m t : Int) (hl : 1 ≤ l ∧ l ≤ 1000) (he : -1000 ≤ e - t ∧ e - t ≤ 1000) (hm : -1000 ≤ m - t ∧ m - t ≤ 1000) : op_m_Cask_plain_room [cO l e m t] = .ok (.d (.int ((2 * (m - t) * (m - t) + (e - t) * (e - t)) * l / 3))) [cO l e m t] := by
  unfold cO
  ktf_call ⟨op_m_Cask_plain_room, b_m_Cask_plain_room, b_m_Cask_plain_room_2⟩
theorem scaled_ok (l e m t k : Int) (hk : 1 ≤ k ∧ k ≤ 1000) (hl : 1 ≤ l) (ht : 1 ≤ t) (he : t < e) (hm : e ≤ m) : op_m_Cask_scaled [cO l e m t, .d (.int k), .d (.int 1)] = .ok (cO (l * k) (e * k) (m * k) (t * k)) [cO l e m t, .d (.int k), .d (.int 1)] := by
  have ci := cask_init (l * k) (e * k) (m * k) (t * k) (Int.mul_pos (by omega) (by omega)) (Int.mul_pos (by omega) (by omega)) (Int.mul_lt_mul_of_pos_right he (by omega)) (Int.mul_le_mul_of_nonneg_right hm (by omega))
  have c1 : ∀ x, C_m_Cask_scaled_1 [cO l e m t, .d (.int k), .d (.int 1), x, .gone] = .ok (.l [.int (l * k), .int (e * k), .int (m * k), .int (t * k)]) [cO l e m t, .d (.int k), .d (.int 1), x, .gone] := fun x => by
    unfold cO
    ktf_call ⟨C_m_Cask_scaled_1⟩
    have h4 : [D.int l, D.int e, D.int m, D.int t] = [l, e, m, t].map D.int := rfl
    rw [h4, comp_allI D.int _ (fun z => z * k) [.o 8 [.d (.int l), .d (.int e), .d (.int m), .d (.int t)], .d (.int k), .d (.int 1), x, .gone] rfl (by simp) fun z hz => ?_]
    · ktf_call ⟨rb_ok⟩
    · exact ⟨_, rfl, _, by ktf_call ⟨Int.ediv_one⟩ <;> rfl, rfl⟩
  unfold cO at *
  ktf_call ⟨op_m_Cask_scaled, b_m_Cask_scaled, b_m_Cask_scaled_2, b_m_Cask_scaled_3, c1, ci⟩
/-! ### rounds -/
def arn (h : Int) : Int := (2 * 2 * h * 355 + 113) / 226
theorem around_ok (h : Int) (h0 : 0 ≤ h) : op_f_around [.d (.int h)] = .ok (.d (.int (arn h))) [.d (.int h)] := by
  have n1 : (2 : Int) * 113 = 226 := rfl
  ktf_call ⟨op_f_around, b_f_around, b_f_around_2, arn, n1⟩
theorem around_X (h : Int) (h0 : h < 0) : op_f_around [.d (.int h)] = .exc 0 .non [.d (.int h)] := by
  ktf_call ⟨op_f_around, b_f_around⟩
theorem law_round (h : Int) : op_f_law_round [.d (.int h)] = .ok (.d (.int (arn h))) [.d (.int h)] := by
  have e : arn h = (710 * 2 * h + 113) / 226 := by unfold arn; congr 1; omega
  have n1 : (710 : Int) * 2 = 1420 := rfl
  rw [n1] at e
  ktf_call ⟨op_f_law_round, b_f_law_round, e, n1⟩
theorem arn_near (h : Int) : -56 ≤ 113 * arn h - 710 * h ∧ 113 * arn h - 710 * h ≤ 56 := by
  unfold arn
  omega
theorem staves_ok (h w : Int) (h0 : 0 ≤ h) (hw : 1 ≤ w ∧ w ≤ 100000) : op_f_staves_for [.d (.int h), .d (.int w)] = .ok (.d (.tup [.int (arn h / w), .int (arn h % w)])) [.d (.int h), .d (.int w)] := by
  have e := around_ok h h0
  ktf_call ⟨op_f_staves_for, b_f_staves_for, b_f_staves_for_2, e⟩
theorem tapered_ok (l e m t n : Int) (he : 0 ≤ e) (hm : 0 ≤ m) (hn : 3 ≤ n ∧ n ≤ 100000) : op_f_tapered [cO l e m t, .d (.int n)] = .ok (.d (.tup [.int (arn e / n), .int (arn m / n)])) [cO l e m t, .d (.int n)] := by
  have e1 := around_ok e he
  have e2 := around_ok m hm
  unfold cO
  ktf_call ⟨op_f_tapered, b_f_tapered, b_f_tapered_2, e1, e2⟩
theorem tapered_X (l e m t : Int) : op_f_tapered [cD l e m t, .d (.int 2)] = .exc 0 .non [cD l e m t, .d (.int 2)] := by
  unfold cD
  ktf_call ⟨op_f_tapered, b_f_tapered⟩
/-- even parts -/
def evn (T n : Int) : List Int := (rgI 0 n.toNat).map fun k => T / n + (if k < T % n then 1 else 0)
theorem evn_length (T n : Int) : (evn T n).length = n.toNat := by unfold evn; rw [List.length_map, rgI_length]
theorem even_ok (T n : Int) (hn : 1 ≤ n ∧ n ≤ 1000) (hT : n ≤ T) : op_f_even_round [.d (.int T), .d (.int n)] = .ok (.d (.tup ((evn T n).map .int))) [.d (.int T), .d (.int n)] := by
  ktf_call ⟨op_f_even_round, b_f_even_round, b_f_even_round_2, C_f_even_round_1⟩
  rw [comp_allI D.int _ (fun k => T / n + (if k < T % n then 1 else 0)) [.d (.int T), .d (.int n), .gone] rfl (by rw [rgI_length]; omega) fun k hk => ?_]
  · ktf_call ⟨evn⟩
  · by_cases hq : k < T % n
    · exact ⟨_, rfl, _, by ktf_call ⟨hq⟩ <;> rfl, rfl⟩
    · exact ⟨_, rfl, _, by ktf_call ⟨hq⟩ <;> rfl, rfl⟩
theorem evn_sum (T n : Int) (hn : 1 ≤ n) : (evn T n).sum = T := by
  have go : ∀ k : Nat, (k : Int) ≤ n → ((rgI 0 k).map fun k => T / n + (if k < T % n then (1 : Int) else 0)).sum = (k : Int) * (T / n) + min (k : Int) (T % n) := fun k => by
    induction k with
    | zero =>
      intro _
      have := Int.emod_nonneg T (show n ≠ 0 by omega)
      simp [rgI]
      omega
    | succ k ih =>
      intro hk
      rw [rgI_app, List.map_append, List.sum_append, ih (by omega)]
      simp only [rgI, List.range_succ, List.range_zero, List.nil_append, List.map_cons, List.map_nil, List.sum_cons, List.sum_nil]
      have : ((k + 1 : Nat) : Int) * (T / n) = k * (T / n) + T / n := by
        rw [Int.natCast_add, Int.add_mul]
        simp
      rw [this]
      split <;> omega
  have := go n.toNat (by omega)
  unfold evn
  rw [this, show ((n.toNat : Nat) : Int) = n by omega]
  have h1 := Int.mul_ediv_add_emod T n
  have h2 := Int.emod_lt_of_pos T (show 0 < n by omega)
  omega
theorem evn_dn (T n : Int) (hn : 1 ≤ n) : dn (evn T n) = evn T n := dn_unique (List.Perm.refl _) (nth_pw fun i j h0 h1 h2 => by
  rw [evn_length] at h2
  have l1 : (rgI 0 n.toNat).length = n.toNat := rgI_length _ _
  unfold evn
  rw [nth_map _ (by omega), nth_map _ (by omega), nth_rgI (by omega), nth_rgI (by omega)]
  show _ ≤ _
  split <;> split <;> omega)
theorem evn_near (T n : Int) (hn : 1 ≤ n) : ∀ z ∈ evn T n, T / n ≤ z ∧ z ≤ T / n + 1 := by
  intro z hz
  unfold evn at hz
  obtain ⟨k, _, rfl⟩ := List.mem_map.mp hz
  split <;> omega
/-! ### widest by narrowest -/
def alT (R : List Int) (i : Int) : Int := if i % 2 = 0 then nth R (i / 2) else nth R (R.length - 1 - i / 2)
def alL (R : List Int) : List Int := (rgI 0 R.length).map (alT R)
theorem alL_length (R : List Int) : (alL R).length = R.length := by unfold alL; rw [List.length_map, rgI_length]
theorem alL_nth (R : List Int) (i : Int) (h : 0 ≤ i ∧ i < R.length) : nth (alL R) i = alT R i := by
  unfold alL
  rw [nth_map _ (by rw [rgI_length]; omega), nth_rgI (by omega), Int.zero_add]
theorem alL_perm (R : List Int) : (alL R).Perm R := by
  have go : ∀ j : Nat, 2 * j ≤ R.length → ((rgI 0 (2 * j)).map (alT R) ++ (rgI j (R.length - 2 * j)).map (nth R)).Perm R := fun j => by
    induction j with
    | zero =>
      intro _
      show ((rgI 0 0).map (alT R) ++ (rgI 0 R.length).map (nth R)).Perm R
      rw [rgI_nth]
      exact .refl _
    | succ j ih =>
      intro hj
      refine List.Perm.trans ?_ (ih (by omega))
      obtain ⟨q, hq⟩ : ∃ q, R.length = 2 * j + 2 + q := ⟨R.length - (2 * j + 2), by omega⟩
      have e1 : 2 * (j + 1) = 2 * j + 1 + 1 := by omega
      have e2 : R.length - 2 * (j + 1) = q := by omega
      have e3 : R.length - 2 * j = q + 1 + 1 := by omega
      rw [e2, e1, e3, rgI_snoc, rgI_snoc, rgI_succ (j : Int), rgI_snoc ((j : Int) + 1)]
      have t1 : alT R (0 + ((2 * j : Nat) : Int)) = nth R j := by
        unfold alT
        rw [if_pos (by omega), show (0 + ((2 * j : Nat) : Int)) / 2 = j by omega]
      have t2 : alT R (0 + ((2 * j + 1 : Nat) : Int)) = nth R ((j : Int) + 1 + q) := by
        unfold alT
        rw [if_neg (by omega), show (R.length : Int) - 1 - (0 + ((2 * j + 1 : Nat) : Int)) / 2 = (j : Int) + 1 + q by omega]
      simp only [List.map_append, List.map_cons, List.map_nil, t1, t2, List.append_assoc, List.cons_append, List.nil_append]
      have e4 : ((j + 1 : Nat) : Int) = (j : Int) + 1 := by omega
      rw [e4]
      refine List.Perm.append_left _ (List.Perm.cons _ ?_)
      exact (List.perm_append_comm (l₁ := [nth R ((j : Int) + 1 + q)]))
  by_cases hp : R.length % 2 = 0
  · have := go (R.length / 2) (by omega)
    rw [show 2 * (R.length / 2) = R.length by omega, Nat.sub_self] at this
    simpa [rgI, alL] using this
  · have := go (R.length / 2) (by omega)
    obtain ⟨q, hq⟩ : ∃ q, R.length = 2 * q + 1 := ⟨R.length / 2, by omega⟩
    rw [show R.length / 2 = q by omega, show R.length - 2 * q = 1 by omega] at this
    unfold alL
    rw [hq, rgI_snoc, List.map_append]
    have t1 : alT R (0 + ((2 * q : Nat) : Int)) = nth R q := by
      unfold alT
      rw [if_pos (by omega), show (0 + ((2 * q : Nat) : Int)) / 2 = q by omega]
    have e1 : (rgI (q : Int) 1).map (nth R) = [nth R q] := by simp [rgI]
    rw [e1] at this
    rw [List.map_cons, List.map_nil, t1]
    exact this
theorem alternated_ok (W : List Int) (hl : W.length ≤ 1000) : op_f_alternated [.l (W.map .int)] = .ok (.d (.tup ((alL (dn W)).map .int))) [.l (W.map .int)] := by
  have hR := dn_length W
  have sr := e_srd_l W
  generalize dn W = R at *
  have q0 : ∀ L : List Int, opEq true [.l (L.map .int), .l []] = .ok (.d (.bl (!decide (L = [])))) [.l (L.map .int), .l []] := fun L => opEq_ints true _ _ L [] rfl rfl rfl rfl
  have key := while_nx (t := W_f_alternated_1) (body := L_f_alternated_1) (ρ := [.l (W.map .int), .l (R.map .int), .l []])
    (P := fun ρ => ρ = [.l (W.map .int), .l [], .l ((alL R).map .int)])
    (fun m ρ => ∃ j i : Nat, ρ = [.l (W.map .int), .l (((rgI j m).map (nth R)).map .int), .l (((rgI 0 i).map (alT R)).map .int)] ∧ i + m = R.length ∧ (i = 2 * j ∨ m = 0)) 100000 R.length ⟨0, 0, by rw [show ((0 : Nat) : Int) = 0 from rfl, rgI_nth]; rfl, by omega, .inl rfl⟩ (by omega) (by
    rintro m ρ ⟨j, i, rfl, h1, h2⟩
    cases m with
    | zero =>
      have q1 := q0 []
      refine ⟨false, _, by ktf_call ⟨W_f_alternated_1, q1, show rgI (j : Int) 0 = [] from rfl⟩ <;> rfl, fun _ => ?_, (fun z => by cases z)⟩
      rw [show i = R.length by omega]
      rfl
    | succ m =>
      have hi : i = 2 * j := by omega
      subst hi
      rw [rgI_succ, List.map_cons]
      have q1 := q0 (nth R j :: (rgI ((j : Int) + 1) m).map (nth R))
      have p0 := e_pop0 (nth R j) ((rgI ((j : Int) + 1) m).map (nth R))
      have hlen : ((rgI 0 (2 * j)).map (alT R)).length < 99990 := by rw [List.length_map, rgI_length]; omega
      have t1 : alT R (0 + ((2 * j : Nat) : Int)) = nth R j := by
        unfold alT
        rw [if_pos (by omega), show (0 + ((2 * j : Nat) : Int)) / 2 = j by omega]
      have s1 : ((rgI 0 (2 * j)).map (alT R)).map D.int ++ [D.int (nth R j)] = ((rgI 0 (2 * j + 1)).map (alT R)).map D.int := by
        rw [rgI_snoc, List.map_append, List.map_append, List.map_cons, List.map_cons, t1]
        rfl
      cases m with
      | zero =>
        refine ⟨true, _, by
          rw [List.map_cons] at q1 ⊢
          ktf_call ⟨W_f_alternated_1, q1⟩ <;> rfl, (fun z => by cases z), fun _ => ⟨_, 0, ?_, by omega, j + 1, 2 * j + 1, rfl, by omega, .inr rfl⟩⟩
        have q2 := q0 []
        have r0 : ∀ x : Int, rgI x 0 = [] := fun _ => rfl
        rw [List.map_cons] at p0
        simp only [r0, List.map_nil] at p0 q2 ⊢
        ktf_call ⟨L_f_alternated_1, p0, s1, L_f_alternated_1_2, q2⟩
      | succ m =>
        refine ⟨true, _, by
          rw [List.map_cons] at q1 ⊢
          ktf_call ⟨W_f_alternated_1, q1⟩ <;> rfl, (fun z => by cases z), fun _ => ⟨_, m, ?_, by omega, j + 1, 2 * j + 1 + 1, rfl, by omega, .inl (by omega)⟩⟩
        have q2 := q0 ((rgI ((j : Int) + 1) (m + 1)).map (nth R))
        have ne : decide ((rgI ((j : Int) + 1) (m + 1)).map (nth R) = []) = false := by
          rw [rgI_succ]
          simp
        rw [ne] at q2
        have l2 : ((rgI ((j : Int) + 1) (m + 1)).map (nth R)).length = m + 1 := by rw [List.length_map, rgI_length]
        have p1 := e_pop ((rgI ((j : Int) + 1) (m + 1)).map (nth R)) (by omega)
        have dl : ((rgI ((j : Int) + 1) (m + 1)).map (nth R)).dropLast = (rgI ((j + 1 : Nat) : Int) m).map (nth R) := by
          rw [rgI_snoc, List.map_append, List.map_cons, List.map_nil, List.dropLast_concat]
          rfl
        have t2 : nth ((rgI ((j : Int) + 1) (m + 1)).map (nth R)) (((rgI ((j : Int) + 1) (m + 1)).map (nth R)).length - 1) = alT R (0 + ((2 * j + 1 : Nat) : Int)) := by
          rw [l2, nth_map _ (by rw [rgI_length]; omega), nth_rgI (by omega)]
          unfold alT
          rw [if_neg (by omega)]
          congr 1
          omega
        rw [dl, t2] at p1
        have s2 : ((rgI 0 (2 * j + 1)).map (alT R)).map D.int ++ [D.int (alT R (0 + ((2 * j + 1 : Nat) : Int)))] = ((rgI 0 (2 * j + 1 + 1)).map (alT R)).map D.int := by
          rw [rgI_snoc 0 (2 * j + 1), List.map_append, List.map_append]
          rfl
        have hlen2 : ((rgI 0 (2 * j + 1)).map (alT R)).length < 99990 := by rw [List.length_map, rgI_length]; omega
        rw [List.map_cons] at p0
        generalize (rgI ((j : Int) + 1) (m + 1)).map (nth R) = M at *
        ktf_call ⟨L_f_alternated_1, p0, s1, L_f_alternated_1_2, q2, p1, s2⟩)
  obtain ⟨ρ', lp, rfl⟩ := key
  ktf_call ⟨op_f_alternated, b_f_alternated, b_f_alternated_2, b_f_alternated_3, sr, lp⟩
/-! ### boards that cover -/
def cov (t : Int) : List Int → List Int → List Int
  | acc, [] => acc
  | acc, x :: r => if t ≤ acc.sum then acc else cov t (acc ++ [x]) r
theorem cov_done (t : Int) (acc r : List Int) (h : t ≤ acc.sum) : cov t acc r = acc := by
  cases r with
  | nil => rfl
  | cons x r => exact if_pos h
theorem cov_last (t : Int) : ∀ (r acc : List Int), (acc = [] ∨ acc.dropLast.sum < t) → (cov t acc r = [] ∨ (cov t acc r).dropLast.sum < t)
  | [], acc, h => h
  | x :: r, acc, h => by
    unfold cov
    by_cases hq : t ≤ acc.sum
    · rw [if_pos hq]; exact h
    · rw [if_neg hq]
      exact cov_last t r (acc ++ [x]) (.inr (by rw [List.dropLast_concat]; omega))
theorem cov_mem (t : Int) : ∀ (r acc : List Int), (∀ v ∈ cov t acc r, v ∈ acc ∨ v ∈ r) ∧ (cov t acc r).length ≤ acc.length + r.length
  | [], acc => ⟨fun v h => .inl h, by simp [cov]⟩
  | x :: r, acc => by
    unfold cov
    by_cases hq : t ≤ acc.sum
    · rw [if_pos hq]; exact ⟨fun v h => .inl h, by simp⟩
    · rw [if_neg hq]
      obtain ⟨h1, h2⟩ := cov_mem t r (acc ++ [x])
      refine ⟨fun v h => ?_, by simp at h2 ⊢; omega⟩
      rcases h1 v h with h | h
      · rcases List.mem_append.mp h with h | h
        · exact .inl h
        · right; have : v = x := by simpa using h
          simp [this]
      · right; simp [h]
theorem cov_step (t : Int) : ∀ (r acc : List Int) (x : Int), cov t acc (r ++ [x]) = if (cov t acc r).sum < t then cov t acc r ++ [x] else cov t acc r
  | [], acc, x => by
    show (if t ≤ acc.sum then acc else acc ++ [x]) = if acc.sum < t then acc ++ [x] else acc
    by_cases hq : t ≤ acc.sum
    · rw [if_pos hq, if_neg (by omega)]
    · rw [if_neg hq, if_pos (by omega)]
  | y :: r, acc, x => by
    show (if t ≤ acc.sum then acc else cov t (acc ++ [y]) (r ++ [x])) = _
    have e : cov t acc (y :: r) = if t ≤ acc.sum then acc else cov t (acc ++ [y]) r := rfl
    rw [e]
    by_cases hq : t ≤ acc.sum
    · rw [if_pos hq, if_pos hq, if_neg (by omega)]
    · rw [if_neg hq, if_neg hq]
      exact cov_step t r (acc ++ [y]) x
theorem cov_loop (h : Int) (hh : 0 ≤ h ∧ h ≤ 1000) (W : S) : ∀ (r acc : List Int) (x : S), acc.length + r.length ≤ 1000 → ∃ x', forL (.n 3) L_f_head_boards_1 (r.map .int) [.d (.int h), W, .l (acc.map .int), x] = .nx [.d (.int h), W, .l ((cov (2 * h) acc r).map .int), x']
  | [], acc, x, _ => ⟨x, rfl⟩
  | y :: r, acc, x, hl => by
    unfold cov
    rw [List.length_cons] at hl
    by_cases hq : 2 * h ≤ acc.sum
    · rw [if_pos hq]
      refine ⟨.d (.int y), ?_⟩
      ktf_call ⟨L_f_head_boards_1, hq⟩
    · rw [if_neg hq]
      obtain ⟨x', e⟩ := cov_loop h hh W r (acc ++ [y]) (.d (.int y)) (by simp; omega)
      refine ⟨x', ?_⟩
      rw [List.map_append] at e
      ktf_call ⟨L_f_head_boards_1, L_f_head_boards_1_2, hq⟩
      exact e
theorem head_boards_ok (h : Int) (hh : 0 ≤ h ∧ h ≤ 1000) (W : List Int) (hl : W.length ≤ 900) : op_f_head_boards [.d (.int h), .l (W.map .int)] = if (cov (2 * h) [] (dn W)).sum < 2 * h then .exc 5 .non [.d (.int h), .l (W.map .int)] else .ok (.d (.tup ((cov (2 * h) [] (dn W)).map .int))) [.d (.int h), .l (W.map .int)] := by
  have sr := e_srd_l W
  have hR := dn_length W
  obtain ⟨x, e⟩ := cov_loop h hh (.l (W.map .int)) (dn W) [] .gone (by rw [hR]; simp; omega)
  rw [List.map_nil] at e
  generalize cov (2 * h) [] (dn W) = F at *
  by_cases hq : F.sum < 2 * h
  · ktf_call ⟨op_f_head_boards, b_f_head_boards, b_f_head_boards_2, b_f_head_boards_3, sr, e, hq⟩
  · ktf_call ⟨op_f_head_boards, b_f_head_boards, b_f_head_boards_2, b_f_head_boards_3, b_f_head_boards_4, sr, e, hq⟩
/-! ### heads -/
def hO (h : Int) (F : List Int) : S := .o 9 [.d (.int h), .d (.tup (F.map .int))]
theorem head_init (h : Int) (F : List Int) (hh : 1 ≤ h ∧ h ≤ 1000) (ne : F ≠ []) (hp : ∀ v ∈ F, 1 ≤ v) (h1 : 2 * h ≤ F.sum) (h2 : F.dropLast.sum < 2 * h) : op_m_Head_init [.o 9 [], .d (.int h), .d (.tup (F.map .int))] = .ok (.d .non) [hO h F, .d (.int h), .d (.tup (F.map .int))] := by
  have mi := opMin_ints (.d (.tup (F.map .int))) F rfl ne
  have mp := hp _ (minL_mem ne)
  have hl : 0 < F.length := List.length_pos_iff.mpr ne
  ktf_call ⟨op_m_Head_init, b_m_Head_init, b_m_Head_init_2, b_m_Head_init_3, b_m_Head_init_4, mi, hO⟩
theorem head_over (h : Int) (F : List Int) (hh : 1 ≤ h ∧ h ≤ 1000) : op_m_Head_over [hO h F] = .ok (.d (.int (F.sum - 2 * h))) [hO h F] := by
  unfold hO
  ktf_call ⟨op_m_Head_over, b_m_Head_over⟩
theorem head_key (h : Int) (F : List Int) : op_m_Head_key [hO h F] = .ok (.d (.tup [.int h, .tup (F.map .int)])) [hO h F] := by
  unfold hO
  ktf_call ⟨op_m_Head_key, b_m_Head_key⟩
/-- the side nearest the middle -/
def nr (p b : Int) : Int := if p ≤ 0 ∧ 0 ≤ p + b then 0 else min (ab p) (ab (p + b))
theorem nr_in (p b : Int) (hb : 0 ≤ b) (hp : -2000 ≤ p) (hq : p + b ≤ 2000) : 0 ≤ nr p b ∧ nr p b ≤ 2000 := by
  unfold nr ab
  split <;> (repeat' split) <;> omega
theorem nr_min (p b : Int) (hb : 0 ≤ b) : minL ((rgI p (p + b + 1 - p).toNat).map ab) = nr p b := by
  refine minL_eq ?_ ?_
  · unfold nr
    by_cases h1 : p ≤ 0 ∧ 0 ≤ p + b
    · rw [if_pos h1]
      exact List.mem_map.mpr ⟨0, mem_rgI.mpr (by omega), rfl⟩
    · rw [if_neg h1]
      by_cases h2 : ab p ≤ ab (p + b)
      · rw [Int.min_eq_left h2]
        exact List.mem_map.mpr ⟨p, mem_rgI.mpr (by omega), rfl⟩
      · rw [Int.min_eq_right (by omega)]
        exact List.mem_map.mpr ⟨p + b, mem_rgI.mpr (by omega), rfl⟩
  · intro z hz
    obtain ⟨s, hs, rfl⟩ := List.mem_map.mp hz
    have := mem_rgI.mp hs
    unfold nr ab
    split <;> (repeat' split) <;> omega
def sqr (h p b : Int) : Int := if h * h - nr p b * nr p b > 0 then h * h - nr p b * nr p b else 0
structure RT (s r : Int) : Prop where
  nn : 0 ≤ r
  ge : s ≤ r * r
  lt : r = 0 ∨ (r - 1) * (r - 1) < s
theorem sqm {a b : Int} (h : 0 ≤ a) (k : a ≤ b) : a * a ≤ b * b := (mulB ⟨h, k⟩ ⟨h, k⟩).2
theorem root_loop (self f hr bd nr' : S) (s : Int) (hs : 0 ≤ s ∧ s ≤ 1000000) : ∃ r, RT s r ∧ r ≤ 1001 ∧ whileL W_m_Head_lengths_2 L_m_Head_lengths_2 100000 [self, f, hr, bd, nr', .d (.int s), .d (.int 0)] = .nx [self, f, hr, bd, nr', .d (.int s), .d (.int r)] := by
  obtain ⟨ρ', lp, r, rfl, h1, h2⟩ := while_nx (t := W_m_Head_lengths_2) (body := L_m_Head_lengths_2) (ρ := [self, f, hr, bd, nr', .d (.int s), .d (.int 0)])
    (P := fun ρ => ∃ r, ρ = [self, f, hr, bd, nr', .d (.int s), .d (.int r)] ∧ RT s r ∧ r ≤ 1001)
    (fun m ρ => ∃ r, ρ = [self, f, hr, bd, nr', .d (.int s), .d (.int r)] ∧ (0 ≤ r ∧ r ≤ 1000) ∧ m = (1001 - r).toNat ∧ (r = 0 ∨ (r - 1) * (r - 1) < s)) 100000 1001 ⟨0, rfl, by omega, by omega, .inl rfl⟩ (by omega) (by
    rintro m ρ ⟨r, rfl, hr, hm, hlt⟩
    by_cases hq : r * r < s
    · have : r < 1000 := by
        by_cases hz : 1000 ≤ r
        · have := sqm (a := 1000) (b := r) (by omega) hz
          omega
        · omega
      exact ⟨true, _, by ktf_call ⟨W_m_Head_lengths_2, hq⟩ <;> rfl, (fun z => by cases z), fun _ => ⟨_, (1001 - (r + 1)).toNat, by ktf_call ⟨L_m_Head_lengths_2⟩ <;> rfl, by omega, r + 1, rfl, by omega, rfl, .inr (by rw [show r + 1 - 1 = r by omega]; exact hq)⟩⟩
    · exact ⟨false, _, by ktf_call ⟨W_m_Head_lengths_2, hq⟩ <;> rfl, fun _ => ⟨r, rfl, ⟨hr.1, by omega, hlt⟩, by omega⟩, (fun z => by cases z)⟩)
  exact ⟨r, h1, h2, lp⟩
/-- where a board begins -/
def bgn (h : Int) (F : List Int) (k : Nat) : Int := 0 - h - (F.sum - 2 * h) / 2 + (F.take k).sum
theorem sum_nn : ∀ (F : List Int), (∀ v ∈ F, 1 ≤ v) → 0 ≤ F.sum
  | [], _ => by simp
  | x :: F, h => by
    have := sum_nn F fun v hv => h v (by simp [hv])
    have := h x (by simp)
    rw [List.sum_cons]
    omega
theorem take_le (F : List Int) (hp : ∀ v ∈ F, 1 ≤ v) (k : Nat) : 0 ≤ (F.take k).sum ∧ (F.take k).sum ≤ F.sum := by
  have h1 := sum_nn (F.take k) fun v hv => hp v (List.mem_of_mem_take hv)
  have h2 := sum_nn (F.drop k) fun v hv => hp v (List.mem_of_mem_drop hv)
  have h3 : F.sum = (F.take k).sum + (F.drop k).sum := by rw [← List.sum_append, List.take_append_drop]
  omega
theorem head_lengths (h : Int) (F : List Int) (hh : 1 ≤ h ∧ h ≤ 400) (hp : ∀ v ∈ F, 1 ≤ v ∧ v ≤ 100) (hs : 2 * h ≤ F.sum ∧ F.sum ≤ 1000) (hl : F.length ≤ 900) : ∃ Z : List Int, op_m_Head_lengths [hO h F] = .ok (.d (.tup (Z.map .int))) [hO h F] ∧ Z.length = F.length ∧
    ∀ k : Nat, k < F.length → ∃ r, nth Z k = 2 * r ∧ RT (sqr h (bgn h F k) (nth F k)) r ∧ r ≤ 1001 := by
  have ov := head_over h F (by omega)
  have key := for_nx (t := .n 3) (body := L_m_Head_lengths_1) D.int (fun i ρ => ∃ (Z : List Int) (a b c d : S), ρ = [hO h F, .l (Z.map .int), .d (.int (bgn h F i)), a, b, c, d] ∧ Z.length = i ∧ ∀ k : Nat, k < i → ∃ r, nth Z k = 2 * r ∧ RT (sqr h (bgn h F k) (nth F k)) r ∧ r ≤ 1001) F (ρ := [hO h F, .l [], .d (.int (bgn h F 0)), .gone, .gone, .gone, .gone]) ⟨[], _, _, _, _, rfl, rfl, fun k hk => by omega⟩ (by
    rintro i v _ hi ⟨Z, a, b, c, d, rfl, hZ, hz⟩
    have hv := hp v (List.mem_of_getElem? hi)
    have hil : i < F.length := (List.getElem?_eq_some_iff.mp hi).1
    have hvn : nth F i = v := nth_eq (by rw [Int.toNat_natCast]; exact hi)
    have tk := take_le F (fun v hv => (hp v hv).1) i
    have tk2 := take_le F (fun v hv => (hp v hv).1) (i + 1)
    have ts := take_sum F i hil
    have eb : bgn h F (i + 1) = bgn h F i + v := by unfold bgn; rw [ts, hvn]; omega
    have hb1 : -2000 ≤ bgn h F i ∧ bgn h F i + v ≤ 2000 := by unfold bgn; omega
    have ni := nr_in (bgn h F i) v (by omega) hb1.1 hb1.2
    have b1 := mulB (a := h) (b := h) (A := 400) (B := 400) (by omega) (by omega)
    have b2 : 0 ≤ nr (bgn h F i) v * nr (bgn h F i) v := Int.mul_nonneg ni.1 ni.1
    have hsq : 0 ≤ sqr h (bgn h F i) v ∧ sqr h (bgn h F i) v ≤ 1000000 := by unfold sqr; split <;> omega
    obtain ⟨r, hr, hr2, lp⟩ := root_loop (hO h F) (.l (Z.map .int)) (.d (.int (bgn h F i))) (.d (.int v)) (.d (.int (nr (bgn h F i) v))) (sqr h (bgn h F i) v) hsq
    have hlen : Z.length < 9000 := by omega
    have fin : ∃ ρ2, L_m_Head_lengths_1 [hO h F, .l (Z.map .int), .d (.int (bgn h F i)), .d (.int v), b, c, d] = .nx ρ2 ∧ ρ2 = [hO h F, .l ((Z ++ [2 * r]).map .int), .d (.int (bgn h F i + v)), .d (.int v), .d (.int (nr (bgn h F i) v)), .d (.int (sqr h (bgn h F i) v)), .d (.int r)] := by
      refine ⟨_, ?_, rfl⟩
      rw [List.map_append]
      generalize bgn h F i = p at *
      have emin : (if ab (p + v) < ab p then ab (p + v) else ab p) = min (ab p) (ab (p + v)) := by split <;> omega
      by_cases c1 : p ≤ 0
      · by_cases c2 : 0 ≤ p + v
        · have en : nr p v = 0 := if_pos ⟨c1, c2⟩
          have es : (if h * h - 0 > 0 then h * h - 0 else 0) = sqr h p v := by unfold sqr; rw [en]; rfl
          rw [en] at lp ⊢
          unfold hO at *
          ktf_call ⟨L_m_Head_lengths_1, L_m_Head_lengths_1_2, L_m_Head_lengths_1_3, L_m_Head_lengths_1_4, L_m_Head_lengths_1_5, L_m_Head_lengths_1_6, c1, c2, es, lp⟩
        · have en : nr p v = min (ab p) (ab (p + v)) := if_neg (by omega)
          have es : (if h * h - nr p v * nr p v > 0 then h * h - nr p v * nr p v else 0) = sqr h p v := rfl
          rw [← en] at emin
          unfold hO at *
          ktf_call ⟨L_m_Head_lengths_1, L_m_Head_lengths_1_2, L_m_Head_lengths_1_3, L_m_Head_lengths_1_4, L_m_Head_lengths_1_5, L_m_Head_lengths_1_6, c1, c2, emin, es, lp⟩
      · have en : nr p v = min (ab p) (ab (p + v)) := if_neg (by omega)
        have es : (if h * h - nr p v * nr p v > 0 then h * h - nr p v * nr p v else 0) = sqr h p v := rfl
        rw [← en] at emin
        unfold hO at *
        ktf_call ⟨L_m_Head_lengths_1, L_m_Head_lengths_1_2, L_m_Head_lengths_1_3, L_m_Head_lengths_1_4, L_m_Head_lengths_1_5, L_m_Head_lengths_1_6, c1, emin, es, lp⟩
    obtain ⟨ρ2, fin, rfl⟩ := fin
    refine ⟨_, _, by ktf_call ⟨rb_ok⟩ <;> rfl, .inl fin, Z ++ [2 * r], _, _, _, _, by rw [eb], by simp [hZ], fun k hk => ?_⟩
    by_cases hki : k < i
    · rw [nth_appL (by omega)]
      exact hz k hki
    · have : k = i := by omega
      subst this
      rw [nth_appR (by omega), show ((k : Int) - (Z.length : Int)) = 0 by omega, nth_0, hvn]
      exact ⟨r, rfl, hr, hr2⟩)
  obtain ⟨ρ', lp, Z, a, b, c, d, rfl, hZ, hz⟩ := key
  refine ⟨Z, ?_, hZ, hz⟩
  have e0 : bgn h F 0 = 0 - h - (F.sum - 2 * h) / 2 := by unfold bgn; simp
  rw [e0] at lp
  unfold hO at *
  ktf_call ⟨op_m_Head_lengths, b_m_Head_lengths, b_m_Head_lengths_2, b_m_Head_lengths_3, ov, lp⟩
def pk (Z : List Int) (g k : Int) : Int := if (if nth Z (k - 1) < nth Z k then nth Z (k - 1) else nth Z k) / g > 1 then (if nth Z (k - 1) < nth Z k then nth Z (k - 1) else nth Z k) / g else 1
theorem head_pegs (h : Int) (F Z : List Int) (g : Int) (hg : 1 ≤ g ∧ g ≤ 1000) (hl : op_m_Head_lengths [hO h F] = .ok (.d (.tup (Z.map .int))) [hO h F]) (hz : ∀ k : Int, 0 ≤ k → k < Z.length → 0 ≤ nth Z k ∧ nth Z k ≤ 3000) (hn : Z.length ≤ 900) : op_m_Head_pegs [hO h F, .d (.int g)] = .ok (.d (.int ((rgI 1 ((Z.length : Int) - 1).toNat).map (pk Z g)).sum)) [hO h F, .d (.int g)] := by
  have sl := fltT (rgI 1 ((Z.length : Int) - 1).toNat)
  unfold hO at *
  ktf_call ⟨op_m_Head_pegs, b_m_Head_pegs, b_m_Head_pegs_2, b_m_Head_pegs_3, C_m_Head_pegs_1, hl⟩
  rw [sum_ok D.int _ (fun _ => true) (pk Z g) (fun k hk own ho => ?_) (fun k hk => ?_) (by rw [rgI_length]; omega)]
  · ktf_call ⟨sl⟩
  · have := mem_rgI.mp hk
    obtain ⟨a, rfl⟩ := len1 ho
    exact ⟨[.d (.int k)], rfl, rfl, rfl, fun _ => by ktf_call ⟨pk⟩⟩
  · have := mem_rgI.mp hk
    have z1 := hz k (by omega) (by omega)
    have z2 := hz (k - 1) (by omega) (by omega)
    have key : ∀ x : Int, 0 ≤ x → x ≤ 3000 → 0 ≤ x / g ∧ x / g ≤ 3000 := fun x a b => ⟨Int.ediv_nonneg a (by omega), Int.le_trans (Int.ediv_le_self g a) b⟩
    unfold pk
    have k1 := key _ z1.1 z1.2
    have k2 := key _ z2.1 z2.2
    split <;> split <;> omega
theorem four (r : Int) : 2 * r * (2 * r) = 4 * (r * r) := by
  rw [Int.mul_assoc, Int.mul_left_comm r 2 r, ← Int.mul_assoc, show (2 : Int) * 2 = 4 from rfl]
theorem loop_heads (h : Int) (F Z : List Int) (hh : 1 ≤ h ∧ h ≤ 400) (hp : ∀ v ∈ F, 1 ≤ v ∧ v ≤ 100) (hs : 2 * h ≤ F.sum ∧ F.sum ≤ 1000) (hl : F.length ≤ 900) (hZ : Z.length = F.length) (hz : ∀ k : Nat, k < F.length → ∃ r, nth Z k = 2 * r ∧ RT (sqr h (bgn h F k) (nth F k)) r ∧ r ≤ 1001)
    (d ro c s3 s4 s5 s6 s7 s8 s9 s12 s13 s14 s17 s19 s20 : S) : ∃ x y z u, forL (.n 7) L_f_law_rest3_2 ((rgI 0 F.length).map .int) [d, ro, c, s3, s4, s5, s6, s7, s8, s9, .d (.int h), .d (.tup (F.map .int)), s12, s13, s14, .d (.tup (Z.map .int)), .d (.int (bgn h F 0)), s17, .gone, s19, s20] = .nx [d, ro, c, s3, s4, s5, s6, x, s8, s9, .d (.int h), .d (.tup (F.map .int)), s12, s13, s14, .d (.tup (Z.map .int)), u, y, .gone, z, s20] := by
  obtain ⟨ρ', e, x, y, z, rfl⟩ := for_nx (t := .n 7) (body := L_f_law_rest3_2) D.int (fun i ρ => ∃ x y z, ρ = [d, ro, c, s3, s4, s5, s6, x, s8, s9, .d (.int h), .d (.tup (F.map .int)), s12, s13, s14, .d (.tup (Z.map .int)), .d (.int (bgn h F i)), y, .gone, z, s20]) (rgI 0 F.length) (ρ := [d, ro, c, s3, s4, s5, s6, s7, s8, s9, .d (.int h), .d (.tup (F.map .int)), s12, s13, s14, .d (.tup (Z.map .int)), .d (.int (bgn h F 0)), s17, .gone, s19, s20]) ⟨_, _, _, rfl⟩ (by
    rintro i j _ hi ⟨x, y, z, rfl⟩
    have hk := rgI_get hi
    rw [Int.zero_add] at hk
    obtain ⟨rfl, hil⟩ := hk
    have hv := hp _ (nth_mem (ns := F) (i := i) (by omega))
    have tk := take_le F (fun v hv => (hp v hv).1) i
    have tk2 := take_le F (fun v hv => (hp v hv).1) (i + 1)
    have ts := take_sum F i hil
    have eb : bgn h F (i + 1) = bgn h F i + nth F i := by unfold bgn; rw [ts]; omega
    have hb1 : -2000 ≤ bgn h F i ∧ bgn h F i + nth F i ≤ 2000 := by unfold bgn; omega
    obtain ⟨r, z1, z2, z3⟩ := hz i hil
    have ni := nr_in (bgn h F i) (nth F i) (by omega) hb1.1 hb1.2
    have nm := nr_min (bgn h F i) (nth F i) (by omega)
    have b1 := mulB (a := h) (b := h) (A := 400) (B := 400) (by omega) (by omega)
    have b2 : 0 ≤ nr (bgn h F i) (nth F i) * nr (bgn h F i) (nth F i) := Int.mul_nonneg ni.1 ni.1
    have es : (if h * h - nr (bgn h F i) (nth F i) * nr (bgn h F i) (nth F i) > 0 then h * h - nr (bgn h F i) (nth F i) * nr (bgn h F i) (nth F i) else 0) = sqr h (bgn h F i) (nth F i) := rfl
    rw [eb]
    generalize hvv : nth F i = v at *
    generalize bgn h F i = p at *
    have c5 : ∀ (y z : S), C_f_law_rest3_5 [d, ro, c, s3, s4, s5, s6, .d (.int i), s8, s9, .d (.int h), .d (.tup (F.map .int)), s12, s13, s14, .d (.tup (Z.map .int)), .d (.int p), y, .gone, z, s20] = .ok (.l (((rgI p (p + v + 1 - p).toNat).map ab).map .int)) [d, ro, c, s3, s4, s5, s6, .d (.int i), s8, s9, .d (.int h), .d (.tup (F.map .int)), s12, s13, s14, .d (.tup (Z.map .int)), .d (.int p), y, .gone, z, s20] := fun y z => by
      ktf_call ⟨C_f_law_rest3_5, hvv⟩
      rw [comp_allI D.int _ ab [d, ro, c, s3, s4, s5, s6, .d (.int i), s8, s9, .d (.int h), .d (.tup (F.map .int)), s12, s13, s14, .d (.tup (Z.map .int)), .d (.int p), y, .gone, z, s20] rfl (by rw [rgI_length]; omega) fun k hk => ?_]
      · ktf_call ⟨rb_ok⟩
      · exact ⟨_, rfl, _, by ktf_call ⟨rb_ok⟩ <;> rfl, rfl⟩
    have m5 := opMin_ints (.l (((rgI p (p + v + 1 - p).toNat).map ab).map .int)) _ rfl (by
      intro z
      have := congrArg List.length z
      rw [List.length_map, rgI_length] at this
      simp at this
      omega)
    rw [nm] at m5
    generalize nr p v = q at *
    generalize sqr h p v = s at *
    have f1 := four r
    have f2 := four (r - 1)
    have f3 : 2 * (r - 1) = 2 * r - 2 := by omega
    rw [f3] at f2
    have g0 : 2 * r % 2 = 0 := by omega
    have g1 : ¬ (2 * r * (2 * r) < 4 * s) := by have := z2.ge; omega
    have g2 : 0 < 2 * r → ¬ (4 * s ≤ (2 * r - 2) * (2 * r - 2)) := fun hr => by
      rcases z2.lt with hlt | hlt <;> omega
    have rn := z2.nn
    by_cases hr : 0 < 2 * r
    · have g3 := g2 hr
      exact ⟨_, _, by ktf_call ⟨rb_ok⟩ <;> rfl, .inl (by ktf_call ⟨L_f_law_rest3_2, c5, m5, L_f_law_rest3_2_2, es, L_f_law_rest3_2_3, z1, g0, g1, L_f_law_rest3_2_4, hr, g3, L_f_law_rest3_2_5, hvv⟩ <;> rfl), _, _, _, rfl⟩
    · exact ⟨_, _, by ktf_call ⟨rb_ok⟩ <;> rfl, .inl (by ktf_call ⟨L_f_law_rest3_2, c5, m5, L_f_law_rest3_2_2, es, L_f_law_rest3_2_3, z1, g0, g1, L_f_law_rest3_2_4, hr, L_f_law_rest3_2_5, hvv⟩ <;> rfl), _, _, _, rfl⟩)
  exact ⟨x, y, z, _, e⟩
/-- the boards that the law lays -/
theorem loop_covers (h : Int) (hh : 0 ≤ h ∧ h ≤ 1000) (U : List Int) (hl : U.length ≤ 900) (d ro c s3 s4 s5 s6 s7 s8 s11 : S) (T : List S) : ∃ x, forL (.n 7) L_f_law_rest3_1 ((rgI 0 U.length).map .int) (d :: ro :: c :: s3 :: s4 :: s5 :: s6 :: s7 :: s8 :: .d (.lst (U.map .int)) :: .d (.int h) :: s11 :: .l [] :: T) = .nx (d :: ro :: c :: s3 :: s4 :: s5 :: s6 :: x :: s8 :: .d (.lst (U.map .int)) :: .d (.int h) :: s11 :: .l ((cov (2 * h) [] U.reverse).map .int) :: T) := by
  obtain ⟨ρ', e, x, rfl⟩ := for_nx (t := .n 7) (body := L_f_law_rest3_1) D.int (fun i ρ => ∃ x, ρ = d :: ro :: c :: s3 :: s4 :: s5 :: s6 :: x :: s8 :: .d (.lst (U.map .int)) :: .d (.int h) :: s11 :: .l ((cov (2 * h) [] (U.reverse.take i)).map .int) :: T) (rgI 0 U.length) (ρ := d :: ro :: c :: s3 :: s4 :: s5 :: s6 :: s7 :: s8 :: .d (.lst (U.map .int)) :: .d (.int h) :: s11 :: .l [] :: T) ⟨_, rfl⟩ (by
    rintro i j _ hi ⟨x, rfl⟩
    have hk := rgI_get hi
    rw [Int.zero_add] at hk
    obtain ⟨rfl, hil⟩ := hk
    have hg := nth_get (ns := U.reverse) (i := i) (by rw [List.length_reverse]; omega)
    rw [nth_rev (by omega), Int.toNat_natCast] at hg
    rw [take_snoc hg, cov_step]
    have hm := (cov_mem (2 * h) (U.reverse.take i) []).2
    rw [List.length_take, List.length_reverse, List.length_nil] at hm
    generalize cov (2 * h) [] (U.reverse.take i) = A at *
    by_cases hq : A.sum < 2 * h
    · rw [if_pos hq, List.map_append]
      exact ⟨_, _, by ktf_call ⟨rb_ok⟩ <;> rfl, .inl (by ktf_call ⟨L_f_law_rest3_1, hq⟩ <;> rfl), _, rfl⟩
    · rw [if_neg hq]
      exact ⟨_, _, by ktf_call ⟨rb_ok⟩ <;> rfl, .inl (by ktf_call ⟨L_f_law_rest3_1, hq⟩ <;> rfl), _, rfl⟩)
  rw [rgI_length, List.take_of_length_le (by rw [List.length_reverse]; exact Nat.le_refl _)] at e
  exact ⟨x, e⟩
/-! ### hoops -/
def hpO (l e m t : Int) (P : List Int) (w lap : Int) : S := .o 10 [.d (.obj 8 [.int l, .int e, .int m, .int t]), .d (.tup (P.map .int)), .d (.int w), .d (.int lap)]
theorem hp_c1 (P : List Int) (c a b : S) (hl : P.length ≤ 1000) : C_m_Hoops_init_1 [.o 10 [], c, .l (P.map .int), a, b] = .ok (.d (.bl ((rgI 1 ((P.length : Int) - 1).toNat).any fun k => decide (nth P k ≤ nth P (k - 1))))) [.o 10 [], c, .l (P.map .int), a, b] := by
  ktf_call ⟨C_m_Hoops_init_1⟩
  rw [any_ok D.int _ (fun _ => true) (fun k => decide (nth P k ≤ nth P (k - 1))) fun k hk own ho => ?_]
  · ktf_call ⟨rb_ok⟩
  · have := mem_rgI.mp hk
    obtain ⟨a, rfl⟩ := len1 ho
    exact ⟨[.d (.int k)], rfl, rfl, rfl, fun _ => by ktf_call ⟨rb_ok⟩⟩
def outB (l w p : Int) : Bool := !(if 0 ≤ p then decide (p ≤ l - w) else false)
theorem hp_c2 (l e m t w : Int) (P : List Int) (b : S) : C_m_Hoops_init_2 [.o 10 [], cO l e m t, .l (P.map .int), .d (.int w), b] = .ok (.d (.bl (P.any (outB l w)))) [.o 10 [], cO l e m t, .d (.lst (P.map .int)), .d (.int w), b] := by
  unfold cO
  ktf_call ⟨C_m_Hoops_init_2⟩
  rw [any_ok D.int _ (fun _ => true) (outB l w) fun p hp own ho => ?_]
  · ktf_call ⟨rb_ok⟩
  · obtain ⟨a, rfl⟩ := len1 ho
    exact ⟨[.d (.int p)], rfl, rfl, rfl, fun _ => by
      unfold outB
      by_cases h0 : 0 ≤ p <;> ktf_call ⟨h0⟩⟩
theorem hp_c2D (l e m t w : Int) (P : List Int) (b : S) : C_m_Hoops_init_2 [.o 10 [], cD l e m t, .l (P.map .int), .d (.int w), b] = .ok (.d (.bl (P.any (outB l w)))) [.o 10 [], cD l e m t, .d (.lst (P.map .int)), .d (.int w), b] := by
  unfold cD
  ktf_call ⟨C_m_Hoops_init_2⟩
  rw [any_ok D.int _ (fun _ => true) (outB l w) fun p hp own ho => ?_]
  · ktf_call ⟨rb_ok⟩
  · obtain ⟨a, rfl⟩ := len1 ho
    exact ⟨[.d (.int p)], rfl, rfl, rfl, fun _ => by
      unfold outB
      by_cases h0 : 0 ≤ p <;> ktf_call ⟨h0⟩⟩
theorem hp_c3 (P : List Int) (c b : S) (w : Int) (hl : P.length ≤ 1000) : C_m_Hoops_init_3 [.o 10 [], c, .d (.lst (P.map .int)), .d (.int w), b] = .ok (.d (.bl ((rgI 1 ((P.length : Int) - 1).toNat).any fun k => decide (nth P k - nth P (k - 1) < w)))) [.o 10 [], c, .d (.lst (P.map .int)), .d (.int w), b] := by
  ktf_call ⟨C_m_Hoops_init_3⟩
  rw [any_ok D.int _ (fun _ => true) (fun k => decide (nth P k - nth P (k - 1) < w)) fun k hk own ho => ?_]
  · ktf_call ⟨rb_ok⟩
  · have := mem_rgI.mp hk
    obtain ⟨a, rfl⟩ := len1 ho
    exact ⟨[.d (.int k)], rfl, rfl, rfl, fun _ => by ktf_call ⟨rb_ok⟩⟩
structure VP (l w : Int) (P : List Int) : Prop where
  inc : ∀ k : Int, 0 < k → k < P.length → nth P (k - 1) + w ≤ nth P k
  bd : ∀ p ∈ P, 0 ≤ p ∧ p ≤ l - w
  len : P.length ≤ 20
theorem hoops_init (l e m t w lap : Int) (P : List Int) (hw : 1 ≤ w) (hl : 0 ≤ lap) (h : VP l w P) : op_m_Hoops_init [.o 10 [], cO l e m t, .l (P.map .int), .d (.int w), .d (.int lap)] = .ok (.d .non) [hpO l e m t P w lap, cD l e m t, .d (.lst (P.map .int)), .d (.int w), .d (.int lap)] := by
  have hlen := h.len
  have e1 := hp_c1 P (cO l e m t) (.d (.int w)) (.d (.int lap)) (by omega)
  have e2 := hp_c2 l e m t w P (.d (.int lap))
  have e3 := hp_c3 P (cO l e m t) (.d (.int lap)) w (by omega)
  have a1 : ((rgI 1 ((P.length : Int) - 1).toNat).any fun k => decide (nth P k ≤ nth P (k - 1))) = false := by
    rw [List.any_eq_false]
    intro k hk
    have := mem_rgI.mp hk
    have := h.inc k (by omega) (by omega)
    simp
    omega
  have a2 : P.any (outB l w) = false := by
    rw [List.any_eq_false]
    intro p hp
    have := h.bd p hp
    unfold outB
    rw [if_pos this.1, decide_eq_true this.2]
    simp
  have a3 : ((rgI 1 ((P.length : Int) - 1).toNat).any fun k => decide (nth P k - nth P (k - 1) < w)) = false := by
    rw [List.any_eq_false]
    intro k hk
    have := mem_rgI.mp hk
    have := h.inc k (by omega) (by omega)
    simp
    omega
  rw [a1] at e1
  rw [a2] at e2
  rw [a3] at e3
  unfold cO cD at *
  ktf_call ⟨op_m_Hoops_init, b_m_Hoops_init, b_m_Hoops_init_2, b_m_Hoops_init_3, b_m_Hoops_init_4, b_m_Hoops_init_5, b_m_Hoops_init_6, b_m_Hoops_init_7, e1, e2, e3, hpO⟩
/-- wrong ones -/
theorem hoops_X0 (l e m t : Int) (hl : 0 ≤ l) : op_m_Hoops_init [.o 10 [], cD l e m t, .l [.int l], .d (.int 1), .d (.int 0)] = .exc 0 .non [.o 10 [], cD l e m t, .d (.lst [.int l]), .d (.int 1), .d (.int 0)] := by
  have e1 := hp_c1 [l] (cD l e m t) (.d (.int 1)) (.d (.int 0)) (by simp)
  have e2 := hp_c2D l e m t 1 [l] (.d (.int 0))
  rw [show (rgI 1 (([l].length : Int) - 1).toNat).any (fun k => decide (nth [l] k ≤ nth [l] (k - 1))) = false by rfl] at e1
  rw [show [l].any (outB l 1) = true by simp [outB, hl]; omega] at e2
  unfold cD at *
  simp only [List.map_cons, List.map_nil] at e1 e2
  ktf_call ⟨op_m_Hoops_init, b_m_Hoops_init, b_m_Hoops_init_2, e1, e2⟩
theorem hoops_X1 (l e m t : Int) (hl : 10 ≤ l) : op_m_Hoops_init [.o 10 [], cD l e m t, .l [.int 0, .int 1], .d (.int 2), .d (.int 0)] = .exc 2 .non [.o 10 [], cD l e m t, .d (.lst [.int 0, .int 1]), .d (.int 2), .d (.int 0)] := by
  have e1 := hp_c1 [0, 1] (cD l e m t) (.d (.int 2)) (.d (.int 0)) (by simp)
  have e2 := hp_c2D l e m t 2 [0, 1] (.d (.int 0))
  have e3 := hp_c3 [0, 1] (cD l e m t) (.d (.int 0)) 2 (by simp)
  rw [show (rgI 1 (([(0 : Int), 1].length : Int) - 1).toNat).any (fun k => decide (nth [0, 1] k ≤ nth [0, 1] (k - 1))) = false by rfl] at e1
  rw [show [(0 : Int), 1].any (outB l 2) = false by simp [outB]; omega] at e2
  rw [show (rgI 1 (([(0 : Int), 1].length : Int) - 1).toNat).any (fun k => decide (nth [0, 1] k - nth [0, 1] (k - 1) < 2)) = true by rfl] at e3
  unfold cD at *
  simp only [List.map_cons, List.map_nil] at e1 e2 e3
  ktf_call ⟨op_m_Hoops_init, b_m_Hoops_init, b_m_Hoops_init_2, b_m_Hoops_init_3, e1, e2, e3⟩
theorem hoops_X2 (l e m t : Int) : op_m_Hoops_init [.o 10 [], cD l e m t, .l [.int 1, .int 1], .d (.int 1), .d (.int 0)] = .exc 2 .non [.o 10 [], cD l e m t, .l [.int 1, .int 1], .d (.int 1), .d (.int 0)] := by
  have e1 := hp_c1 [1, 1] (cD l e m t) (.d (.int 1)) (.d (.int 0)) (by simp)
  rw [show (rgI 1 (([(1 : Int), 1].length : Int) - 1).toNat).any (fun k => decide (nth [1, 1] k ≤ nth [1, 1] (k - 1))) = true by rfl] at e1
  unfold cD at *
  simp only [List.map_cons, List.map_nil] at e1
  ktf_call ⟨op_m_Hoops_init, b_m_Hoops_init, e1⟩
/-- iron -/
def irn (l e m w lap : Int) (P : List Int) : List Int := P.map fun p => arn (hat l e m (p + w / 2)) + lap
theorem hoops_lengths (l e m t w lap : Int) (P : List Int) (hl : 1 ≤ l ∧ l ≤ 1000) (he : 0 ≤ e) (hm : e ≤ m) (hw : 1 ≤ w) (h : VP l w P) : op_m_Hoops_lengths [hpO l e m t P w lap] = .ok (.d (.tup ((irn l e m w lap P).map .int))) [hpO l e m t P w lap] := by
  have hlen := h.len
  unfold hpO
  ktf_call ⟨op_m_Hoops_lengths, b_m_Hoops_lengths, C_m_Hoops_lengths_1⟩
  rw [comp_allI D.int _ (fun p => arn (hat l e m (p + w / 2)) + lap) [.o 10 [.d (.obj 8 [.int l, .int e, .int m, .int t]), .d (.tup (P.map .int)), .d (.int w), .d (.int lap)], .gone] rfl (by omega) fun p hp => ?_]
  · ktf_call ⟨irn⟩
  · have := h.bd p hp
    have hh := cask_half_atD l e m t (p + w / 2) hl (by omega)
    have hi := hat_in (l := l) (e := e) (m := m) (p := p + w / 2) hl.1 (by omega) hm
    have ar := around_ok (hat l e m (p + w / 2)) (by omega)
    unfold cD at hh
    exact ⟨_, rfl, _, by ktf_call ⟨hh, ar⟩ <;> rfl, rfl⟩
theorem hoops_iron (l e m t w lap : Int) (P : List Int) (hl : 1 ≤ l ∧ l ≤ 1000) (he : 0 ≤ e) (hm : e ≤ m) (hw : 1 ≤ w) (h : VP l w P) : op_m_Hoops_iron [hpO l e m t P w lap] = .ok (.d (.int (irn l e m w lap P).sum)) [hpO l e m t P w lap] := by
  have e1 := hoops_lengths l e m t w lap P hl he hm hw h
  unfold hpO at *
  ktf_call ⟨op_m_Hoops_iron, b_m_Hoops_iron, e1⟩
theorem hoops_key (l e m t w lap : Int) (P : List Int) : op_m_Hoops_key [hpO l e m t P w lap] = .ok (.d (.tup [.tup [.int l, .int e, .int m, .int t], .tup (P.map .int), .int w, .int lap])) [hpO l e m t P w lap] := by
  have e1 := cask_keyD l e m t
  unfold hpO cD at *
  ktf_call ⟨op_m_Hoops_key, b_m_Hoops_key, e1⟩
def drv (h s p : Int) : Int := if p ≤ h then (if p + s < h then p + s else h) else (if p - s > h then p - s else h)
theorem hoops_driven (l e m t w lap s : Int) (P : List Int) (hn : P.length ≤ 900) : op_m_Hoops_driven [hpO l e m t P w lap, .d (.int s)] = .ok (.d (.tup ((P.map (drv ((l - w) / 2) s)).map .int))) [hpO l e m t P w lap, .d (.int s)] := by
  obtain ⟨ρ', lp, x, rfl⟩ := for_nx (t := .n 4) (body := L_m_Hoops_driven_1) D.int (fun i ρ => ∃ x, ρ = [hpO l e m t P w lap, .d (.int s), .l (((P.take i).map (drv ((l - w) / 2) s)).map .int), .d (.int ((l - w) / 2)), x]) P (ρ := [hpO l e m t P w lap, .d (.int s), .l [], .d (.int ((l - w) / 2)), .gone]) ⟨_, rfl⟩ (by
    rintro i p _ hi ⟨x, rfl⟩
    have hlen : (P.take i).length < 1000 := by rw [List.length_take]; omega
    have es : ((P.take (i + 1)).map (drv ((l - w) / 2) s)).map D.int = ((P.take i).map (drv ((l - w) / 2) s)).map D.int ++ [.int (drv ((l - w) / 2) s p)] := by
      rw [take_snoc hi, List.map_append, List.map_append]
      rfl
    rw [es]
    by_cases hq : p ≤ (l - w) / 2
    · exact ⟨_, _, by ktf_call ⟨rb_ok⟩ <;> rfl, .inl (by ktf_call ⟨L_m_Hoops_driven_1, hq, drv⟩ <;> rfl), _, rfl⟩
    · exact ⟨_, _, by ktf_call ⟨rb_ok⟩ <;> rfl, .inl (by ktf_call ⟨L_m_Hoops_driven_1, hq, drv⟩ <;> rfl), _, rfl⟩)
  rw [List.take_length] at lp
  unfold hpO at *
  ktf_call ⟨op_m_Hoops_driven, b_m_Hoops_driven, b_m_Hoops_driven_2, b_m_Hoops_driven_3, b_m_Hoops_driven_4, lp⟩
def bck (l w : Int) (P : List Int) : List Int := P.reverse.map fun p => l - w - p
theorem hoops_mirrored (l e m t w lap : Int) (P : List Int) (hn : P.length ≤ 900) : op_m_Hoops_mirrored [hpO l e m t P w lap] = .ok (.d (.bl (decide (bck l w P = P)))) [hpO l e m t P w lap] := by
  have q := opEq_tints false (bck l w P) P
  unfold hpO
  ktf_call ⟨op_m_Hoops_mirrored, b_m_Hoops_mirrored, C_m_Hoops_mirrored_1⟩
  rw [comp_allI D.int _ (fun p => l - w - p) [.o 10 [.d (.obj 8 [.int l, .int e, .int m, .int t]), .d (.tup (P.map .int)), .d (.int w), .d (.int lap)], .gone, .gone] rfl (by rw [List.length_reverse]; omega) fun p hp => ?_]
  · have eb : P.reverse.map (fun p => l - w - p) = bck l w P := rfl
    ktf_call ⟨eb, b_m_Hoops_mirrored_2, q, Bool.false_eq_true⟩
  · exact ⟨_, rfl, _, by ktf_call ⟨rb_ok⟩ <;> rfl, rfl⟩
def gps (l w : Int) (P : List Int) : List Int := (rgI 1 (((P.length : Int) + 2) - 1).toNat).map fun k => nth ((0 - w) :: (P ++ [l])) k - nth ((0 - w) :: (P ++ [l])) (k - 1) - w
theorem gps_ne (l w : Int) (P : List Int) : gps l w P ≠ [] := fun z => by
  have := congrArg List.length z
  unfold gps at this
  rw [List.length_map, rgI_length] at this
  simp at this
  omega
theorem hoops_gap (l e m t w lap : Int) (P : List Int) (hn : P.length ≤ 900) : op_m_Hoops_widest_gap [hpO l e m t P w lap] = .ok (.d (.int (maxL (gps l w P)))) [hpO l e m t P w lap] := by
  have mx := opMax_ints (.l ((gps l w P).map .int)) _ rfl (gps_ne l w P)
  have eM : D.int (0 - w) :: (P.map D.int ++ [D.int l]) = ((0 - w) :: (P ++ [l])).map D.int := by simp
  have c1 : C_m_Hoops_widest_gap_1 [hpO l e m t P w lap, .l (((0 - w) :: (P ++ [l])).map .int), .gone] = .ok (.l ((gps l w P).map .int)) [hpO l e m t P w lap, .l (((0 - w) :: (P ++ [l])).map .int), .gone] := by
    have el : ((0 - w) :: (P ++ [l])).length = P.length + 2 := by simp
    unfold gps
    generalize (0 - w) :: (P ++ [l]) = Mk at *
    have e2 : (((P.length + 2 : Nat) : Int) - 1).toNat = (((P.length : Int) + 2) - 1).toNat := by omega
    unfold hpO
    ktf_call ⟨C_m_Hoops_widest_gap_1, el, e2⟩
    rw [comp_allI D.int _ (fun k => nth Mk k - nth Mk (k - 1) - w) [.o 10 [.d (.obj 8 [.int l, .int e, .int m, .int t]), .d (.tup (P.map .int)), .d (.int w), .d (.int lap)], .l (Mk.map .int), .gone] rfl (by rw [rgI_length]; omega) fun k hk => ?_]
    · ktf_call ⟨rb_ok⟩
    · have := mem_rgI.mp hk
      exact ⟨_, rfl, _, by ktf_call ⟨el⟩ <;> rfl, rfl⟩
  rw [show ((0 - w) :: (P ++ [l])).map D.int = D.int (0 - w) :: (P ++ [l]).map D.int from rfl] at c1
  unfold hpO at *
  ktf_call ⟨op_m_Hoops_widest_gap, b_m_Hoops_widest_gap, b_m_Hoops_widest_gap_2, eM, c1, mx⟩
/-! ### strips -/
def ffF (L : List Int) (s : Int) : List Int := (rgI 0 L.length).filter fun k => decide (s ≤ nth L k)
def ff (S : Int) (L : List Int) (s : Int) : List Int := if ffF L s = [] then L ++ [S - s] else L.set (nth (ffF L s) 0).toNat (nth L (nth (ffF L s) 0) - s)
theorem ff_length (S s : Int) (L : List Int) : (ff S L s).length ≤ L.length + 1 := by
  unfold ff
  split <;> simp
theorem ffF_in {L : List Int} {s : Int} (h : ffF L s ≠ []) : 0 < (ffF L s).length ∧ 0 ≤ nth (ffF L s) 0 ∧ nth (ffF L s) 0 < L.length := by
  have hp : 0 < (ffF L s).length := List.length_pos_iff.mpr h
  have hm : nth (ffF L s) 0 ∈ ffF L s := nth_mem (by omega)
  have := mem_rgI.mp (List.mem_filter.mp hm).1
  omega
theorem enF (L : List Int) (s : Int) : ((enI L).filter fun p => decide (s ≤ p.2)).map (fun p => p.1) = ffF L s := by
  unfold enI ffF
  rw [List.filter_map, List.map_map]
  exact List.map_id' _
theorem strips_c1 (L : List Int) (W : S) (S s : Int) (x4 : _root_.DL.S) (hl : L.length ≤ 1000) : C_f_strips_for_1 [W, .d (.int S), .l (L.map .int), .d (.int s), x4, .gone, .gone] = .ok (.l ((ffF L s).map .int)) [W, .d (.int S), .l (L.map .int), .d (.int s), x4, .gone, .gone] := by
  have hen : (enI L).length ≤ 100000 := by unfold enI; rw [List.length_map, rgI_length]; omega
  ktf_call ⟨C_f_strips_for_1⟩
  rw [comp_okI pD (enI L) (fun p => decide (s ≤ p.2)) (fun p => p.1) [W, .d (.int S), .gone, .d (.int s), x4, .gone, .gone] rfl hen fun p hp => ?_]
  · rw [enF]
    ktf_call ⟨rb_ok⟩
  · exact ⟨_, by ktf_call ⟨pD⟩ <;> rfl, _, by ktf_call ⟨rb_ok⟩ <;> rfl, fun _ => rfl, fun _ => ⟨_, by ktf_call ⟨rb_ok⟩ <;> rfl, rfl⟩⟩
theorem strips_loop (W : S) (S : Int) : ∀ (r L : List Int) (x3 x4 : _root_.DL.S), (∀ v ∈ r, v ≤ S) → L.length + r.length ≤ 900 → ∃ y3 y4, forL (.n 3) L_f_strips_for_1 (r.map .int) [W, .d (.int S), .l (L.map .int), x3, x4, .gone, .gone] = .nx [W, .d (.int S), .l ((r.foldl (ff S) L).map .int), y3, y4, .gone, .gone]
  | [], L, x3, x4, _, _ => ⟨x3, x4, rfl⟩
  | s :: r, L, x3, x4, hv, hl => by
    rw [List.length_cons] at hl
    have hs : s ≤ S := hv s (by simp)
    have e1 := strips_c1 L W S s x4 (by omega)
    have q := opEq_ints false (.l ((ffF L s).map .int)) (.l []) (ffF L s) [] rfl rfl rfl rfl
    have hfl := ff_length S s L
    obtain ⟨y3, y4, ih⟩ := strips_loop W S r (ff S L s) (.d (.int s)) (.l ((ffF L s).map .int)) (fun v h => hv v (by simp [h])) (by omega)
    refine ⟨y3, y4, ?_⟩
    rw [List.foldl_cons, ← ih]
    by_cases hq : ffF L s = []
    · have ef : (ff S L s).map D.int = L.map D.int ++ [.int (S - s)] := by
        unfold ff
        rw [if_pos hq, List.map_append]
        rfl
      rw [ef]
      rw [hq, List.map_nil] at e1 q
      ktf_call ⟨L_f_strips_for_1, L_f_strips_for_1_2, L_f_strips_for_1_3, e1, q, hq, hs, Bool.false_eq_true, Int.not_lt, gt_iff_lt⟩
    · obtain ⟨h1, h2, h3⟩ := ffF_in hq
      have ef : (ff S L s) = L.set (nth (ffF L s) 0).toNat (nth L (nth (ffF L s) 0) - s) := by
        unfold ff
        rw [if_neg hq]
      have a0 : atI ((ffF L s).map D.int) 0 = some (.int (nth (ffF L s) 0)) := atI_int _ _ (by omega)
      have a1 : atI (L.map D.int) (nth (ffF L s) 0) = some (.int (nth L (nth (ffF L s) 0))) := atI_int _ _ (by omega)
      have a2 : ixN L.length (nth (ffF L s) 0) = some (nth (ffF L s) 0).toNat := ixN_pos _ _ (by omega)
      rw [ef]
      generalize ffF L s = F at *
      ktf_call ⟨L_f_strips_for_1, L_f_strips_for_1_2, L_f_strips_for_1_3, e1, q, hq, hs, a0, a1, a2, Bool.false_eq_true, Int.not_lt, gt_iff_lt⟩
theorem strips_ok (W : List Int) (S : Int) (h : ∀ v ∈ W, v ≤ S) (hl : W.length ≤ 900) : op_f_strips_for [.l (W.map .int), .d (.int S)] = .ok (.d (.int (((dn W).foldl (ff S) []).length : Nat))) [.l (W.map .int), .d (.int S)] := by
  have sr := e_srd_l W
  have hR := dn_length W
  obtain ⟨x, y, e⟩ := strips_loop (.l (W.map .int)) S (dn W) [] .gone .gone (fun v hv => h v ((dn_perm W).mem_iff.mp hv)) (by rw [hR]; simp; omega)
  rw [List.map_nil] at e
  ktf_call ⟨op_f_strips_for, b_f_strips_for, b_f_strips_for_2, b_f_strips_for_3, sr, e⟩
theorem strips_X : op_f_strips_for [.l [.int 5], .d (.int 4)] = .exc 5 .non [.l [.int 5], .d (.int 4)] := by kernel_rfl
/-! ### the refusals -/
theorem rest2_ok (l e m t : Int) (hl : 10 ≤ l ∧ l ≤ 1000) : op_f_law_rest2 [.d (.tup [.int l, .int e, .int m, .int t]), cD l e m t] = .ok (.d (.bl true)) [.d (.tup [.int l, .int e, .int m, .int t]), cD l e m t] := by
  have h1 := cask_half_atXD l e m t (l + 1) (by omega)
  have h2 := tapered_X l e m t
  have h3 := hoops_X0 l e m t (by omega)
  have h4 := hoops_X1 l e m t (by omega)
  have h5 := hoops_X2 l e m t
  have s := strips_X
  unfold cD at *
  ktf_call ⟨op_f_law_rest2, b_f_law_rest2, b_f_law_rest2_2, b_f_law_rest2_3, b_f_law_rest2_4, b_f_law_rest2_5, b_f_law_rest2_6, b_f_law_rest2_7, b_f_law_rest2_8, cases1_ok, h1, h2, h3, h4, h5, s, told0, told2, told5, q_size, q_plan, q_noway⟩
/-! ### the law's strips -/
theorem law_c6 (L : List Int) (s : Int) (d ro c s3 s4 s5 s6 s8 s9 s10 s11 s12 s13 s14 s15 s18 : S) (x7 : S) (hl : L.length ≤ 1000) : C_f_law_rest1_6 [d, ro, c, s3, s4, s5, s6, x7, s8, s9, s10, s11, s12, s13, s14, s15, .l (L.map .int), .d (.int s), s18] = .ok (.l ((ffF L s).map .int)) [d, ro, c, s3, s4, s5, s6, x7, s8, s9, s10, s11, s12, s13, s14, s15, .l (L.map .int), .d (.int s), s18] := by
  ktf_call ⟨C_f_law_rest1_6⟩
  rw [comp_ok D.int _ (fun k => decide (s ≤ nth L k)) D.int [d, ro, c, s3, s4, s5, s6, .gone, s8, s9, s10, s11, s12, s13, s14, s15, .l (L.map .int), .d (.int s), s18] rfl (by rw [rgI_length]; omega) fun k hk => ?_]
  · ktf_call ⟨ffF⟩
  · have := mem_rgI.mp hk
    exact ⟨_, rfl, _, by ktf_call ⟨rb_ok⟩ <;> rfl, fun _ => rfl, fun _ => ⟨_, by ktf_call ⟨rb_ok⟩ <;> rfl, rfl⟩⟩
theorem law_strips (S : Int) (d ro c s3 s4 s5 s6 x7 s8 s9 s10 s11 s12 s13 s14 : _root_.DL.S) : ∀ (r L : List Int) (x17 x18 : _root_.DL.S), L.length + r.length ≤ 900 → ∃ y17 y18, forL (.n 17) L_f_law_rest1_2 (r.map .int) [d, ro, c, s3, s4, s5, s6, x7, s8, s9, s10, s11, s12, s13, s14, .d (.int S), .l (L.map .int), x17, x18] = .nx [d, ro, c, s3, s4, s5, s6, x7, s8, s9, s10, s11, s12, s13, s14, .d (.int S), .l ((r.foldl (ff S) L).map .int), y17, y18]
  | [], L, x17, x18, _ => ⟨x17, x18, rfl⟩
  | s :: r, L, x17, x18, hl => by
    rw [List.length_cons] at hl
    have e1 := law_c6 L s d ro c s3 s4 s5 s6 s8 s9 s10 s11 s12 s13 s14 (.d (.int S)) x18 x7 (by omega)
    have q := opEq_ints false (.l ((ffF L s).map .int)) (.l []) (ffF L s) [] rfl rfl rfl rfl
    have q2 := opEq_ints true (.l ((ffF L s).map .int)) (.l []) (ffF L s) [] rfl rfl rfl rfl
    have hfl := ff_length S s L
    obtain ⟨y3, y4, ih⟩ := law_strips S d ro c s3 s4 s5 s6 x7 s8 s9 s10 s11 s12 s13 s14 r (ff S L s) (.d (.int s)) (.l ((ffF L s).map .int)) (by omega)
    refine ⟨y3, y4, ?_⟩
    rw [List.foldl_cons, ← ih]
    by_cases hq : ffF L s = []
    · have ef : (ff S L s).map D.int = L.map D.int ++ [.int (S - s)] := by
        unfold ff
        rw [if_pos hq, List.map_append]
        rfl
      rw [ef]
      rw [hq, List.map_nil] at e1 q q2
      ktf_call ⟨L_f_law_rest1_2, L_f_law_rest1_2_2, L_f_law_rest1_2_3, e1, q, q2, hq, Bool.false_eq_true⟩
    · obtain ⟨h1, h2, h3⟩ := ffF_in hq
      have ef : (ff S L s) = L.set (nth (ffF L s) 0).toNat (nth L (nth (ffF L s) 0) - s) := by
        unfold ff
        rw [if_neg hq]
      have a0 : atI ((ffF L s).map D.int) 0 = some (.int (nth (ffF L s) 0)) := atI_int _ _ (by omega)
      have a1 : atI (L.map D.int) (nth (ffF L s) 0) = some (.int (nth L (nth (ffF L s) 0))) := atI_int _ _ (by omega)
      have a2 : ixN L.length (nth (ffF L s) 0) = some (nth (ffF L s) 0).toNat := ixN_pos _ _ (by omega)
      rw [ef]
      generalize ffF L s = F at *
      ktf_call ⟨L_f_law_rest1_2, L_f_law_rest1_2_2, L_f_law_rest1_2_3, e1, q, q2, hq, a0, a1, a2, Bool.false_eq_true⟩
abbrev rT (l e m t : Int) : S := .d (.tup [.int l, .int e, .int m, .int t])
theorem loop_places (l e m t w lap : Int) (n : Nat) (hn : n ≤ 4) (hw : 1 ≤ w ∧ w ≤ 3) (a b c : Int) (x : S) (T : List S) : ∃ ρ', forL (.n 7) L_f_law_rest1_1 ((rgI 0 n).map .int) (.l [.int a, .int b, .int c] :: rT l e m t :: cO l e m t :: .d (.int w) :: .d (.int lap) :: .l [] :: .d (.int 0) :: x :: T) = .nx ρ' ∧
    ∃ a b c x h P, ρ' = .l [.int a, .int b, .int c] :: rT l e m t :: cO l e m t :: .d (.int w) :: .d (.int lap) :: .l (P.map .int) :: .d (.int h) :: x :: T ∧ VP l w P := by
  have key := for_nx (t := .n 7) (body := L_f_law_rest1_1) D.int (fun i ρ => ∃ a b c x h P, ρ = .l [.int a, .int b, .int c] :: rT l e m t :: cO l e m t :: .d (.int w) :: .d (.int lap) :: .l (P.map .int) :: .d (.int h) :: x :: T ∧ (P.length ≤ i ∧ 0 ≤ h ∧ h ≤ 100 * i) ∧ (∀ p ∈ P, (0 ≤ p ∧ p ≤ l - w) ∧ p + w ≤ h) ∧ (∀ k : Int, 0 < k → k < P.length → nth P (k - 1) + w ≤ nth P k)) (rgI 0 n) (ρ := .l [.int a, .int b, .int c] :: rT l e m t :: cO l e m t :: .d (.int w) :: .d (.int lap) :: .l [] :: .d (.int 0) :: x :: T) ⟨a, b, c, x, 0, [], rfl, ⟨by simp, by omega, by omega⟩, by simp, fun k h0 h1 => by simp at h1; omega⟩ ?_
  · obtain ⟨ρ', e1, a, b, c, x, h, P, rfl, h1, h2, h3⟩ := key
    rw [rgI_length] at h1
    exact ⟨_, e1, a, b, c, x, h, P, rfl, h3, fun p hp => (h2 p hp).1, by omega⟩
  · rintro i j _ hi ⟨a, b, c, x, h, P, rfl, h1, h2, h3⟩
    have hk := rgI_get hi
    rw [Int.zero_add] at hk
    obtain ⟨rfl, hi⟩ := hk
    obtain ⟨v, a1, b1, c1, r1, v0, v1⟩ := law_roll a b c 9 (by decide) (by decide)
    have ho : 0 ≤ h + w + v ∧ h + w + v ≤ 100 * ((i + 1 : Nat) : Int) := by omega
    unfold cO rT at *
    by_cases hq : h ≤ l - w
    · refine ⟨_, _, by ktf_call ⟨rb_ok⟩ <;> rfl, .inl (by ktf_call ⟨L_f_law_rest1_1, L_f_law_rest1_1_2, hq, r1⟩ <;> rfl), a1, b1, c1, .d (.int i), h + w + v, P ++ [h], ?_, ?_, ?_, ?_⟩
      · rw [List.map_append]
        rfl
      · rw [List.length_append, List.length_singleton]; omega
      · intro p hp
        rcases List.mem_append.mp hp with hp | hp
        · have := h2 p hp; omega
        · simp at hp; omega
      · intro k k0 k1
        rw [List.length_append, List.length_singleton] at k1
        by_cases hk : k < P.length
        · rw [nth_appL (by omega), nth_appL (by omega)]
          exact h3 k k0 hk
        · rw [nth_appL (by omega), nth_appR (by omega), show k - (P.length : Int) = 0 by omega, nth_0]
          exact (h2 _ (nth_mem (by omega))).2
    · refine ⟨_, _, by ktf_call ⟨rb_ok⟩ <;> rfl, .inl (by ktf_call ⟨L_f_law_rest1_1, L_f_law_rest1_1_2, hq, r1⟩ <;> rfl), a1, b1, c1, .d (.int i), h + w + v, P, rfl, by omega, fun p hp => by have := h2 p hp; omega, h3⟩
theorem bck_up (l w : Int) (P : List Int) (hw : 1 ≤ w) (h : VP l w P) : up (P.map fun p => l - w - p) = bck l w P := by
  refine up_unique ?_ ?_
  · unfold bck
    rw [List.map_reverse]
    exact List.reverse_perm _
  · refine nth_pw fun i j h0 h1 h2 => ?_
    have hl : (bck l w P).length = P.length := by unfold bck; simp
    have iA : ∀ (n : Nat) (i : Int), 0 ≤ i → i + n < P.length → nth P i ≤ nth P (i + n) := fun n => by
      induction n with
      | zero => intro i _ _; rw [show i + ((0 : Nat) : Int) = i by omega]; exact Int.le_refl _
      | succ n ih =>
        intro i k0 k1
        have q1 := ih i k0 (by omega)
        have q2 := h.inc (i + ((n + 1 : Nat) : Int)) (by omega) k1
        rw [show i + ((n + 1 : Nat) : Int) - 1 = i + n by omega] at q2
        omega
    unfold bck
    rw [nth_map _ (by rw [List.length_reverse]; omega), nth_map _ (by rw [List.length_reverse]; omega), nth_rev (by omega), nth_rev (by omega)]
    have := iA (j - i).toNat (P.length - 1 - j) (by omega) (by omega)
    rw [show (P.length : Int) - 1 - j + ((j - i).toNat : Nat) = P.length - 1 - i by omega] at this
    omega
theorem gps_law (l w : Int) (P : List Int) : (rgI 0 (P.length + 1)).map (fun k => nth (P ++ [l]) k - nth (0 :: P.map fun p => p + w) k) = gps l w P := by
  have e1 : (((P.length : Int) + 2) - 1).toNat = P.length + 1 := by omega
  unfold gps
  rw [e1]
  refine nth_ext (by simp [rgI_length]) fun i h0 h1 => ?_
  rw [List.length_map, rgI_length] at h1
  rw [nth_map _ (by rw [rgI_length]; omega), nth_map _ (by rw [rgI_length]; omega), nth_rgI (by omega), nth_rgI (by omega), Int.zero_add, nth_s (0 - w) (P ++ [l]) (i := 1 + i) (by omega), show (1 + i - 1 : Int) = i by omega]
  by_cases hi : i = 0
  · subst hi
    rw [nth_0, nth_0]
    omega
  · rw [nth_s _ _ (by omega), nth_s _ _ (by omega), nth_map _ (by omega), nth_appL (i := i - 1) (by omega)]
    omega
theorem e_ne_key (A : List Int) (l e m t w lap : Int) : opEq true [.d (.tup [.tup [.int l, .int e, .int m, .int t], .tup (A.map .int), .int w, .int lap]), .d (.tup [.tup [.int l, .int e, .int m, .int t], .tup (A.map .int), .int w, .int lap])] = .ok (.d (.bl false)) [.d (.tup [.tup [.int l, .int e, .int m, .int t], .tup (A.map .int), .int w, .int lap]), .d (.tup [.tup [.int l, .int e, .int m, .int t], .tup (A.map .int), .int w, .int lap])] :=
  opEq_same rfl rfl rfl 2 (by decide) (by
    intro x hx
    simp at hx
    rcases hx with rfl | rfl | rfl | rfl
    · intro y hy
      simp at hy
      rcases hy with rfl | rfl | rfl | rfl <;> trivial
    · intro y hy
      obtain ⟨z, _, rfl⟩ := List.mem_map.mp hy
      trivial
    · trivial
    · trivial)
theorem qs2 (L : List Int) : opEq true [.l (L.map .int), .l (L.map .int)] = .ok (.d (.bl false)) [.l (L.map .int), .l (L.map .int)] := by
  rw [opEq_ints true (.l (L.map .int)) (.l (L.map .int)) _ _ rfl rfl rfl rfl]
  simp
/-! the comprehensions of rest1 -/
section
variable (l e m t w lap : Int) (P : List Int) (d c s6 s7 s8 s9 x10 s11 s12 s13 s14 s15 s16 s17 s18 : S)
theorem r1_c1 (hl : 1 ≤ l ∧ l ≤ 1000) (he : 0 ≤ e) (hm : e ≤ m) (hw : 1 ≤ w) (h : VP l w P) : C_f_law_rest1_1 [d, rT l e m t, c, .d (.int w), .d (.int lap), .d (.lst (P.map .int)), s6, s7, s8, s9, x10, s11, s12, s13, s14, s15, s16, s17, s18] = .ok (.l ((irn l e m w lap P).map .int)) [d, rT l e m t, c, .d (.int w), .d (.int lap), .d (.lst (P.map .int)), s6, s7, s8, s9, x10, s11, s12, s13, s14, s15, s16, s17, s18] := by
  have hlen := h.len
  ktf_call ⟨C_f_law_rest1_1⟩
  rw [comp_allI D.int _ (fun p => arn (hat l e m (p + w / 2)) + lap) [d, rT l e m t, c, .d (.int w), .d (.int lap), .d (.lst (P.map .int)), s6, s7, s8, s9, .gone, s11, s12, s13, s14, s15, s16, s17, s18] rfl (by omega) fun p hp => ?_]
  · ktf_call ⟨irn⟩
  · have := h.bd p hp
    have hh := law_half l e m t (p + w / 2) hl (by omega)
    have ar := law_round (hat l e m (p + w / 2))
    unfold rT
    exact ⟨_, rfl, _, by ktf_call ⟨hh, ar⟩ <;> rfl, rfl⟩
theorem r1_c2 (s h : Int) (hn : P.length ≤ 100) : C_f_law_rest1_2 [d, rT l e m t, c, .d (.int w), .d (.int lap), .d (.lst (P.map .int)), s6, s7, s8, s9, x10, .d (.int s), .d (.int h), s13, s14, s15, s16, s17, s18] = .ok (.l ((P.map (drv h s)).map .int)) [d, rT l e m t, c, .d (.int w), .d (.int lap), .d (.lst (P.map .int)), s6, s7, s8, s9, x10, .d (.int s), .d (.int h), s13, s14, s15, s16, s17, s18] := by
  ktf_call ⟨C_f_law_rest1_2⟩
  rw [comp_allI D.int _ (drv h s) [d, rT l e m t, c, .d (.int w), .d (.int lap), .d (.lst (P.map .int)), s6, s7, s8, s9, .gone, .d (.int s), .d (.int h), s13, s14, s15, s16, s17, s18] rfl (by omega) fun p hp => ?_]
  · ktf_call ⟨rb_ok⟩
  · by_cases hq : p ≤ h
    · exact ⟨_, rfl, _, by ktf_call ⟨hq, drv⟩ <;> rfl, rfl⟩
    · exact ⟨_, rfl, _, by ktf_call ⟨hq, drv⟩ <;> rfl, rfl⟩
theorem r1_c3 (hn : P.length ≤ 100) : C_f_law_rest1_3 [d, rT l e m t, c, .d (.int w), .d (.int lap), .d (.lst (P.map .int)), s6, s7, s8, s9, x10, s11, s12, s13, s14, s15, s16, s17, s18] = .ok (.l ((P.map fun p => l - w - p).map .int)) [d, rT l e m t, c, .d (.int w), .d (.int lap), .d (.lst (P.map .int)), s6, s7, s8, s9, x10, s11, s12, s13, s14, s15, s16, s17, s18] := by
  ktf_call ⟨C_f_law_rest1_3⟩
  rw [comp_allI D.int _ (fun p => l - w - p) [d, rT l e m t, c, .d (.int w), .d (.int lap), .d (.lst (P.map .int)), s6, s7, s8, s9, .gone, s11, s12, s13, s14, s15, s16, s17, s18] rfl (by omega) fun p hp => ?_]
  · ktf_call ⟨rb_ok⟩
  · exact ⟨_, rfl, _, by ktf_call ⟨rb_ok⟩ <;> rfl, rfl⟩
theorem r1_c4 (hn : P.length ≤ 100) : C_f_law_rest1_4 [d, rT l e m t, c, .d (.int w), .d (.int lap), .d (.lst (P.map .int)), s6, s7, s8, s9, x10, s11, s12, s13, s14, s15, s16, s17, s18] = .ok (.l ((P.map fun p => p + w).map .int)) [d, rT l e m t, c, .d (.int w), .d (.int lap), .d (.lst (P.map .int)), s6, s7, s8, s9, x10, s11, s12, s13, s14, s15, s16, s17, s18] := by
  ktf_call ⟨C_f_law_rest1_4⟩
  rw [comp_allI D.int _ (fun p => p + w) [d, rT l e m t, c, .d (.int w), .d (.int lap), .d (.lst (P.map .int)), s6, s7, s8, s9, .gone, s11, s12, s13, s14, s15, s16, s17, s18] rfl (by omega) fun p hp => ?_]
  · ktf_call ⟨rb_ok⟩
  · exact ⟨_, rfl, _, by ktf_call ⟨rb_ok⟩ <;> rfl, rfl⟩
theorem r1_c5 (A B : List Int) (hA : A.length ≤ 200) (hB : B.length = A.length) (s5 : S) (s3 s4 : S) : C_f_law_rest1_5 [d, rT l e m t, c, s3, s4, s5, s6, s7, s8, s9, x10, s11, s12, .l (A.map .int), .l (B.map .int), s15, s16, s17, s18] = .ok (.l (((rgI 0 A.length).map fun k => nth B k - nth A k).map .int)) [d, rT l e m t, c, s3, s4, s5, s6, s7, s8, s9, x10, s11, s12, .l (A.map .int), .l (B.map .int), s15, s16, s17, s18] := by
  ktf_call ⟨C_f_law_rest1_5⟩
  rw [comp_allI D.int _ (fun k => nth B k - nth A k) [d, rT l e m t, c, s3, s4, s5, s6, .gone, s8, s9, x10, s11, s12, .l (A.map .int), .l (B.map .int), s15, s16, s17, s18] rfl (by rw [rgI_length]; omega) fun k hk => ?_]
  · ktf_call ⟨rb_ok⟩
  · have := mem_rgI.mp hk
    exact ⟨_, rfl, _, by ktf_call ⟨rb_ok⟩ <;> rfl, rfl⟩
end
theorem rest1_ok (l e m t : Int) (hl : 10 ≤ l ∧ l ≤ 1000) (he : 0 ≤ e) (hm : e ≤ m) (a0 b0 c0 : Int) : ∃ z, op_f_law_rest1 [.l [.int a0, .int b0, .int c0], rT l e m t, cO l e m t] = .ok (.d (.bl true)) [z, rT l e m t, cD l e m t] := by
  obtain ⟨v1, a1, b1, c1, r1, v1a, v1b⟩ := law_roll a0 b0 c0 3 (by decide) (by decide)
  obtain ⟨lap, a2, b2, c2, r2, v2a, v2b⟩ := law_roll a1 b1 c1 5 (by decide) (by decide)
  obtain ⟨v3, a3, b3, c3, r3, v3a, v3b⟩ := law_roll a2 b2 c2 5 (by decide) (by decide)
  obtain ⟨ρ2, lp, a4, b4, c4, x7, h6, P, rfl, vp⟩ := loop_places l e m t (1 + v1) lap v3.toNat (by omega) (by omega) a3 b3 c3 .gone [.gone, .gone, .gone, .gone, .gone, .gone, .gone, .gone, .gone, .gone, .gone]
  have hw : 1 ≤ 1 + v1 := by omega
  generalize hw1 : 1 + v1 = w at *
  have hlen := vp.len
  have hin := hoops_init l e m t w lap P hw v2a vp
  have hle := hoops_lengths l e m t w lap P (by omega) he hm hw vp
  have hir := hoops_iron l e m t w lap P (by omega) he hm hw vp
  have hke := hoops_key l e m t w lap P
  obtain ⟨v5, a5, b5, c5, r5, v5a, v5b⟩ := law_roll a4 b4 c4 9 (by decide) (by decide)
  have hdr := hoops_driven l e m t w lap v5 P (by omega)
  have hmi := hoops_mirrored l e m t w lap P (by omega)
  have hga := hoops_gap l e m t w lap P (by omega)
  have k1 := fun d c s6 s7 s8 s9 x10 s11 s12 s13 s14 s15 s16 s17 s18 => r1_c1 l e m t w lap P d c s6 s7 s8 s9 x10 s11 s12 s13 s14 s15 s16 s17 s18 (by omega) he hm hw vp
  have k2 := fun d c s6 s7 s8 s9 x10 s13 s14 s15 s16 s17 s18 => r1_c2 l e m t w lap P d c s6 s7 s8 s9 x10 s13 s14 s15 s16 s17 s18 v5 ((l - w) / 2) (by omega)
  have k3 := fun d c s6 s7 s8 s9 x10 s11 s12 s13 s14 s15 s16 s17 s18 => r1_c3 l e m t w lap P d c s6 s7 s8 s9 x10 s11 s12 s13 s14 s15 s16 s17 s18 (by omega)
  have k4 := fun d c s6 s7 s8 s9 x10 s11 s12 s13 s14 s15 s16 s17 s18 => r1_c4 l e m t w lap P d c s6 s7 s8 s9 x10 s11 s12 s13 s14 s15 s16 s17 s18 (by omega)
  have k5 := fun d c s6 s7 s8 s9 x10 s11 s12 s15 s16 s17 s18 s5 s3 s4 => r1_c5 l e m t d c s6 s7 s8 s9 x10 s11 s12 s15 s16 s17 s18 (0 :: P.map fun p => p + w) (P ++ [l]) (by simp; omega) (by simp) s5 s3 s4
  have eL : (0 :: P.map fun p => p + w).length = P.length + 1 := by simp
  rw [eL, gps_law] at k5
  have srt := e_srt_l (P.map fun p => l - w - p)
  rw [bck_up l w P hw vp] at srt
  have qb := opEq_ints false (.d (.lst (P.map .int))) (.l ((bck l w P).map .int)) P (bck l w P) rfl rfl rfl rfl
  have qd := qs2 (P.map (drv ((l - w) / 2) v5))
  have qi := qs2 (irn l e m w lap P)
  have qk := e_ne_key P l e m t w lap
  have mxg := opMax_ints (.l ((gps l w P).map .int)) _ rfl (gps_ne l w P)
  have il : (irn l e m w lap P).length = P.length := by unfold irn; simp
  generalize irn l e m w lap P = I at *
  have mxi := opMax_ints (.l ((I ++ [0]).map .int)) _ rfl (by simp)
  rw [List.map_append, List.map_cons, List.map_nil] at mxi
  obtain ⟨v6, a6, b6, c6, r6, v6a, v6b⟩ := law_roll a5 b5 c5 90 (by decide) (by decide)
  have st := strips_ok I (1 + maxL (I ++ [0]) + v6) (fun v hv => by have := maxL_ge (xs := I ++ [0]) (y := v) (by simp [hv]); omega) (by omega)
  obtain ⟨y17, y18, lst⟩ := law_strips (1 + maxL (I ++ [0]) + v6) (.l [.int a6, .int b6, .int c6]) (rT l e m t) (cD l e m t) (.d (.int w)) (.d (.int lap)) (.d (.lst (P.map .int))) (.d (.int h6)) x7 (hpO l e m t P w lap) (.l (I.map .int)) .gone (.d (.int v5)) (.d (.int ((l - w) / 2))) (.l ((0 :: P.map fun p => p + w).map .int)) (.l ((P ++ [l]).map .int)) (dn I) [] .gone .gone (by rw [dn_length]; simp; omega)
  have rr := rest2_ok l e m t hl
  refine ⟨.l [.int a6, .int b6, .int c6], ?_⟩
  rw [List.map_nil] at lst
  rw [show (0 :: P.map fun p => p + w).map D.int = D.int 0 :: (P.map fun p => p + w).map D.int from rfl] at k5 lst
  rw [show (P ++ [l]).map D.int = P.map D.int ++ [D.int l] by simp] at k5 lst
  unfold rT cO cD hpO at *
  ktf_call ⟨op_f_law_rest1, b_f_law_rest1, b_f_law_rest1_2, b_f_law_rest1_3, r1, r2, r3, lp, hin, hw1⟩
  ktf_call ⟨b_f_law_rest1_4, b_f_law_rest1_5, k1, hle, hir, hke, qi, qk⟩
  ktf_call ⟨b_f_law_rest1_6, b_f_law_rest1_7, r5, hdr, k2, qd⟩
  ktf_call ⟨b_f_law_rest1_8, hmi, k3, srt, qb, @eq_comm _ P⟩
  ktf_call ⟨b_f_law_rest1_9, b_f_law_rest1_10, b_f_law_rest1_11, k4, k5, mxg, hga⟩
  ktf_call ⟨b_f_law_rest1_12, mxi, r6, b_f_law_rest1_13, lst⟩
  ktf_call ⟨b_f_law_rest1_14, st, b_f_law_rest1_15, rr⟩
theorem draw_widths (a0 b0 c0 : Int) (s1 s2 s3 s4 s5 : S) : ∃ (W : List Int) (a b c : Int), W.length ≤ 7 ∧ (∀ v ∈ W, 1 ≤ v ∧ v ≤ 9) ∧ C_f_law_rest3_1 [.l [.int a0, .int b0, .int c0], s1, s2, s3, s4, s5, .gone, .gone, .gone, .gone, .gone, .gone, .gone, .gone, .gone, .gone, .gone, .gone, .gone, .gone, .gone] = .ok (.l (W.map .int)) [.l [.int a, .int b, .int c], s1, s2, s3, s4, s5, .gone, .gone, .gone, .gone, .gone, .gone, .gone, .gone, .gone, .gone, .gone, .gone, .gone, .gone, .gone] := by
  obtain ⟨v, a1, b1, c1, r1, v0, v1⟩ := law_roll a0 b0 c0 8 (by decide) (by decide)
  obtain ⟨W, ρ', hl, hp, ⟨a, b, c, rfl⟩, e⟩ := comp_st (vs := [7]) (t := .n 7) (f := mOp (opOr (opI fAdd) opCatL) [.v (mCon (.int 1)), .v (mOp op_f_law_roll [.b 0, .v (mCon (.int 9))])]) (ρp := [.l [.int a1, .int b1, .int c1], s1, s2, s3, s4, s5, .gone, .gone, .gone, .gone, .gone, .gone, .gone, .gone, .gone, .gone, .gone, .gone, .gone, .gone, .gone]) (avs := [.s (.d (.int v))]) (xs := [.d (.int v)]) D.int (rgI 0 v.toNat) (fun ρ => ∃ a b c : Int, ρ = [.l [.int a, .int b, .int c], s1, s2, s3, s4, s5, .gone, .gone, .gone, .gone, .gone, .gone, .gone, .gone, .gone, .gone, .gone, .gone, .gone, .gone, .gone]) (fun v => 1 ≤ v ∧ v ≤ 9) ⟨a1, b1, c1, rfl⟩ (by rw [rgI_length]; omega) (by
    rintro x hx ρ ⟨a, b, c, rfl⟩
    obtain ⟨u, a2, b2, c2, r2, u0, u1⟩ := law_roll a b c 9 (by decide) (by decide)
    exact ⟨_, rfl, 1 + u, _, by ktf_call ⟨r2⟩ <;> rfl, by omega, a2, b2, c2, rfl⟩)
  rw [rgI_length] at hl
  refine ⟨W, a, b, c, by omega, hp, ?_⟩
  ktf_call ⟨C_f_law_rest3_1, r1, e⟩
/-! the comparisons of the turns -/
section
variable (s0 s1 s2 s3 s4 s5 s6 x7 : S) (R U : List Int) (T : List S)
theorem t_c2 (hU : U.length = R.length) (hl : R.length ≤ 1000) : C_f_law_rest3_2 (s0 :: s1 :: s2 :: s3 :: s4 :: s5 :: s6 :: x7 :: .d (.tup ((alL R).map .int)) :: .l (U.map .int) :: T) = .ok (.l (((rgI 0 (((R.length : Int) + 1) / 2).toNat).map (nth R)).map .int)) (s0 :: s1 :: s2 :: s3 :: s4 :: s5 :: s6 :: x7 :: .d (.tup ((alL R).map .int)) :: .l (U.map .int) :: T) := by
  have hA := alL_length R
  ktf_call ⟨C_f_law_rest3_2, hU⟩
  rw [comp_allI D.int _ (nth R) (s0 :: s1 :: s2 :: s3 :: s4 :: s5 :: s6 :: .gone :: .d (.tup ((alL R).map .int)) :: .l (U.map .int) :: T) rfl (by rw [rgI_length]; omega) fun k hk => ?_]
  · ktf_call ⟨rb_ok⟩
  · have := mem_rgI.mp hk
    have en := alL_nth R (2 * k) (by omega)
    unfold alT at en
    rw [if_pos (by omega), show 2 * k / 2 = k by omega] at en
    exact ⟨_, rfl, _, by ktf_call ⟨en⟩ <;> rfl, rfl⟩
theorem t_c3 (hU : R = U.reverse) (hl : R.length ≤ 1000) : C_f_law_rest3_3 (s0 :: s1 :: s2 :: s3 :: s4 :: s5 :: s6 :: x7 :: .d (.tup ((alL R).map .int)) :: .l (U.map .int) :: T) = .ok (.l (((rgI 0 (((R.length : Int) + 1) / 2).toNat).map (nth R)).map .int)) (s0 :: s1 :: s2 :: s3 :: s4 :: s5 :: s6 :: x7 :: .d (.tup ((alL R).map .int)) :: .l (U.map .int) :: T) := by
  have hlU : U.length = R.length := by rw [hU, List.length_reverse]
  ktf_call ⟨C_f_law_rest3_3, hlU⟩
  rw [comp_allI D.int _ (nth R) (s0 :: s1 :: s2 :: s3 :: s4 :: s5 :: s6 :: .gone :: .d (.tup ((alL R).map .int)) :: .l (U.map .int) :: T) rfl (by rw [rgI_length]; omega) fun k hk => ?_]
  · ktf_call ⟨rb_ok⟩
  · have := mem_rgI.mp hk
    have en : nth U ((R.length : Int) - 1 - k) = nth R k := by rw [hU, nth_rev (by omega), List.length_reverse]
    exact ⟨_, rfl, _, by ktf_call ⟨hlU, en⟩ <;> rfl, rfl⟩
theorem t_c4 (hU : R = U.reverse) (hl : R.length ≤ 1000) : C_f_law_rest3_4 (s0 :: s1 :: s2 :: s3 :: s4 :: s5 :: s6 :: x7 :: .d (.tup ((alL R).map .int)) :: .l (U.map .int) :: T) = .ok (.l ((U.take ((R.length : Int) / 2).toNat).map .int)) (s0 :: s1 :: s2 :: s3 :: s4 :: s5 :: s6 :: x7 :: .d (.tup ((alL R).map .int)) :: .l (U.map .int) :: T) := by
  have hlU : U.length = R.length := by rw [hU, List.length_reverse]
  have hA := alL_length R
  have et : (rgI 0 ((R.length : Int) / 2).toNat).map (nth U) = U.take ((R.length : Int) / 2).toNat := nth_ext (by rw [List.length_map, rgI_length, List.length_take]; omega) fun i h0 h1 => by
    rw [List.length_map, rgI_length] at h1
    rw [nth_map _ (by rw [rgI_length]; omega), nth_rgI (by omega), Int.zero_add]
    have : i.toNat < ((R.length : Int) / 2).toNat := by omega
    simp [nth, List.getD, List.getElem?_take, this]
  rw [← et]
  ktf_call ⟨C_f_law_rest3_4, hlU⟩
  rw [comp_allI D.int _ (nth U) (s0 :: s1 :: s2 :: s3 :: s4 :: s5 :: s6 :: .gone :: .d (.tup ((alL R).map .int)) :: .l (U.map .int) :: T) rfl (by rw [rgI_length]; omega) fun k hk => ?_]
  · ktf_call ⟨rb_ok⟩
  · have := mem_rgI.mp hk
    have en := alL_nth R (2 * k + 1) (by omega)
    unfold alT at en
    rw [if_neg (by omega), show (2 * k + 1) / 2 = k by omega, hU, nth_rev (by rw [List.length_reverse]; omega), List.length_reverse, show (U.length : Int) - 1 - ((U.length : Int) - 1 - k) = k by omega, ← hU] at en
    exact ⟨_, rfl, _, by ktf_call ⟨en⟩ <;> rfl, rfl⟩
end
theorem sum_le9 : ∀ (F : List Int), (∀ v ∈ F, v ≤ 9) → F.sum ≤ 9 * F.length
  | [], _ => by simp
  | x :: F, h => by
    have := sum_le9 F fun v hv => h v (by simp [hv])
    have := h x (by simp)
    rw [List.sum_cons, List.length_cons]
    omega
theorem e_ne_hk (h : Int) (A : List Int) : opEq true [.d (.tup [.int h, .tup (A.map .int)]), .d (.tup [.int h, .tup (A.map .int)])] = .ok (.d (.bl false)) [.d (.tup [.int h, .tup (A.map .int)]), .d (.tup [.int h, .tup (A.map .int)])] :=
  opEq_same rfl rfl rfl 2 (by decide) (by
    intro x hx
    simp at hx
    rcases hx with rfl | rfl
    · trivial
    · intro y hy
      obtain ⟨z, _, rfl⟩ := List.mem_map.mp hy
      trivial)
theorem e_ne_tn (A : List Int) : opEq true [.d (.tup (A.map .int)), .d (.str "no way")] = .ok (.d (.bl true)) [.d (.tup (A.map .int)), .d (.str "no way")] :=
  opEq_nostr true _ _ rfl rfl 1 (by decide) (by
    intro y hy
    obtain ⟨z, _, rfl⟩ := List.mem_map.mp hy
    trivial) (by decide +kernel)
theorem t_c6 (Z : List Int) (g : Int) (hg : 1 ≤ g ∧ g ≤ 1000) (hn : Z.length ≤ 900) (hz : ∀ k : Int, 0 ≤ k → k < Z.length → 0 ≤ nth Z k ∧ nth Z k ≤ 3000) (s0 s1 s2 s3 s4 s5 s6 x7 s8 s9 s10 s11 s12 s13 s14 s16 s17 s18 s19 : S) : C_f_law_rest3_6 [s0, s1, s2, s3, s4, s5, s6, x7, s8, s9, s10, s11, s12, s13, s14, .d (.tup (Z.map .int)), s16, s17, s18, s19, .d (.int g)] = .ok (.l (((rgI 1 ((Z.length : Int) - 1).toNat).map (pk Z g)).map .int)) [s0, s1, s2, s3, s4, s5, s6, x7, s8, s9, s10, s11, s12, s13, s14, .d (.tup (Z.map .int)), s16, s17, s18, s19, .d (.int g)] := by
  ktf_call ⟨C_f_law_rest3_6⟩
  rw [comp_allI D.int _ (pk Z g) [s0, s1, s2, s3, s4, s5, s6, .gone, s8, s9, s10, s11, s12, s13, s14, .d (.tup (Z.map .int)), s16, s17, s18, s19, .d (.int g)] rfl (by rw [rgI_length]; omega) fun k hk => ?_]
  · ktf_call ⟨rb_ok⟩
  · have := mem_rgI.mp hk
    have z1 := hz k (by omega) (by omega)
    have z2 := hz (k - 1) (by omega) (by omega)
    exact ⟨_, rfl, _, by ktf_call ⟨pk⟩ <;> rfl, rfl⟩
theorem rest3_ok (l e m t : Int) (hl : 10 ≤ l ∧ l ≤ 1000) (he : 0 ≤ e) (hm : e ≤ m) (a0 b0 c0 n tot : Int) (hn : 1 ≤ n ∧ n ≤ 500) : ∃ z, op_f_law_rest3 [.l [.int a0, .int b0, .int c0], rT l e m t, cO l e m t, .d (.int n), .d (.int tot), .d (.tup ((evn tot n).map .int))] = .ok (.d (.bl true)) [z, rT l e m t, cD l e m t, .d (.int n), .d (.int tot), .d (.tup ((evn tot n).map .int))] := by
  have es := evn_sum tot n (by omega)
  have ed := evn_dn tot n (by omega)
  have el := evn_length tot n
  have el2 : ((evn tot n).length : Int) = n := by omega
  have ene : evn tot n ≠ [] := fun z => by rw [z] at el; simp at el; omega
  have mx := opMax_ints (.d (.tup ((evn tot n).map .int))) _ rfl ene
  have mn := opMin_ints (.d (.tup ((evn tot n).map .int))) _ rfl ene
  have near := evn_near tot n (by omega)
  have n1 := near _ (maxL_mem ene)
  have n2 := near _ (minL_mem ene)
  have hmm : ¬ (maxL (evn tot n) - minL (evn tot n) > 1) := by omega
  have qe := qs2 (evn tot n)
  generalize evn tot n = E at *
  obtain ⟨W, a1, b1, c1, hW, hWp, cw⟩ := draw_widths a0 b0 c0 (rT l e m t) (cO l e m t) (.d (.int n)) (.d (.int tot)) (.d (.tup (E.map .int)))
  have al := alternated_ok W (by omega)
  have sw := e_srt_l W
  have sa := e_srt_dt (alL (dn W))
  rw [up_congr ((alL_perm (dn W)).trans ((dn_perm W).trans (up_perm W).symm)), up_unique (xs := up W) (List.Perm.refl _) (up_pw W)] at sa
  have hrv := dn_up W
  have lR := dn_length W
  have lU := up_length W
  have qu := qs2 (up W)
  obtain ⟨v2, a2, b2, c2, r2, v2a, v2b⟩ := law_roll a1 b1 c1 12 (by decide) (by decide)
  have hb := head_boards_ok (1 + v2) (by omega) W (by omega)
  have lc := fun d ro c s3 s4 s5 s6 s7 s8 s11 T => loop_covers (1 + v2) (by omega) (up W) (by omega) d ro c s3 s4 s5 s6 s7 s8 s11 T
  rw [← hrv] at lc
  have cl := cov_last (2 * (1 + v2)) (dn W) [] (.inl rfl)
  have cm := cov_mem (2 * (1 + v2)) (dn W) []
  have dm : ∀ v ∈ dn W, 1 ≤ v ∧ v ≤ 9 := fun v hv => hWp v ((dn_perm W).mem_iff.mp hv)
  have hF : ∀ v ∈ cov (2 * (1 + v2)) [] (dn W), 1 ≤ v ∧ v ≤ 9 := fun v hv => (cm.1 v hv).elim (fun z => by simp at z) (dm v)
  have lF := cm.2
  rw [List.length_nil, lR] at lF
  have sF := sum_le9 _ fun v hv => (hF v hv).2
  have k2 := fun s0 s1 s2 s3 s4 s5 s6 x7 T => t_c2 s0 s1 s2 s3 s4 s5 s6 x7 (dn W) (up W) T (by omega) (by omega)
  have k3 := fun s0 s1 s2 s3 s4 s5 s6 x7 T => t_c3 s0 s1 s2 s3 s4 s5 s6 x7 (dn W) (up W) T hrv (by omega)
  have k4 := fun s0 s1 s2 s3 s4 s5 s6 x7 T => t_c4 s0 s1 s2 s3 s4 s5 s6 x7 (dn W) (up W) T hrv (by omega)
  have q1 := qs2 ((rgI 0 ((((dn W).length : Int) + 1) / 2).toNat).map (nth (dn W)))
  have q2 := qs2 ((up W).take (((dn W).length : Int) / 2).toNat)
  have tk : ((up W).map D.int).take ((W.length : Int) / 2).toNat = ((up W).take (((dn W).length : Int) / 2).toNat).map D.int := by rw [lR, List.map_take]
  have h0 : 1 ≤ 1 + v2 ∧ 1 + v2 ≤ 12 := by omega
  generalize hh : 1 + v2 = h at *
  generalize hFF : cov (2 * h) [] (dn W) = F at *
  obtain ⟨x7, lcx⟩ := lc (.l [.int a2, .int b2, .int c2]) (rT l e m t) (cO l e m t) (.d (.int n)) (.d (.int tot)) (.d (.tup (E.map .int))) (.l (W.map .int)) .gone (.d (.tup ((alL (dn W)).map .int))) (if F.sum < 2 * h then .d (.str "no way") else .d (.tup (F.map .int))) [.gone, .gone, .gone, .gone, .gone, .gone, .gone, .gone]
  rw [lU] at lcx
  have start : ∀ z, (∃ ρ', b_f_law_rest3_9 [.l [.int a2, .int b2, .int c2], rT l e m t, cO l e m t, .d (.int n), .d (.int tot), .d (.tup (E.map .int)), .l (W.map .int), x7, .d (.tup ((alL (dn W)).map .int)), .d (.lst ((up W).map .int)), .d (.int h), (if F.sum < 2 * h then .d (.str "no way") else .d (.tup (F.map .int))), .l (F.map .int), .gone, .gone, .gone, .gone, .gone, .gone, .gone, .gone] = .rt (.d (.bl true)) (z :: rT l e m t :: cD l e m t :: .d (.int n) :: .d (.int tot) :: .d (.tup (E.map .int)) :: ρ')) → op_f_law_rest3 [.l [.int a0, .int b0, .int c0], rT l e m t, cO l e m t, .d (.int n), .d (.int tot), .d (.tup (E.map .int))] = .ok (.d (.bl true)) [z, rT l e m t, cD l e m t, .d (.int n), .d (.int tot), .d (.tup (E.map .int))] := by
    rintro z ⟨ρ', e9⟩
    unfold rT cO cD at *
    by_cases hq : F.sum < 2 * h
    · rw [if_pos hq] at hb e9 lcx
      ktf_call ⟨op_f_law_rest3, b_f_law_rest3, e_sum_dt, es, ed, el2, mx, mn, hmm, qe⟩
      ktf_call ⟨b_f_law_rest3_2, cw, b_f_law_rest3_3, al, sw, b_f_law_rest3_4, sa, qu, k2, k3, q1⟩
      ktf_call ⟨b_f_law_rest3_5, k4, q2, lU, tk, b_f_law_rest3_6, r2, hh⟩
      ktf_call ⟨b_f_law_rest3_7, hb, told5, b_f_law_rest3_8, lU, lcx, e9⟩
    · rw [if_neg hq] at hb e9 lcx
      ktf_call ⟨op_f_law_rest3, b_f_law_rest3, e_sum_dt, es, ed, el2, mx, mn, hmm, qe⟩
      ktf_call ⟨b_f_law_rest3_2, cw, b_f_law_rest3_3, al, sw, b_f_law_rest3_4, sa, qu, k2, k3, q1⟩
      ktf_call ⟨b_f_law_rest3_5, k4, q2, lU, tk, b_f_law_rest3_6, r2, hh⟩
      ktf_call ⟨b_f_law_rest3_7, hb, toldR_ok, b_f_law_rest3_8, lU, lcx, e9⟩
  by_cases hq : F.sum < 2 * h
  · obtain ⟨z, rr⟩ := rest1_ok l e m t hl he hm a2 b2 c2
    refine ⟨z, start z ⟨?_, ?_⟩⟩
    rotate_left
    have nq : ¬ (F.sum ≥ 2 * h) := by omega
    rw [if_pos hq]
    unfold rT cO cD at *
    ktf_call ⟨b_f_law_rest3_9, e_sum_l, nq, q_noway, b_f_law_rest3_10, b_f_law_rest3_11, rr, b_f_law_rest3_12⟩
    rfl
  · have Fne : F ≠ [] := fun z => by rw [z] at hq; simp at hq; omega
    have hi := head_init h F (by omega) Fne (fun v hv => (hF v hv).1) (by omega) (cl.resolve_left Fne)
    have ho := head_over h F (by omega)
    have hk := head_key h F
    obtain ⟨Z, hZ, lZ, zz⟩ := head_lengths h F (by omega) (fun v hv => by have := hF v hv; omega) (by omega) (by omega)
    have zb : ∀ k : Int, 0 ≤ k → k < Z.length → 0 ≤ nth Z k ∧ nth Z k ≤ 3000 := fun k k0 k1 => by
      obtain ⟨r, e1, e2, e3⟩ := zz k.toNat (by omega)
      have := e2.nn
      rw [Int.toNat_of_nonneg k0] at e1
      omega
    obtain ⟨v3, a3, b3, c3, r3, v3a, v3b⟩ := law_roll a2 b2 c2 9 (by decide) (by decide)
    have hp := head_pegs h F Z (1 + v3) (by omega) hZ zb (by omega)
    obtain ⟨z, rr⟩ := rest1_ok l e m t hl he hm a3 b3 c3
    have hb0 : bgn h F 0 = 0 - h - (F.sum - 2 * h) / 2 := by unfold bgn; simp
    obtain ⟨y7, y17, y19, y16, lh⟩ := loop_heads h F Z (by omega) (fun v hv => by have := hF v hv; omega) (by omega) (by omega) lZ zz (.l [.int a2, .int b2, .int c2]) (rT l e m t) (cO l e m t) (.d (.int n)) (.d (.int tot)) (.d (.tup (E.map .int))) (.l (W.map .int)) x7 (.d (.tup ((alL (dn W)).map .int))) (.d (.lst ((up W).map .int))) (.l (F.map .int)) (hO h F) (.d (.int (F.sum - 2 * h))) .gone .gone .gone
    rw [hb0] at lh
    have c6 := fun s0 s1 s2 s3 s4 s5 s6 x7 s8 s9 s10 s11 s12 s13 s14 s16 s17 s18 s19 => t_c6 Z (1 + v3) (by omega) (by omega) zb s0 s1 s2 s3 s4 s5 s6 x7 s8 s9 s10 s11 s12 s13 s14 s16 s17 s18 s19
    have qF := opEq_tints true F F
    have qh := e_ne_hk h F
    have qn := e_ne_tn F
    have nq : F.sum ≥ 2 * h := by omega
    have smZ := e_sum_l ((rgI 1 ((Z.length : Int) - 1).toNat).map (pk Z (1 + v3)))
    generalize hg : 1 + v3 = g at *
    refine ⟨z, start z ⟨?_, ?_⟩⟩
    rotate_left
    rw [if_neg hq]
    unfold rT cO cD hO at *
    ktf_call ⟨b_f_law_rest3_9, e_sum_l, nq, qF, b_f_law_rest3_10, qn, hi⟩
    ktf_call ⟨e_sum_dt, hZ, ho, hk, qh, lh⟩
    ktf_call ⟨r3, hg, hp, c6, smZ, b_f_law_rest3_11, rr, b_f_law_rest3_12⟩
    rfl
theorem hat_0 (l e m : Int) (hl : 1 ≤ l) : hat l e m 0 = e := by
  unfold hat
  have : (m - e) * (2 * 0 - l) * (2 * 0 - l) = (m - e) * (l * l) := by
    rw [show (2 * 0 - l : Int) = -l by omega, Int.mul_assoc, Int.neg_mul_neg]
  rw [this, Int.mul_ediv_cancel _ (by have := Int.mul_pos (show 0 < l by omega) (show 0 < l by omega); omega)]
  omega
theorem hat_l (l e m : Int) (hl : 1 ≤ l) : hat l e m l = e := by
  unfold hat
  have : (m - e) * (2 * l - l) * (2 * l - l) = (m - e) * (l * l) := by
    rw [show (2 * l - l : Int) = l by omega, Int.mul_assoc]
  rw [this, Int.mul_ediv_cancel _ (by have := Int.mul_pos (show 0 < l by omega) (show 0 < l by omega); omega)]
  omega
theorem hat_mid (l e m : Int) (hl : 10 ≤ l) (hm : e ≤ m ∧ m - e ≤ 50) : hat l e m (l / 2) = m := by
  have b := (mulB (a := 10) (b := 10) (A := l) (B := l) (by omega) (by omega)).2
  unfold hat
  have : 0 ≤ (m - e) * (2 * (l / 2) - l) * (2 * (l / 2) - l) ∧ (m - e) * (2 * (l / 2) - l) * (2 * (l / 2) - l) ≤ 50 := by
    have : 2 * (l / 2) - l = 0 ∨ 2 * (l / 2) - l = -1 := by omega
    rcases this with z | z
    · rw [z, Int.mul_zero]; omega
    · rw [z]; omega
  rw [Int.ediv_eq_zero_of_lt this.1 (by omega)]
  omega
theorem hat_max (l e m : Int) (hl : 10 ≤ l) (hm : e ≤ m ∧ m - e ≤ 50) : maxL ((rgI 0 l.toNat).map (hat l e m)) = m := by
  have ne : (rgI 0 l.toNat).map (hat l e m) ≠ [] := fun z => by
    have := congrArg List.length z
    rw [List.length_map, rgI_length] at this
    simp at this
    omega
  have h1 := maxL_ge (xs := (rgI 0 l.toNat).map (hat l e m)) (y := m) (List.mem_map.mpr ⟨l / 2, mem_rgI.mpr (by omega), hat_mid l e m hl hm⟩)
  obtain ⟨p, hp, ep⟩ := List.mem_map.mp (maxL_mem ne)
  have := mem_rgI.mp hp
  have h2 := hat_in (l := l) (e := e) (m := m) (p := p) (by omega) (by omega) hm.1
  rw [← ep] at h1 ⊢
  omega
theorem rg_ne (l : Int) (f : Int → Int) (hl : 1 ≤ l) : (rgI 0 l.toNat).map f ≠ [] := fun z => by
  have := congrArg List.length z
  rw [List.length_map, rgI_length] at this
  simp at this
  omega
section
variable (l e m t : Int) (sc d s2 s3 x6 s7 s8 x9 x10 s11 s12 s13 x14 : S) (T : List S)
theorem b_c1 (hl : 1 ≤ l ∧ l ≤ 1000) : C_f_law_1 (sc :: d :: s2 :: s3 :: rT l e m t :: cO l e m t :: x6 :: T) = .ok (.l (((rgI 0 (l + 1).toNat).map (hat l e m)).map .int)) (sc :: d :: s2 :: s3 :: rT l e m t :: cO l e m t :: x6 :: T) := by
  ktf_call ⟨C_f_law_1⟩
  rw [comp_allI D.int _ (hat l e m) (sc :: d :: s2 :: s3 :: rT l e m t :: cO l e m t :: .gone :: T) rfl (by rw [rgI_length]; omega) fun k hk => ?_]
  · ktf_call ⟨rb_ok⟩
  · have := mem_rgI.mp hk
    have hh := cask_half_at l e m t k hl (by omega)
    unfold cO at *
    exact ⟨_, rfl, _, by ktf_call ⟨hh⟩ <;> rfl, rfl⟩
theorem b_c2 (hl : 1 ≤ l ∧ l ≤ 1000) : C_f_law_2 (sc :: d :: s2 :: s3 :: rT l e m t :: cO l e m t :: x6 :: T) = .ok (.l (((rgI 0 (l + 1).toNat).map (hat l e m)).map .int)) (sc :: d :: s2 :: s3 :: rT l e m t :: cO l e m t :: x6 :: T) := by
  ktf_call ⟨C_f_law_2⟩
  rw [comp_allI D.int _ (hat l e m) (sc :: d :: s2 :: s3 :: rT l e m t :: cO l e m t :: .gone :: T) rfl (by rw [rgI_length]; omega) fun k hk => ?_]
  · ktf_call ⟨rb_ok⟩
  · have := mem_rgI.mp hk
    have hh := law_half l e m t k hl (by omega)
    unfold rT at *
    exact ⟨_, rfl, _, by ktf_call ⟨hh⟩ <;> rfl, rfl⟩
theorem b_c3 (hl : 1 ≤ l ∧ l ≤ 1000) : C_f_law_3 (sc :: d :: s2 :: s3 :: rT l e m t :: cO l e m t :: x6 :: T) = .ok (.l (((rgI 0 l.toNat).map (hat l e m)).map .int)) (sc :: d :: s2 :: s3 :: rT l e m t :: cO l e m t :: x6 :: T) := by
  ktf_call ⟨C_f_law_3⟩
  rw [comp_allI D.int _ (hat l e m) (sc :: d :: s2 :: s3 :: rT l e m t :: cO l e m t :: .gone :: T) rfl (by rw [rgI_length]; omega) fun k hk => ?_]
  · ktf_call ⟨rb_ok⟩
  · have := mem_rgI.mp hk
    have hh := cask_half_at l e m t k hl (by omega)
    unfold cO at *
    exact ⟨_, rfl, _, by ktf_call ⟨hh⟩ <;> rfl, rfl⟩
def hlf (l e m t n k : Int) : Int := hat l e m ((2 * k + 1) * l / (2 * n)) - t
theorem b_c4 (n : Int) (hl : 1 ≤ l ∧ l ≤ 1000) (hn : 1 ≤ n ∧ n ≤ 900) : C_f_law_4 (sc :: d :: .d (.int t) :: s3 :: rT l e m t :: cO l e m t :: x6 :: .d (.int n) :: s8 :: x9 :: T) = .ok (.l (((rgI 0 n.toNat).map (hlf l e m t n)).map .int)) (sc :: d :: .d (.int t) :: s3 :: rT l e m t :: cO l e m t :: x6 :: .d (.int n) :: s8 :: x9 :: T) := by
  ktf_call ⟨C_f_law_4⟩
  rw [comp_allI D.int _ (hlf l e m t n) (sc :: d :: .d (.int t) :: s3 :: rT l e m t :: cO l e m t :: x6 :: .d (.int n) :: s8 :: .gone :: T) rfl (by rw [rgI_length]; omega) fun k hk => ?_]
  · ktf_call ⟨rb_ok⟩
  · have := mem_rgI.mp hk
    have hh := law_half l e m t _ hl (place_in (l := l) (n := n) (k := k) hl.1 hn.1 (by omega))
    unfold rT at *
    exact ⟨_, rfl, _, by ktf_call ⟨hh, hlf⟩ <;> rfl, rfl⟩
theorem b_c5 (Hs : List Int) (hn : Hs.length ≤ 900) (hb : ∀ x ∈ Hs, -1000 ≤ x ∧ x ≤ 1000) : C_f_law_5 (sc :: d :: s2 :: s3 :: rT l e m t :: cO l e m t :: x6 :: s7 :: .l (Hs.map .int) :: x9 :: x10 :: T) = .ok (.l ((Hs.map fun x => x * x).map .int)) (sc :: d :: s2 :: s3 :: rT l e m t :: cO l e m t :: x6 :: s7 :: .d (.lst (Hs.map .int)) :: x9 :: x10 :: T) := by
  ktf_call ⟨C_f_law_5⟩
  rw [comp_allI D.int _ (fun x => x * x) (sc :: d :: s2 :: s3 :: rT l e m t :: cO l e m t :: x6 :: s7 :: .d (.lst (Hs.map .int)) :: x9 :: .gone :: T) rfl (by omega) fun k hk => ?_]
  · ktf_call ⟨rb_ok⟩
  · have := hb k hk
    exact ⟨_, rfl, _, by ktf_call ⟨rb_ok⟩ <;> rfl, rfl⟩
theorem b_c6 (k : Int) (hk : 1 ≤ k ∧ k ≤ 9) : C_f_law_6 (sc :: d :: s2 :: s3 :: rT l e m t :: cO l e m t :: x6 :: s7 :: s8 :: x9 :: x10 :: s11 :: s12 :: .d (.int k) :: x14 :: T) = .ok (.l [.int (l * k), .int (e * k), .int (m * k), .int (t * k)]) (sc :: d :: s2 :: s3 :: rT l e m t :: cO l e m t :: x6 :: s7 :: s8 :: x9 :: x10 :: s11 :: s12 :: .d (.int k) :: x14 :: T) := by
  unfold rT
  ktf_call ⟨C_f_law_6⟩
  have h4 : [D.int l, D.int e, D.int m, D.int t] = [l, e, m, t].map D.int := rfl
  rw [h4, comp_allI D.int _ (fun x => x * k) (sc :: d :: s2 :: s3 :: .d (.tup ([l, e, m, t].map D.int)) :: cO l e m t :: x6 :: s7 :: s8 :: x9 :: x10 :: s11 :: s12 :: .d (.int k) :: .gone :: T) rfl (by simp) fun z hz => ?_]
  · ktf_call ⟨rb_ok⟩
  · exact ⟨_, rfl, _, by ktf_call ⟨rb_ok⟩ <;> rfl, rfl⟩
end
theorem q_t (L : List Int) : opEq true [.d (.tup (L.map .int)), .d (.tup (L.map .int))] = .ok (.d (.bl false)) [.d (.tup (L.map .int)), .d (.tup (L.map .int))] := by
  rw [opEq_tints true L L]
  simp
theorem q_t4 (a b c d : Int) : opEq true [.d (.tup [.int a, .int b, .int c, .int d]), .d (.tup [.int a, .int b, .int c, .int d])] = .ok (.d (.bl false)) [.d (.tup [.int a, .int b, .int c, .int d]), .d (.tup [.int a, .int b, .int c, .int d])] := q_t [a, b, c, d]
theorem q_t2 (a b : Int) : opEq true [.d (.tup [.int a, .int b]), .d (.tup [.int a, .int b])] = .ok (.d (.bl false)) [.d (.tup [.int a, .int b]), .d (.tup [.int a, .int b])] := q_t [a, b]
theorem hlf_sum (l e m t n : Int) : (((rgI 0 n.toNat).map (hlf l e m t n)).map fun x => x * x).sum = sm (sq l e m t n) n.toNat := by
  rw [← sm_sum, List.map_map]
  rfl
theorem body_ok (sc : S) (a b c : Int) : ∃ ρ', L_f_law_1 [sc, .l [.int a, .int b, .int c], .gone, .gone, .gone, .gone, .gone, .gone, .gone, .gone, .gone, .gone, .gone, .gone, .gone, .gone, .gone, .gone, .gone, .gone] = .nx (sc :: ρ') := by
  obtain ⟨v1, a1, b1, c1, r1, v1a, v1b⟩ := law_roll a b c 3 (by decide) (by decide)
  obtain ⟨v2, a2, b2, c2, r2, v2a, v2b⟩ := law_roll a1 b1 c1 30 (by decide) (by decide)
  obtain ⟨v3, a3, b3, c3, r3, v3a, v3b⟩ := law_roll a2 b2 c2 60 (by decide) (by decide)
  obtain ⟨v4, a4, b4, c4, r4, v4a, v4b⟩ := law_roll a3 b3 c3 12 (by decide) (by decide)
  obtain ⟨v5, a5, b5, c5, r5, v5a, v5b⟩ := law_roll a4 b4 c4 9 (by decide) (by decide)
  obtain ⟨v6, a6, b6, c6, r6, v6a, v6b⟩ := law_roll a5 b5 c5 4 (by decide) (by decide)
  obtain ⟨v7, a7, b7, c7, r7, v7a, v7b⟩ := law_roll a6 b6 c6 90 (by decide) (by decide)
  obtain ⟨v8, a8, b8, c8, r8, v8a, v8b⟩ := law_roll a7 b7 c7 12 (by decide) (by decide)
  obtain ⟨v9, a9, b9, c9, r9, v9a, v9b⟩ := law_roll a8 b8 c8 30 (by decide) (by decide)
  obtain ⟨v10, a10, b10, c10, r10, v10a, v10b⟩ := law_roll a9 b9 c9 200 (by decide) (by decide)
  have ht : 1 ≤ 1 + v1 ∧ 1 + v1 ≤ 3 := by omega
  generalize et : 1 + v1 = t at *
  have he : t < t + 1 + v2 ∧ t + 1 + v2 ≤ 40 := by omega
  generalize ee : t + 1 + v2 = e at *
  have hl : 10 ≤ 10 + v3 ∧ 10 + v3 ≤ 100 := by omega
  generalize el : 10 + v3 = l at *
  have hm : e ≤ e + v4 ∧ e + v4 - e ≤ 50 := by omega
  generalize em : e + v4 = m at *
  have hs : 1 ≤ 1 + v5 ∧ 1 + v5 ≤ 9 := by omega
  generalize es : 1 + v5 = n at *
  have hk : 1 ≤ 1 + v6 ∧ 1 + v6 ≤ 9 := by omega
  generalize ek : 1 + v6 = k at *
  have hw : 1 ≤ 1 + v8 ∧ 1 + v8 ≤ 20 := by omega
  generalize ew : 1 + v8 = w at *
  have hN : 3 ≤ 3 + v9 ∧ 3 + v9 ≤ 40 := by omega
  generalize eN : 3 + v9 = N at *
  have hT : N ≤ N + v10 := by omega
  generalize eT : N + v10 = tot at *
  have ci := cask_init l e m t (by omega) (by omega) (by omega) (by omega)
  have cb := cask_bulge l e m t
  have ck := cask_key l e m t
  have h0 := cask_half_at l e m t 0 (by omega) (by omega)
  have h1 := cask_half_at l e m t l (by omega) (by omega)
  rw [hat_0 l e m (by omega)] at h0
  rw [hat_l l e m (by omega)] at h1
  have mx := opMax_ints (.l (((rgI 0 l.toNat).map (hat l e m)).map .int)) _ rfl (rg_ne l _ (by omega))
  rw [hat_max l e m (by omega) hm] at mx
  have sr := slice_room l e m t n (by omega) (by omega) (by omega) (by omega)
  have pr := plain_room l e m t (by omega) (by omega) (by omega)
  have sd := scaled_ok l e m t k (by omega) (by omega) (by omega) (by omega) (by omega)
  have kd := cask_key (l * k) (e * k) (m * k) (t * k)
  have ar := around_ok v7 (by omega)
  have lr := law_round v7
  have nr := arn_near v7
  have ab : ¬ (ab (113 * arn v7 - 710 * v7) > 56) := by unfold ab; split <;> omega
  have sv := staves_ok v7 w (by omega) (by omega)
  have tp := tapered_ok l e m t N (by omega) (by omega) (by omega)
  have l2 := law_round e
  have l3 := law_round m
  have ev := even_ok tot N (by omega) (by omega)
  obtain ⟨z, rr⟩ := rest3_ok l e m t (by omega) (by omega) (by omega) a10 b10 c10 N tot (by omega)
  have k1 := fun sc d s2 s3 x6 T => b_c1 l e m t sc d s2 s3 x6 T (by omega)
  have k2 := fun sc d s2 s3 x6 T => b_c2 l e m t sc d s2 s3 x6 T (by omega)
  have k3 := fun sc d s2 s3 x6 T => b_c3 l e m t sc d s2 s3 x6 T (by omega)
  have k4 := fun sc d s3 x6 s8 x9 T => b_c4 l e m t sc d s3 x6 s8 x9 T n (by omega) (by omega)
  have lH : ((rgI 0 n.toNat).map (hlf l e m t n)).length ≤ 900 := by rw [List.length_map, rgI_length]; omega
  have bH : ∀ x ∈ (rgI 0 n.toNat).map (hlf l e m t n), -1000 ≤ x ∧ x ≤ 1000 := fun x hx => by
    obtain ⟨j, hj, rfl⟩ := List.mem_map.mp hx
    have := mem_rgI.mp hj
    have := hat_in (l := l) (e := e) (m := m) (by omega) (place_in (l := l) (n := n) (k := j) (by omega) (by omega) (by omega)) hm.1
    unfold hlf
    omega
  have k5 := fun sc d s2 s3 x6 s7 x9 x10 T => b_c5 l e m t sc d s2 s3 x6 s7 x9 x10 T _ lH bH
  have k6 := fun sc d s2 s3 x6 s7 s8 x9 x10 s11 s12 x14 T => b_c6 l e m t sc d s2 s3 x6 s7 s8 x9 x10 s11 s12 x14 T k hk
  have q1 := qs2 ((rgI 0 (l + 1).toNat).map (hat l e m))
  have sH := e_sum_l (((rgI 0 n.toNat).map (hlf l e m t n)).map fun x => x * x)
  rw [hlf_sum] at sH
  unfold rT cO at *
  ktf_call ⟨L_f_law_1, L_f_law_1_2, r1, r2, et, ee, L_f_law_1_3, r3, r4, el, em, L_f_law_1_4, ci⟩
  ktf_call ⟨L_f_law_1_5, cb, ck, q_t4, L_f_law_1_6, k1, k2, q1⟩
  ktf_call ⟨L_f_law_1_7, h0, h1, k3, mx, L_f_law_1_8, r5, es, L_f_law_1_9, k4⟩
  ktf_call ⟨L_f_law_1_10, sr, k5, sH, L_f_law_1_11, L_f_law_1_12, pr, L_f_law_1_13, r6, ek⟩
  ktf_call ⟨L_f_law_1_14, sd, kd, k6, q_t4, L_f_law_1_15, r7, r8, ew, L_f_law_1_16, ar, L_f_law_1_17, lr, ab⟩
  ktf_call ⟨L_f_law_1_18, sv, q_t2, L_f_law_1_19, r9, eN, L_f_law_1_20, tp, l2, l3, q_t2⟩
  ktf_call ⟨L_f_law_1_21, r10, eT, L_f_law_1_22, ev, L_f_law_1_23, rr⟩
  exact ⟨_, rfl⟩
theorem hlaw (s : List Int) : ∃ z, op_f_law [.d (.lst (s.map .int))] = .ok (.d (.bl true)) [z] := by
  obtain ⟨a, b, c, e⟩ := law_rounds s
  obtain ⟨ρ', eb⟩ := body_ok (.d (.lst (s.map .int))) a b c
  have fo : forO 1 L_f_law_1 [.l [.int a, .int b, .int c]] [.d (.lst (s.map .int)), .gone, .gone, .gone, .gone, .gone, .gone, .gone, .gone, .gone, .gone, .gone, .gone, .gone, .gone, .gone, .gone, .gone, .gone, .gone] = .nx (.d (.lst (s.map .int)) :: ρ') := forO_one _ _ _ _ _ (by simp) eb
  refine ⟨.d (.lst (s.map .int)), ?_⟩
  ktf_call ⟨op_f_law, b_f_law, e_bForO, e, fo, b_f_law_2⟩
end K02
namespace K02
open PySem PySem.Spec PyProof.Rows L2 DL
abbrev RL : PySem.W.OpenLaw := PySem.Challenge.rw_cooperhall_k02_staves
abbrev tfl : List He.Defn := tq.map (·.1)
/-- the law at its script -/
theorem law_at {w : World} {K : PySem.W.Frag} {mg : Str → Option Value} {f : Addr} {h : Heap}
    (X : K.In h) (g : h.Ns mainGlobals mg) (hmg : mg ("law" : Str) = some (.ref f)) (c : He.SaysX fa fn [] tfl (tabX tq) w h K) : LamX.LawAtS RL w K (L2.CX PW w) 13 63 "script" mg f h := by
  obtain ⟨fd, F⟩ := funC_of c (d := d_f_law) (List.mem_of_getElem? (i := 36) rfl) s_f_law (cd := c.t.d)
  have bi : Binds K fd ["script"] [] := F.binds fun _ _ _ _ _ _ us hl => match us, hl with | [_], _ => rfl
  have e := hmg.symm.trans (He.glo_ok X g (c.t.d.facts (f := .glo "law") (fa_in (by decide +kernel))))
  cases e
  refine ⟨fd, tfl.map fun p => He.cT K p, spD (Gk K) op_f_law, ?_, ?_, ?_, ?_, ?_, ?_⟩
  · intro p hp
    obtain ⟨q, hq, e⟩ := List.mem_map.mp hp
    subst e
    exact c.empty q hq
  · intro p hp
    obtain ⟨q, hq, e⟩ := List.mem_map.mp hp
    subst e
    exact c.out q hq
  · intro p hp
    obtain ⟨q, hq, e⟩ := List.mem_map.mp hp
    subst e
    exact PySem.W.codeHd_of_K X (c.hd q hq)
  · obtain ⟨oc, od, kV, doc, pm, an, ct, osl, efd, lk, hcd⟩ := F.ex
    subst efd
    intro s u
    exact .of_eq rfl
  · intro H a ns hl hz ht q
    obtain ⟨z, e⟩ := hlaw ns
    refine ⟨⟨[], []⟩, [], [], [], [.d (.lst (ns.map .int))], rfl, start_ok (tb_start fun p hp => ?_) q, ?_⟩
    · obtain ⟨y, hy, ey⟩ := List.mem_map.mp hp
      subst ey
      exact ht (He.cT K y.1) (List.mem_map.mpr ⟨y.1, List.mem_map.mpr ⟨y, hy, rfl⟩, rfl⟩)
    · rw [e]
      exact ⟨rfl, fun v H' h' => h'.bl⟩
  · intro base Xb gb tb
    have E : En fa fn tq w K mg base := ⟨⟨h, c, X, g⟩, fun p hp => tb _ (List.mem_map.mpr ⟨p.1, List.mem_map.mpr ⟨p, hp, rfl⟩, rfl⟩)⟩
    exact fn_ownC (P := PW) (w := w) (mg := mg) (base := base) (G := Gk K) F sc_f_law fun A outer s H s0 Ex hr => bx_f_law E _ _ rfl A outer s H s0 Ex hr
abbrev R : PySem.W.OpenRow := PySem.W.OpenLaw.row RL
abbrev hk : PySem.W.Hook := He.hookX 6 fa fn [] tfl (tabX tq)
def ob (s : PySem.W.SharedT) : He.AlX := He.obsX 6 fa fn [] tfl (tabX tq) (HandSHeadRun.getT s)
theorem ob_eq (s : PySem.W.SharedT) : ob s = hk.obs s.abs := He.obsX_eq (HandSHeadRun.getT_eq s)
theorem run (w : World) : HandSHeadRun.RunEq R (PySem.W.view R.prog [32]) hk ob 60000 ["CaskFault", "BadSize", "BadFill", "BadPlan", "NoSuch", "NoRoom", "NoWay", "BadText", "BadDeed", "Cask", "around", "staves_for", "tapered", "even_round", "alternated", "Head", "head_boards", "Hoops", "strips_for", "_law_dice", "_law_roll", "_law_rounds", "_law_told", "_law_half", "_law_round", "_law_cases1", "_law_rest2", "_law_rest1", "_law_rest3"] w := by
  intro os
  kernel_rfl
theorem holds_of : RL.Holds := by
  w_on; o_law
  refine HandSHeadRun.head_any (r := R) (q := PySem.W.view R.prog [32]) (H := hk) (ob := ob) (M := 60000) (loose := ["CaskFault", "BadSize", "BadFill", "BadPlan", "NoSuch", "NoRoom", "NoWay", "BadText", "BadDeed", "Cask", "around", "staves_for", "tapered", "even_round", "alternated", "Head", "head_boards", "Hoops", "strips_for", "_law_dice", "_law_roll", "_law_rounds", "_law_told", "_law_half", "_law_round", "_law_cases1", "_law_rest2", "_law_rest1", "_law_rest3"]) (d := HandSHeadRun.topDef R.prog 32) (kwd := []) ob_eq
    (by kernel_rfl) (fun s => by kernel_rfl) run (by kernel_rfl) (by kernel_rfl) (by kernel_rfl) (by rfl) (by first | assumption | decide +kernel) (by decide +kernel) ⟨rfl, rfl, rfl, rfl, rfl, by decide +kernel⟩ ?hw ?hc
  case hw => w_witness2
  case hc =>
    refine LamX.walk_ofTsE (l := RL) (n := 63) (k := 13) (x := "script") (CX := fun w => L2.CX PW w) rfl (by decide) (by kernel_rfl) ⟨rfl, by decide, by decide⟩ ?F (fun _ _ _ _ _ ⟨_, _, _, _, _, _, _, _, _, _, _, _, z⟩ => z)
    intro w mg f h Y G hmg0
    obtain ⟨K, KX, c⟩ := Y
    have hmg : mg ("law" : PySem.Str) = some (.ref f) := by
      have e : (HandSHeadRun.topDef R.prog 32).name = ("law" : PySem.Str) := by kernel_rfl
      rw [← e]
      exact hmg0
    exact ⟨K, KX, law_at KX G hmg c⟩
end K02
theorem PySem.Challenge.cw_cooperhall_k02_staves_holds : PySem.Challenge.rw_cooperhall_k02_staves.Holds :=
  K02.holds_of
