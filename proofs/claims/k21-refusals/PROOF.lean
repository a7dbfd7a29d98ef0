import PyProof.Rows.All
import Wide.All
import OpenK.AllK
import Wide.FinOn
import KE.KDictKeyed
import HandS.ForMost
import HandS.ForExc
import HandS.Lambda
import HandS.TryMany
import HandS.Walk
import HandS.Wide
import HandS.EndTab
import HandS.CallSlots
import HandS.Style
import HandS.RaiseMore
import HandS.AnyAll
import HandS.GenList
import HandS.Small
import HandS.List
import HandS.Text
import HandS.More
import HandS.Iter
import HandS.Zip
import HandS.Rev
import HandS.HeadHook4
import HandS.HeadWalk
import HandS.Head4
import KE.DataMinMax
import HandS.TupAny
import PyProof.Claim2Refuses
import HandS.Deep
import HandS.Flt
import KE.SortData
import KE.KTupSum
import HandS.SortKw
import HandS.Dict
import HandS.Sort
import KE.KEqNest
import HandS.ListItems
import KE.SortKeyHeap
import HandS.DictTup
import HandS.TupLen
import KE.KDictPairs
import KE.KDictDisplayH
import KE.KDictSum
import HandS.Conv
import KE.KDictExact
import KE.GoesMore
import KE.KIndexOf
import KE.KDictList
import KE.KItemsList
import KE.DataMinKey
import PyProof.EqKinds
import PyProof.NeKinds
import KE.DataFind
import HandS.TupMul
import PyProof.StrOps2
import HandS.DictSubView
import KE.KDictItemsList
import KE.KDictCopyH
import KE.KDictOf
import HandS.ExcInit
import HandS.ExcField
import HandS.Nested
import KE.KExcSuper
import KE.KSuper
import HandS.ExcIs
import PySem.Challenge.RW_cooperhall_k21_refusals_apart
set_option Elab.async false
set_option linter.all false
set_option maxRecDepth 100000
set_option maxHeartbeats 0
/-! the data layer: values as plain trees, what is owned and what is settled -/
namespace DL
open PySem PySem.Spec PyProof.Rows L2
inductive D where
  | non | bl (b : Bool) | int (i : Int) | str (x : Str)
  | tup (xs : List D) | lst (xs : List D) | dic (ks vs : List D) | obj (c : Nat) (xs : List D)
  /-- a tuple whose object is known -/
  | kt (xs : List D)
/-- what a slot holds: nothing known, a settled value, an owned list of settled values, an owned list of owned things, an owned dict, an owned object -/
inductive S where
  | gone | d (x : D) | l (xs : List D) | ls (xs : List S) | m (ks vs : List D) | o (c : Nat) (fs : List S)
  /-- an owned dict that is locked, an owned object that is frozen -/
  | w (ks vs : List D) | fo (c : Nat) (fs : List S)
  /-- an owned dict whose keys are tuples of any depth; what stands at them is not told -/
  | n (ks : List D)
structure Gx where
  K : PySem.W.Frag
  mg : Str → Option Value
  cl : Nat → Addr
  fn : Nat → List Str
  T : List (Addr × Str)
  /-- the world whose hashes the dicts of `.n` stand by -/
  w : Option World
/-- slots that keep what they held at the entry -/
structure Pn where
  J : List Nat
  s0 : L2.St
  /-- what is locked, while loops walk it -/
  L : List (Addr × Obj × HO)
def keyD : D → Option Key
  | .int i => some (.inl i)
  | .str x => some (.inr x)
  | _ => none
def keysD : List D → Option (List Key)
  | [] => some []
  | x :: xs => match keyD x, keysD xs with
    | some k, some r => some (k :: r)
    | _, _ => none
def keyT : D → Option (List Key)
  | .tup xs => keysD xs
  | _ => none
/-- any name -/
def anyQ : Str := ⟨#[]⟩
/-- the table at P: its code objects bear the name q (or any name) -/
def TabQ (H : Hp) (P : Addr) (q : Str) : Prop := ∃ ps : Array Value, H P = some (.tbl ps) ∧ TriplesOk ps.toList ∧ ∀ (pos : Pos) (cv : Value), codeAmong pos ps.toList = some cv → ∃ c q', cv = .ref c ∧ (q = anyQ ∨ q' = q) ∧ H c = some (LamX.CodeO c q')
def TabQs (T : List (Addr × Str)) (H : Hp) : Prop := ∀ p ∈ T, TabQ H p.1 p.2
theorem TabQs.ext {T : List (Addr × Str)} {H H' : Hp} (t : TabQs T H) (e : ∀ b o, H b = some o → H' b = some o) : TabQs T H' := fun p hp => by
  obtain ⟨ps, h1, h2, h3⟩ := t p hp
  refine ⟨ps, e _ _ h1, h2, fun pos cv hc => ?_⟩
  obtain ⟨c, q', e1, e2, e3⟩ := h3 pos cv hc
  exact ⟨c, q', e1, e2, e _ _ e3⟩
/-- the code objects of the functions that stand locked; below: the tables of code objects, told by name -/
def CdL (L : List (Addr × Obj × HO)) (H : Hp) : Prop := ∀ p ∈ L, ∀ c fd, p.2.2 = .own c → p.2.1.data = .func fd → H c = some (LamX.CodeO c fd.qualname)
def Tb (G : Gx) (N : Pn) (H : Hp) : Prop := (TabQs G.T H ∧ CdL N.L H) ∧ ∀ p ∈ N.L, H p.1 = some (.frz p.2.1 p.2.2)
theorem Tb.ext {G : Gx} {N : Pn} {H H' : Hp} (t : Tb G N H) (e : ∀ b o, H b = some o → H' b = some o) : Tb G N H' := ⟨⟨TabQs.ext t.1.1 e, fun p hp c fd h1 h2 => e _ _ (t.1.2 p hp c fd h1 h2)⟩, fun p hp => e _ _ (t.2 p hp)⟩
/-- the table at P is the def's, for code objects of the name q -/
def InT (G : Gx) (P : Addr) (q q0 : Str) : Prop := (q0 = anyQ ∨ q0 = q) ∧ (P, q0) ∈ G.T ∧ ∀ p ∈ G.T, p.1 = P → p.2 = q0
theorem Tb.put {G : Gx} {N : Pn} {H : Hp} {P c' : Addr} {q q0 : Str} {ps : Array Value} {pos : Pos} (t : Tb G N H) (h : InT G P q q0) (hP : H P = some (.tbl ps)) (nC : H c' = none) :
    LamX.ExtN H (upd (upd H P (.tbl (ps ++ #[rawInt pos.line, rawInt pos.col, .ref c']))) c' (LamX.CodeO c' q)) ∧ Tb G N (upd (upd H P (.tbl (ps ++ #[rawInt pos.line, rawInt pos.col, .ref c']))) c' (LamX.CodeO c' q)) := by
  have hE : LamX.ExtN H (upd (upd H P (.tbl (ps ++ #[rawInt pos.line, rawInt pos.col, .ref c']))) c' (LamX.CodeO c' q)) := fun b o e n => by
    rw [upd_ne (ne_of_none e nC), upd_ne (fun z => n ps (Option.some.inj (e.symm.trans (by rw [z]; exact hP))))]
    exact e
  have eL : (ps ++ #[rawInt pos.line, rawInt pos.col, .ref c']).toList = ps.toList ++ [rawInt pos.line, rawInt pos.col, .ref c'] := by simp
  refine ⟨hE, ⟨fun p hp => ?_, fun p hp c fd h1 h2 => hE _ _ (t.1.2 p hp c fd h1 h2) LamX.codeO_ne⟩, fun p hp => hE _ _ (t.2 p hp) fun _ z => nomatch z⟩
  obtain ⟨ps', a1, a2, a3⟩ := t.1.1 p hp
  by_cases hb : p.1 = P
  · rw [hb, hP] at a1
    cases a1
    have e0 := h.2.2 p hp hb
    rw [e0] at a3
    rw [e0, hb]
    refine ⟨_, by rw [upd_ne (ne_of_none hP nC), upd_same], by rw [eL]; exact PySem.TriplesOk_snoc _ _ _ _ a2, fun p' cv hcv => ?_⟩
    rw [eL] at hcv
    rcases LamX.among_app _ a2 hcv with z | z
    · obtain ⟨c0, q', e1, e2, e3⟩ := a3 p' cv z
      exact ⟨c0, q', e1, e2, hE _ _ e3 LamX.codeO_ne⟩
    · exact ⟨c', q, z, h.1.imp id Eq.symm, upd_same⟩
  · refine ⟨ps', by rw [upd_ne (ne_of_none a1 nC), upd_ne hb]; exact a1, a2, fun p' cv hcv => ?_⟩
    obtain ⟨c0, q', e1, e2, e3⟩ := a3 p' cv hcv
    exact ⟨c0, q', e1, e2, hE _ _ e3 LamX.codeO_ne⟩
theorem Tb.at {G : Gx} {N : Pn} {H : Hp} {P : Addr} {q q0 : Str} (t : Tb G N H) (h : InT G P q q0) : ∃ ps, H P = some (.tbl ps) ∧ TriplesOk ps.toList ∧ ∀ (pos : Pos) (cv : Value), codeAmong pos ps.toList = some cv → ∃ c q', cv = .ref c ∧ (q0 = anyQ ∨ q' = q) ∧ H c = some (LamX.CodeO c q') := by
  obtain ⟨ps, a1, a2, a3⟩ := t.1.1 _ h.2.1
  refine ⟨ps, a1, a2, fun pos cv hc => ?_⟩
  obtain ⟨c, q', e1, e2, e3⟩ := a3 pos cv hc
  refine ⟨c, q', e1, ?_, e3⟩
  rcases h.1 with z | z
  · exact .inl z
  · exact e2.imp id fun y => y.trans z
theorem any_ne {a : Str} : a ++ ("<lambda>" : Str) ≠ anyQ := fun z => by
  have e1 : (a ++ ("<lambda>" : Str)).cps = a.cps ++ ("<lambda>" : Str).cps := rfl
  have e2 := congrArg (fun x : Str => x.cps.size) z
  have e3 : ("<lambda>" : Str).cps.size = 8 := by decide +kernel
  simp only [e1, Array.size_append, e3] at e2
  exact absurd e2 (by simp [anyQ])
mutual
/-- a key of any depth -/
def keyN : D → Option NestedKey
  | .non => some .none
  | .int i => some (.num i)
  | .str x => some (.text x)
  | .tup xs => (keyNs xs).map .tup
  | _ => none
def keyNs : List D → Option (List NestedKey)
  | [] => some []
  | x :: xs => match keyN x, keyNs xs with
    | some k, some r => some (k :: r)
    | _, _ => none
end
/-- the dict at a, by its entries -/
def NdP (w : World) (a : Addr) (xs : List (NestedKey × Addr × Value)) : Heap → Prop := fun h =>
  ((a == sysModules) = false ∧ xs.length ≤ sizeLine ∧ (xs.map (·.1)).Nodup) ∧ ∃ o es ep, h.get? a = some o ∧ o.ExactDict ∧ o.data = .dict es ep ∧ es.toList = xs.map fun x => (⟨x.1.hash w, .ref x.2.1, x.2.2⟩ : DictEntry)
mutual
/-- the value v holds the data, all of it in F -/
def RD (G : Gx) (F : Hp) : D → V → Prop
  | .non, v => v = .non
  | .bl b, v => v = .bl b
  | .int i, v => v = .int i
  | .str x, v => v = .str x
  | .tup xs, v => ∃ a vs, v = .ref a ∧ F a = some (.tup vs) ∧ RDs G F xs vs
  | .lst xs, v => ∃ a vs, v = .ref a ∧ SqL G.K F a vs ∧ RDs G F xs vs
  | .dic ks vs, v => ∃ a, v = .ref a ∧
      ((∃ (kk : List Key) (ws : List V), F a = some (.dK (kk.zip ws)) ∧ kk.length = ws.length ∧ ks.map keyD = kk.map some ∧ RDs G F vs ws) ∨
       (∃ (kk : List (List Key)) (ws : List V), F a = some (.dT (kk.zip ws)) ∧ (kk.length = ws.length ∧ ks ≠ []) ∧ ks.map keyT = kk.map some ∧ RDs G F vs ws))
  | .obj c xs, v => ∃ a dx vs, v = .ref a ∧ F a = some (.ins (G.cl c) dx ((G.fn c).zip vs)) ∧ vs.length ≤ (G.fn c).length ∧ RDs G F xs vs
  | .kt xs, v => ∃ a ob vs, v = .ref a ∧ (F a = some (.frz ob (.tup vs)) ∧ ob.dict = none) ∧ RDs G F xs vs
def RDs (G : Gx) (F : Hp) : List D → List V → Prop
  | [], vs => vs = []
  | x :: xs, vs => ∃ v r, vs = v :: r ∧ RD G F x v ∧ RDs G F xs r
end
mutual
/-- a slot's value and the addresses it owns -/
def RF (G : Gx) (F H : Hp) : S → Option V → List Addr → Prop
  | .gone, _, fp => fp = []
  | .d x, o, fp => fp = [] ∧ ∃ v, o = some v ∧ RD G F x v
  | .l xs, o, fp => ∃ a vs, o = some (.ref a) ∧ fp = [a] ∧ H a = some (.lst vs) ∧ F a = none ∧ RDs G F xs vs
  | .ls xs, o, fp => ∃ a vs r, o = some (.ref a) ∧ fp = a :: r ∧ H a = some (.lst vs) ∧ F a = none ∧ RFl G F H xs (vs.map some) r
  | .m ks vs, o, fp => ∃ a, o = some (.ref a) ∧ fp = [a] ∧ F a = none ∧
      ((∃ (kk : List Key) (ws : List V), H a = some (.dK (kk.zip ws)) ∧ kk.length = ws.length ∧ ks.map keyD = kk.map some ∧ RDs G F vs ws) ∨
       (∃ (kk : List (List Key)) (ws : List V), H a = some (.dT (kk.zip ws)) ∧ (kk.length = ws.length ∧ ks ≠ []) ∧ ks.map keyT = kk.map some ∧ RDs G F vs ws))
  | .o c fs, o, fp => ∃ a dx vs r, o = some (.ref a) ∧ fp = a :: r ∧ H a = some (.ins (G.cl c) dx ((G.fn c).zip vs)) ∧ F a = none ∧ vs.length ≤ (G.fn c).length ∧ RFl G F H fs (vs.map some) r
  | .w ks vs, o, fp => ∃ a ob, o = some (.ref a) ∧ fp = [a] ∧ F a = none ∧
      ((∃ (kk : List Key) (ws : List V), H a = some (.frz ob (.dK (kk.zip ws))) ∧ kk.length = ws.length ∧ ks.map keyD = kk.map some ∧ RDs G F vs ws) ∨
       (∃ (kk : List (List Key)) (ws : List V), H a = some (.frz ob (.dT (kk.zip ws))) ∧ (kk.length = ws.length ∧ ks ≠ []) ∧ ks.map keyT = kk.map some ∧ RDs G F vs ws))
  | .fo c fs, o, fp => ∃ a ob dx vs r, o = some (.ref a) ∧ fp = a :: r ∧ H a = some (.frz ob (.ins (G.cl c) dx ((G.fn c).zip vs))) ∧ F a = none ∧ vs.length ≤ (G.fn c).length ∧ RFl G F H fs (vs.map some) r
  | .n ks, o, fp => ∃ a w xs, o = some (.ref a) ∧ fp = [a] ∧ F a = none ∧ G.w = some w ∧ (H a = some (.ext (NdP w a xs)) ∧ ∀ c q, HO.ext (NdP w a xs) ≠ LamX.CodeO c q) ∧ ks.map keyN = xs.map (fun x => some x.1) ∧ RDs G F ks (xs.map fun x => V.ref x.2.1)
def RFl (G : Gx) (F H : Hp) : List S → List (Option V) → List Addr → Prop
  | [], os, fp => os = [] ∧ fp = []
  | s :: r, os, fp => ∃ o os' a b, os = o :: os' ∧ fp = a ++ b ∧ RF G F H s o a ∧ RFl G F H r os' b
end
/-- what is settled stands (a dict perhaps locked) -/
def Sub (F H : Hp) : Prop := ∀ a o, F a = some o → (∀ ps, o ≠ .tbl ps) ∧ (H a = some o ∨ (((∃ kvs, o = .dK kvs) ∨ ∃ kvs, o = .dT kvs) ∧ ∃ ob, H a = some (.frz ob o)))
def Le (F F' : Hp) : Prop := ∀ a o, F a = some o → F' a = some o
theorem Le.refl (F : Hp) : Le F F := fun _ _ h => h
theorem Le.trans {A B C : Hp} (h : Le A B) (k : Le B C) : Le A C := fun a o e => k a o (h a o e)
theorem Rd.le {F F' : Hp} (h : Le F F') {a : Addr} {u : HO} (r : Rd F a u) : Rd F' a u := by
  rcases r with r | ⟨o, r⟩
  · exact .inl (h _ _ r)
  · exact .inr ⟨o, h _ _ r⟩
theorem sqL_le {K : PySem.W.Frag} {F F' : Hp} (h : Le F F') {a : Addr} {xs : List V} (r : SqL K F a xs) : SqL K F' a xs := by
  rcases r with r | r
  · exact .inl (Rd.le h r)
  · exact .inr r
theorem Rd.sub {F H : Hp} (h : Sub F H) {a : Addr} {u : HO} (r : Rd F a u) : Rd H a u := by
  rcases r with r | ⟨o, r⟩
  · rcases (h _ _ r).2 with e | ⟨_, ob, e⟩
    · exact .inl e
    · exact .inr ⟨ob, e⟩
  · rcases (h _ _ r).2 with e | ⟨n, _, _⟩
    · exact .inr ⟨o, e⟩
    · rcases n with ⟨_, n⟩ | ⟨_, n⟩ <;> cases n
theorem sqL_sub {K : PySem.W.Frag} {F H : Hp} (h : Sub F H) {a : Addr} {xs : List V} (r : SqL K F a xs) : SqL K H a xs := by
  rcases r with r | r
  · exact .inl (Rd.sub h r)
  · exact .inr r
theorem sqT_sub {K : PySem.W.Frag} {F H : Hp} (h : Sub F H) {a : Addr} {xs : List V} (r : SqT K F a xs) : SqT K H a xs := by
  rcases r with r | r
  · exact .inl (Rd.sub h r)
  · exact .inr r
theorem Sub.none {F H : Hp} (h : Sub F H) {a : Addr} (e : H a = none) : F a = none := by
  cases q : F a with
  | none => rfl
  | some o =>
    rcases (h _ _ q).2 with z | ⟨_, _, z⟩ <;> (rw [e] at z; cases z)
mutual
theorem RD.le {G : Gx} {F F' : Hp} (h : Le F F') : ∀ (x : D) (v : V), RD G F x v → RD G F' x v
  | .non, _, r => r
  | .bl _, _, r => r
  | .int _, _, r => r
  | .str _, _, r => r
  | .tup xs, _, ⟨a, vs, e, q, r⟩ => ⟨a, vs, e, h _ _ q, RDs.le h xs vs r⟩
  | .lst xs, _, ⟨a, vs, e, q, r⟩ => ⟨a, vs, e, sqL_le h q, RDs.le h xs vs r⟩
  | .dic ks vs, _, ⟨a, e, q⟩ => ⟨a, e, q.elim (fun ⟨kk, ws, e1, e2, e3, r⟩ => .inl ⟨kk, ws, h _ _ e1, e2, e3, RDs.le h vs ws r⟩) fun ⟨kk, ws, e1, e2, e3, r⟩ => .inr ⟨kk, ws, h _ _ e1, e2, e3, RDs.le h vs ws r⟩⟩
  | .obj c xs, _, ⟨a, dx, vs, e, q, l, r⟩ => ⟨a, dx, vs, e, h _ _ q, l, RDs.le h xs vs r⟩
  | .kt xs, _, ⟨a, ob, vs, e, q, r⟩ => ⟨a, ob, vs, e, ⟨h _ _ q.1, q.2⟩, RDs.le h xs vs r⟩
theorem RDs.le {G : Gx} {F F' : Hp} (h : Le F F') : ∀ (xs : List D) (vs : List V), RDs G F xs vs → RDs G F' xs vs
  | [], _, r => r
  | x :: xs, _, ⟨v, r, e, q, s⟩ => ⟨v, r, e, RD.le h x v q, RDs.le h xs r s⟩
end
mutual
/-- stays: F grows away from what is owned, H stays on it -/
theorem RF.keep {G : Gx} {F F' H H' : Hp} (h : Le F F') : ∀ (s : S) (o : Option V) (fp : List Addr), RF G F H s o fp → (∀ a ∈ fp, H' a = H a ∧ F' a = none) → RF G F' H' s o fp
  | .gone, _, _, r, _ => r
  | .d x, _, _, ⟨e, v, q, r⟩, _ => ⟨e, v, q, RD.le h x v r⟩
  | .l xs, _, _, ⟨a, vs, e1, e2, e3, e4, r⟩, k => by
    subst e2
    have q := k a (by simp)
    exact ⟨a, vs, e1, rfl, q.1.trans e3, q.2, RDs.le h xs vs r⟩
  | .ls xs, _, _, ⟨a, vs, p, e1, e2, e3, e4, r⟩, k => by
    subst e2
    have q := k a (by simp)
    exact ⟨a, vs, p, e1, rfl, q.1.trans e3, q.2, RFl.keep h xs _ p r fun b hb => k b (List.mem_cons_of_mem _ hb)⟩
  | .m ks vs, _, _, ⟨a, e1, e2, e4, r⟩, k => by
    subst e2
    have q := k a (by simp)
    refine ⟨a, e1, rfl, q.2, ?_⟩
    rcases r with ⟨kk, ws, e5, e6, e7, r⟩ | ⟨kk, ws, e5, e6, e7, r⟩
    · exact .inl ⟨kk, ws, q.1.trans e5, e6, e7, RDs.le h vs ws r⟩
    · exact .inr ⟨kk, ws, q.1.trans e5, e6, e7, RDs.le h vs ws r⟩
  | .o c fs, _, _, ⟨a, dx, vs, p, e1, e2, e3, e4, l, r⟩, k => by
    subst e2
    have q := k a (by simp)
    exact ⟨a, dx, vs, p, e1, rfl, q.1.trans e3, q.2, l, RFl.keep h fs _ p r fun b hb => k b (List.mem_cons_of_mem _ hb)⟩
  | .w ks vs, _, _, ⟨a, ob, e1, e2, e4, r⟩, k => by
    subst e2
    have q := k a (by simp)
    refine ⟨a, ob, e1, rfl, q.2, ?_⟩
    rcases r with ⟨kk, ws, e5, e6, e7, r⟩ | ⟨kk, ws, e5, e6, e7, r⟩
    · exact .inl ⟨kk, ws, q.1.trans e5, e6, e7, RDs.le h vs ws r⟩
    · exact .inr ⟨kk, ws, q.1.trans e5, e6, e7, RDs.le h vs ws r⟩
  | .fo c fs, _, _, ⟨a, ob, dx, vs, p, e1, e2, e3, e4, l, r⟩, k => by
    subst e2
    have q := k a (by simp)
    exact ⟨a, ob, dx, vs, p, e1, rfl, q.1.trans e3, q.2, l, RFl.keep h fs _ p r fun b hb => k b (List.mem_cons_of_mem _ hb)⟩
  | .n ks, _, _, ⟨a, w, xs, e1, e2, e3, e4, e5, e6, r⟩, k => by
    subst e2
    have q := k a (by simp)
    exact ⟨a, w, xs, e1, rfl, q.2, e4, ⟨q.1.trans e5.1, e5.2⟩, e6, RDs.le h ks _ r⟩
theorem RFl.keep {G : Gx} {F F' H H' : Hp} (h : Le F F') : ∀ (s : List S) (o : List (Option V)) (fp : List Addr), RFl G F H s o fp → (∀ a ∈ fp, H' a = H a ∧ F' a = none) → RFl G F' H' s o fp
  | [], _, _, r, _ => r
  | s :: r, _, _, ⟨o, os', a, b, e1, e2, q1, q2⟩, k => by
    subst e2
    exact ⟨o, os', a, b, e1, rfl, RF.keep h s o a q1 fun c hc => k c (List.mem_append_left _ hc), RFl.keep h r os' b q2 fun c hc => k c (List.mem_append_right _ hc)⟩
end
def Owd : HO → Prop
  | .lst _ => True
  | .dK _ => True
  | .dT _ => True
  | .ins _ _ _ => True
  | .frz _ _ => True
  | .ext φ => ∀ c q, HO.ext φ ≠ LamX.CodeO c q
  | _ => False
/-- what may be written -/
def Wr : HO → Prop
  | .lst _ => True
  | .dK _ => True
  | .dT _ => True
  | .ins _ _ _ => True
  | .ext φ => ∀ c q, HO.ext φ ≠ LamX.CodeO c q
  | _ => False
mutual
/-- what is owned is not settled, and stands -/
theorem RF.own {G : Gx} {F H : Hp} : ∀ (s : S) (o : Option V) (fp : List Addr), RF G F H s o fp → ∀ a ∈ fp, F a = none ∧ ∃ u, H a = some u ∧ Owd u
  | .gone, _, _, r, a, ha => by
    have r' : _ = [] := r
    subst r'
    simp at ha
  | .d x, _, _, ⟨e, _⟩, a, ha => by subst e; simp at ha
  | .l xs, _, _, ⟨a, vs, e1, e2, e3, e4, r⟩, b, hb => by
    subst e2
    have e : b = a := by simpa using hb
    subst e
    exact ⟨e4, _, e3, trivial⟩
  | .ls xs, _, _, ⟨a, vs, p, e1, e2, e3, e4, r⟩, b, hb => by
    subst e2
    rcases List.mem_cons.mp hb with e | hb
    · subst e
      exact ⟨e4, _, e3, trivial⟩
    · exact RFl.own xs _ p r b hb
  | .m ks vs, _, _, ⟨a, e1, e2, e4, r⟩, b, hb => by
    subst e2
    have e : b = a := by simpa using hb
    subst e
    rcases r with ⟨kk, ws, e5, _⟩ | ⟨kk, ws, e5, _⟩
    · exact ⟨e4, _, e5, trivial⟩
    · exact ⟨e4, _, e5, trivial⟩
  | .o c fs, _, _, ⟨a, dx, vs, p, e1, e2, e3, e4, l, r⟩, b, hb => by
    subst e2
    rcases List.mem_cons.mp hb with e | hb
    · subst e
      exact ⟨e4, _, e3, trivial⟩
    · exact RFl.own fs _ p r b hb
  | .w ks vs, _, _, ⟨a, ob, e1, e2, e4, r⟩, b, hb => by
    subst e2
    have e : b = a := by simpa using hb
    subst e
    rcases r with ⟨kk, ws, e5, _⟩ | ⟨kk, ws, e5, _⟩
    · exact ⟨e4, _, e5, trivial⟩
    · exact ⟨e4, _, e5, trivial⟩
  | .fo c fs, _, _, ⟨a, ob, dx, vs, p, e1, e2, e3, e4, l, r⟩, b, hb => by
    subst e2
    rcases List.mem_cons.mp hb with e | hb
    · subst e
      exact ⟨e4, _, e3, trivial⟩
    · exact RFl.own fs _ p r b hb
  | .n ks, _, _, ⟨a, w, xs, e1, e2, e3, e4, e5, e6, r⟩, b, hb => by
    subst e2
    have e : b = a := by simpa using hb
    subst e
    exact ⟨e3, _, e5.1, e5.2⟩
theorem RFl.own {G : Gx} {F H : Hp} : ∀ (s : List S) (o : List (Option V)) (fp : List Addr), RFl G F H s o fp → ∀ a ∈ fp, F a = none ∧ ∃ u, H a = some u ∧ Owd u
  | [], _, _, ⟨_, e⟩, a, ha => by subst e; simp at ha
  | s :: r, _, _, ⟨o, os', a, b, e1, e2, q1, q2⟩, c, hc => by
    subst e2
    rcases List.mem_append.mp hc with hc | hc
    · exact RF.own s o a q1 c hc
    · exact RFl.own r os' b q2 c hc
end
/-- a list of slots -/
abbrev Stk := List (Option V × S)
def RL (G : Gx) (F H : Hp) : Stk → List Addr → Prop
  | [], fp => fp = []
  | (o, s) :: r, fp => ∃ a b, fp = a ++ b ∧ RF G F H s o a ∧ RL G F H r b
theorem RL.keep {G : Gx} {F F' H H' : Hp} (h : Le F F') : ∀ (L : Stk) (fp : List Addr), RL G F H L fp → (∀ a ∈ fp, H' a = H a ∧ F' a = none) → RL G F' H' L fp
  | [], _, r, _ => r
  | (o, s) :: r, _, ⟨a, b, e, q1, q2⟩, k => by
    subst e
    exact ⟨a, b, rfl, RF.keep h s o a q1 fun c hc => k c (List.mem_append_left _ hc), RL.keep h r b q2 fun c hc => k c (List.mem_append_right _ hc)⟩
theorem RL.own {G : Gx} {F H : Hp} : ∀ (L : Stk) (fp : List Addr), RL G F H L fp → ∀ a ∈ fp, F a = none ∧ ∃ u, H a = some u ∧ Owd u
  | [], _, e, a, ha => by
    have e' : _ = [] := e
    subst e'
    simp at ha
  | (o, s) :: r, _, ⟨a, b, e, q1, q2⟩, c, hc => by
    subst e
    rcases List.mem_append.mp hc with hc | hc
    · exact RF.own s o a q1 c hc
    · exact RL.own r b q2 c hc
theorem RL.app {G : Gx} {F H : Hp} : ∀ (A B : Stk) (fp : List Addr), RL G F H (A ++ B) fp ↔ ∃ a b, fp = a ++ b ∧ RL G F H A a ∧ RL G F H B b
  | [], B, fp => ⟨fun h => ⟨[], fp, rfl, rfl, h⟩, fun ⟨a, b, e, h1, h2⟩ => by
      have h1' : a = [] := h1
      subst h1' e
      exact h2⟩
  | (o, s) :: r, B, fp => ⟨fun ⟨a, b, e, q1, q2⟩ => by
      obtain ⟨c, d, e2, q3, q4⟩ := (RL.app r B b).mp q2
      exact ⟨a ++ c, d, by rw [e, e2, List.append_assoc], ⟨a, c, rfl, q1, q3⟩, q4⟩, fun ⟨a, b, e, ⟨c, d, e2, q1, q2⟩, q3⟩ =>
      ⟨c, d ++ b, by rw [e, e2, List.append_assoc], q1, (RL.app r B _).mpr ⟨d, b, rfl, q2, q3⟩⟩⟩
theorem RL.perm {G : Gx} {F H : Hp} {A B : Stk} (p : A.Perm B) : ∀ fp, RL G F H A fp → ∃ fp', RL G F H B fp' ∧ fp'.Perm fp := by
  induction p with
  | nil => exact fun fp h => ⟨fp, h, .refl _⟩
  | cons x _ ih =>
    rintro fp ⟨a, b, e, q1, q2⟩
    obtain ⟨b', h1, h2⟩ := ih b q2
    exact ⟨a ++ b', ⟨a, b', rfl, q1, h1⟩, by rw [e]; exact h2.append_left a⟩
  | swap x y l =>
    rintro fp ⟨a, b, e, q1, c, d, e2, q2, q3⟩
    refine ⟨c ++ (a ++ d), ⟨c, _, rfl, q2, a, d, rfl, q1, q3⟩, ?_⟩
    rw [e, e2]
    exact List.perm_append_comm_assoc c a d
  | trans _ _ ih1 ih2 =>
    intro fp h
    obtain ⟨f1, h1, p1⟩ := ih1 fp h
    obtain ⟨f2, h2, p2⟩ := ih2 f1 h1
    exact ⟨f2, h2, p2.trans p1⟩
/-- THE STATE: the slots and what stands behind them, all told apart -/
structure Hs (G : Gx) (N : Pn) (H : Hp) (σ : L2.St) (ρ : List S) (st : Stk) : Prop where
  len : σ.length = ρ.length
  ex : ∃ F fp, Sub F H ∧ RL G F H (st ++ σ.zip ρ) fp ∧ fp.Nodup
  tb : Tb G N H
  pin : ∀ j ∈ N.J, σ[j]? = N.s0[j]?
section
variable {G : Gx} {N : Pn} {H H' : Hp} {σ : L2.St} {ρ : List S} {st st' : Stk}
theorem Hs.perm (h : Hs G N H σ ρ st) (p : st.Perm st') : Hs G N H σ ρ st' := by
  obtain ⟨F, fp, s, r, n⟩ := h.ex
  obtain ⟨fp', r', p'⟩ := RL.perm (p.append_right _) fp r
  exact ⟨h.len, ⟨F, fp', s, r', (p'.nodup_iff).mpr n⟩, h.tb, h.pin⟩
theorem Hs.drop {x : Option V × S} (h : Hs G N H σ ρ (x :: st)) : Hs G N H σ ρ st := by
  obtain ⟨F, fp, s, ⟨a, b, e, _, r⟩, n⟩ := h.ex
  subst e
  exact ⟨h.len, ⟨F, b, s, r, (List.nodup_append.mp n).2.1⟩, h.tb, h.pin⟩
theorem Hs.drops : ∀ {A : Stk}, Hs G N H σ ρ (A ++ st) → Hs G N H σ ρ st
  | [], h => h
  | _ :: _, h => Hs.drops (Hs.drop h)
/-- the heap grew (tables may have, too) -/
def Grow (G : Gx) (N : Pn) (H H' : Hp) : Prop := LamX.ExtN H H' ∧ Tb G N H'
theorem Sub.grow {F : Hp} (s : Sub F H) (e : LamX.ExtN H H') : Sub F H' := fun a o q => by
  obtain ⟨nt, h⟩ := s a o q
  refine ⟨nt, ?_⟩
  rcases h with h | ⟨nf, ob, h⟩
  · exact .inl (e _ _ h nt)
  · exact .inr ⟨nf, ob, e _ _ h fun ps z => by cases z⟩
theorem mut_tbl {u : HO} (m : Owd u) : ∀ ps, u ≠ .tbl ps := fun ps z => by subst z; exact m
theorem Hs.grow (h : Hs G N H σ ρ st) (g : Grow G N H H') : Hs G N H' σ ρ st := by
  obtain ⟨F, fp, s, r, n⟩ := h.ex
  refine ⟨h.len, ⟨F, fp, s.grow g.1, ?_, n⟩, g.2, h.pin⟩
  refine RL.keep (Le.refl F) _ fp r fun a ha => ?_
  obtain ⟨f1, u, q, m⟩ := RL.own _ fp r a ha
  exact ⟨(g.1 a u q (mut_tbl m)).trans q.symm, f1⟩
theorem Grow.of (t : Tb G N H) (e : ∀ b o, H b = some o → H' b = some o) : Grow G N H H' := ⟨LamX.ExtN.of e, t.ext e⟩
theorem Grow.refl (t : Tb G N H) : Grow G N H H := ⟨LamX.ExtN.refl H, t⟩
theorem keep_upd {p : Addr} {o : HO} (hp : H p = none) : ∀ b u, H b = some u → upd H p o b = some u := fun b u e => by
  rw [upd_ne (ne_of_none e hp)]
  exact e
theorem Grow.upd {p : Addr} {o : HO} (t : Tb G N H) (hp : H p = none) : Grow G N H (upd H p o) := Grow.of t (keep_upd hp)
/-- a heap that grew keeps what is owned -/
theorem own_grow {F : Hp} {L : Stk} {fr : List Addr} (r : RL G F H L fr) (e : LamX.ExtN H H') : ∀ a ∈ fr, H' a = H a ∧ F a = none := fun a ha => by
  obtain ⟨f1, u, q, m⟩ := RL.own _ fr r a ha
  exact ⟨(e a u q (mut_tbl m)).trans q.symm, f1⟩
theorem fp_ne {F : Hp} {L : Stk} {fr : List Addr} {p : Addr} (r : RL G F H L fr) (hp : H p = none) : p ∉ fr := fun hm => by
  obtain ⟨_, u, q, _⟩ := RL.own _ fr r p hm
  rw [hp] at q
  cases q
theorem zip_set {α β : Type} : ∀ (xs : List α) (ys : List β) (i : Nat) (a : α) (b : β), (xs.set i a).zip (ys.set i b) = (xs.zip ys).set i (a, b)
  | [], _, _, _, _ => by simp
  | _ :: _, [], _, _, _ => by simp
  | _ :: _, _ :: _, 0, _, _ => rfl
  | _ :: xs, _ :: ys, i + 1, a, b => by simp [zip_set xs ys i a b]
theorem get_perm {α : Type} : ∀ {l : List α} {i : Nat} {x : α}, l[i]? = some x → l.Perm (x :: l.eraseIdx i)
  | [], _, _, h => by simp at h
  | a :: l, 0, x, h => by
    have e : a = x := Option.some.inj h
    subst e
    exact .refl _
  | a :: l, i + 1, x, h => by
    have ih := get_perm (l := l) (i := i) (x := x) (by simpa using h)
    exact (ih.cons a).trans (List.Perm.swap _ _ _)
theorem set_perm {α : Type} {l : List α} {i : Nat} (h : i < l.length) (x : α) : (l.set i x).Perm (x :: l.eraseIdx i) := by
  have e := get_perm (l := l.set i x) (i := i) (x := x) (by simp [h])
  rw [List.eraseIdx_set_eq] at e
  exact e
theorem set_same {α : Type} : ∀ {l : List α} {i : Nat} {x : α}, l[i]? = some x → l.set i x = l
  | [], _, _, h => by simp at h
  | a :: l, 0, x, h => by
    have e : a = x := Option.some.inj h
    subst e
    rfl
  | a :: l, i + 1, x, h => by
    have ih := set_same (l := l) (i := i) (x := x) (by simpa using h)
    show a :: l.set i x = a :: l
    rw [ih]
theorem zip_get {α β : Type} {xs : List α} {ys : List β} {i : Nat} {a : α} {b : β} (h1 : xs[i]? = some a) (h2 : ys[i]? = some b) : (xs.zip ys)[i]? = some (a, b) := by
  rw [List.getElem?_zip_eq_some]
  exact ⟨h1, h2⟩
theorem RL.gone {F : Hp} {L : Stk} {fp : List Addr} {o : Option V} (r : RL G F H L fp) : RL G F H ((o, .gone) :: L) fp := ⟨[], fp, rfl, rfl, r⟩
theorem Hs.get (h : Hs G N H σ ρ st) {i : Nat} {s : S} (e : ρ[i]? = some s) : ∃ o, σ[i]? = some o := by
  have := (List.getElem?_eq_some_iff.mp e).1
  exact ⟨σ[i]'(by rw [h.len]; exact this), by simp⟩
/-- a slot's holding is moved to the stack -/
theorem Hs.pull (h : Hs G N H σ ρ st) {i : Nat} {s : S} {o : Option V} (e : ρ[i]? = some s) (eo : σ[i]? = some o) : Hs G N H σ (ρ.set i .gone) ((o, s) :: st) := by
  obtain ⟨F, fp, sb, r, n⟩ := h.ex
  have ez := zip_get eo e
  have hi : i < (σ.zip ρ).length := (List.getElem?_eq_some_iff.mp ez).1
  have es : σ.zip (ρ.set i .gone) = (σ.zip ρ).set i (o, .gone) := by
    rw [← zip_set]
    congr 1
    exact (set_same eo).symm
  have p1 : (st ++ σ.zip ρ).Perm ((o, s) :: (st ++ (σ.zip ρ).eraseIdx i)) := by
    exact ((get_perm ez).append_left st).trans List.perm_middle
  have p2 : ((o, S.gone) :: (o, s) :: (st ++ (σ.zip ρ).eraseIdx i)).Perm ((o, s) :: (st ++ σ.zip (ρ.set i .gone))) := by
    rw [es]
    refine (List.Perm.swap _ _ _).trans (List.Perm.cons _ ?_)
    exact (List.perm_middle.symm.trans ((set_perm hi _).symm.append_left st))
  obtain ⟨f1, r1, q1⟩ := RL.perm p1 fp r
  obtain ⟨f2, r2, q2⟩ := RL.perm p2 f1 r1.gone
  exact ⟨by rw [List.length_set]; exact h.len, ⟨F, f2, sb, r2, ((q2.trans q1).nodup_iff).mpr n⟩, h.tb, h.pin⟩
/-- a holding on the stack is laid into a slot -/
theorem Hs.put (h : Hs G N H σ ρ ((o, s) :: st)) {i : Nat} {t : S} (e : ρ[i]? = some t) (eo : σ[i]? = some o) : Hs G N H σ (ρ.set i s) st := by
  obtain ⟨F, fp, sb, r, n⟩ := h.ex
  have ez := zip_get eo e
  have hi : i < (σ.zip ρ).length := (List.getElem?_eq_some_iff.mp ez).1
  have es : σ.zip (ρ.set i s) = (σ.zip ρ).set i (o, s) := by
    rw [← zip_set]
    congr 1
    exact (set_same eo).symm
  have p1 : ((o, s) :: st ++ σ.zip ρ).Perm ((o, t) :: ((o, s) :: (st ++ (σ.zip ρ).eraseIdx i))) := by
    exact (List.Perm.cons _ (((get_perm ez).append_left st).trans List.perm_middle)).trans (List.Perm.swap _ _ _)
  obtain ⟨f1, ⟨a, b, ef, _, r1⟩, q1⟩ := RL.perm p1 fp r
  have p2 : ((o, s) :: (st ++ (σ.zip ρ).eraseIdx i)).Perm (st ++ σ.zip (ρ.set i s)) := by
    rw [es]
    exact (List.perm_middle.symm.trans ((set_perm hi _).symm.append_left st))
  obtain ⟨f2, r2, q2⟩ := RL.perm p2 b r1
  have nb : b.Nodup := by
    have := (q1.nodup_iff).mpr n
    rw [ef] at this
    exact (List.nodup_append.mp this).2.1
  exact ⟨by rw [List.length_set]; exact h.len, ⟨F, f2, sb, r2, (q2.nodup_iff).mpr nb⟩, h.tb, h.pin⟩
/-- a name is stored -/
theorem Hs.assign {v : V} {s : S} (h : Hs G N H σ ρ ((some v, s) :: st)) {i : Nat} (hi : i < ρ.length) (hj : i ∉ N.J) : Hs G N H (σ.set i (some v)) (ρ.set i s) st := by
  obtain ⟨F, fp, sb, r, n⟩ := h.ex
  have hiσ : i < σ.length := by rw [h.len]; exact hi
  have ez : (σ.zip ρ)[i]? = some (σ[i], ρ[i]) := zip_get (by simp [hiσ]) (by simp [hi])
  have hiz : i < (σ.zip ρ).length := (List.getElem?_eq_some_iff.mp ez).1
  have p1 : ((some v, s) :: st ++ σ.zip ρ).Perm ((σ[i], ρ[i]) :: ((some v, s) :: (st ++ (σ.zip ρ).eraseIdx i))) :=
    (List.Perm.cons _ (((get_perm ez).append_left st).trans List.perm_middle)).trans (List.Perm.swap _ _ _)
  obtain ⟨f1, ⟨a, b, ef, _, r1⟩, q1⟩ := RL.perm p1 fp r
  have p2 : ((some v, s) :: (st ++ (σ.zip ρ).eraseIdx i)).Perm (st ++ (σ.set i (some v)).zip (ρ.set i s)) := by
    rw [zip_set]
    exact (List.perm_middle.symm.trans ((set_perm hiz _).symm.append_left st))
  obtain ⟨f2, r2, q2⟩ := RL.perm p2 b r1
  have nb : b.Nodup := by
    have := (q1.nodup_iff).mpr n
    rw [ef] at this
    exact (List.nodup_append.mp this).2.1
  refine ⟨by rw [List.length_set, List.length_set]; exact h.len, ⟨F, f2, sb, r2, (q2.nodup_iff).mpr nb⟩, h.tb, fun j hm => ?_⟩
  rw [List.getElem?_set_ne (fun z => hj (by rw [z]; exact hm))]
  exact h.pin j hm
/-- a slot is forgotten -/
theorem Hs.forget (h : Hs G N H σ ρ st) (i : Nat) : Hs G N H σ (ρ.set i .gone) st := by
  cases e : ρ[i]? with
  | none =>
    have : ρ.length ≤ i := List.getElem?_eq_none_iff.mp e
    rw [List.set_eq_of_length_le this]
    exact h
  | some s =>
    obtain ⟨o, eo⟩ := h.get e
    exact (h.pull e eo).drop
/-- a settled slot is read -/
theorem Hs.copy (h : Hs G N H σ ρ st) {i : Nat} {x : D} (e : ρ[i]? = some (.d x)) : ∃ v, σ[i]? = some (some v) ∧ Hs G N H σ ρ ((some v, .d x) :: st) := by
  obtain ⟨o, eo⟩ := h.get e
  have h1 := h.pull e eo
  obtain ⟨F, fp, sb, ⟨a, b, ef, q, r⟩, n⟩ := h1.ex
  obtain ⟨ea, v, ev, q⟩ := q
  subst ea ev
  have h2 : Hs G N H σ (ρ.set i .gone) ((some v, .d x) :: (some v, .d x) :: st) := ⟨h1.len, ⟨F, fp, sb, ⟨[], b, ef, ⟨rfl, v, rfl, q⟩, [], b, rfl, ⟨rfl, v, rfl, q⟩, r⟩, n⟩, h1.tb, h1.pin⟩
  have h3 := h2.put (i := i) (t := .gone) (by simp [(List.getElem?_eq_some_iff.mp e).1]) eo
  rw [List.set_set] at h3
  rw [set_same e] at h3
  exact ⟨v, eo, h3⟩
/-- a settled value on the stack, twice -/
theorem Hs.dup {o : Option V} {x : D} (h : Hs G N H σ ρ ((o, .d x) :: st)) : Hs G N H σ ρ ((o, .d x) :: (o, .d x) :: st) := by
  obtain ⟨F, fp, sb, ⟨a, b, ef, ⟨ea, v, ev, q⟩, r⟩, n⟩ := h.ex
  subst ea
  exact ⟨h.len, ⟨F, fp, sb, ⟨[], b, ef, ⟨rfl, v, ev, q⟩, [], b, rfl, ⟨rfl, v, ev, q⟩, r⟩, n⟩, h.tb, h.pin⟩
/-! ### settling -/
mutual
def S.frz : S → Option D
  | .gone => none
  | .d x => some x
  | .l xs => some (.lst xs)
  | .ls xs => (S.frzs xs).map D.lst
  | .m ks vs => some (.dic ks vs)
  | .o c fs => (S.frzs fs).map (D.obj c)
  | .w _ _ => none
  | .fo _ _ => none
  | .n _ => none
def S.frzs : List S → Option (List D)
  | [] => some []
  | s :: r => match S.frz s, S.frzs r with
    | some x, some xs => some (x :: xs)
    | _, _ => none
end
def mrg (F H : Hp) (fp : List Addr) : Hp := fun a => if a ∈ fp then H a else F a
theorem mrg_in {F : Hp} {fp : List Addr} {a : Addr} (h : a ∈ fp) : mrg F H fp a = H a := if_pos h
theorem mrg_out {F : Hp} {fp : List Addr} {a : Addr} (h : a ∉ fp) : mrg F H fp a = F a := if_neg h
theorem mrg_le {F : Hp} {fp : List Addr} (h : ∀ a ∈ fp, F a = none) : Le F (mrg F H fp) := fun a o e => by
  rw [mrg_out fun z => by rw [h a z] at e; cases e]
  exact e
theorem map_some_inj {α : Type} : ∀ {a b : List α}, a.map some = b.map some → a = b
  | [], [], _ => rfl
  | [], _ :: _, h => by simp at h
  | _ :: _, [], h => by simp at h
  | x :: a, y :: b, h => by
    simp only [List.map_cons, List.cons.injEq, Option.some.injEq] at h
    rw [h.1, map_some_inj h.2]
mutual
theorem RF.frz {F : Hp} {fq : List Addr} (le : Le F (mrg F H fq)) : ∀ (s : S) (o : Option V) (fp : List Addr) (x : D), RF G F H s o fp → (∀ a ∈ fp, a ∈ fq) → S.frz s = some x → ∃ v, o = some v ∧ RD G (mrg F H fq) x v
  | .gone, _, _, _, _, _, e => by simp [S.frz] at e
  | .d x, _, _, y, ⟨_, v, q, r⟩, _, e => by
    simp only [S.frz, Option.some.injEq] at e
    subst e
    exact ⟨v, q, RD.le le x v r⟩
  | .l xs, _, _, y, ⟨a, vs, e1, e2, e3, e4, r⟩, k, e => by
    simp only [S.frz, Option.some.injEq] at e
    subst e e2
    exact ⟨_, e1, a, vs, rfl, .inl (.inl ((mrg_in (k a (by simp))).trans e3)), RDs.le le xs vs r⟩
  | .ls xs, _, _, y, ⟨a, vs, p, e1, e2, e3, e4, r⟩, k, e => by
    subst e2
    simp only [S.frz, Option.map_eq_some_iff] at e
    obtain ⟨ys, h1, h2⟩ := e
    subst h2
    obtain ⟨ws, h3, h4⟩ := RFl.frz le xs _ p ys r (fun b hb => k b (List.mem_cons_of_mem _ hb)) h1
    have h5 : vs = ws := map_some_inj h3
    subst h5
    exact ⟨_, e1, a, vs, rfl, .inl (.inl ((mrg_in (k a (by simp))).trans e3)), h4⟩
  | .m ks vs, _, _, y, ⟨a, e1, e2, e4, r⟩, k, e => by
    simp only [S.frz, Option.some.injEq] at e
    subst e e2
    have q : mrg F H fq a = H a := mrg_in (k a (by simp))
    refine ⟨_, e1, a, rfl, ?_⟩
    rcases r with ⟨kk, ws, e5, e6, e7, r⟩ | ⟨kk, ws, e5, e6, e7, r⟩
    · exact .inl ⟨kk, ws, q.trans e5, e6, e7, RDs.le le vs ws r⟩
    · exact .inr ⟨kk, ws, q.trans e5, e6, e7, RDs.le le vs ws r⟩
  | .o c fs, _, _, y, ⟨a, dx, vs, p, e1, e2, e3, e4, l, r⟩, k, e => by
    subst e2
    simp only [S.frz, Option.map_eq_some_iff] at e
    obtain ⟨ys, h1, h2⟩ := e
    subst h2
    obtain ⟨ws, h3, h4⟩ := RFl.frz le fs _ p ys r (fun b hb => k b (List.mem_cons_of_mem _ hb)) h1
    have h5 : vs = ws := map_some_inj h3
    subst h5
    exact ⟨_, e1, a, dx, vs, rfl, (mrg_in (k a (by simp))).trans e3, l, h4⟩
  | .w ks vs, _, _, _, _, _, e => by simp [S.frz] at e
  | .fo c fs, _, _, _, _, _, e => by simp [S.frz] at e
theorem RFl.frz {F : Hp} {fq : List Addr} (le : Le F (mrg F H fq)) : ∀ (s : List S) (o : List (Option V)) (fp : List Addr) (x : List D), RFl G F H s o fp → (∀ a ∈ fp, a ∈ fq) → S.frzs s = some x → ∃ vs : List V, o = vs.map some ∧ RDs G (mrg F H fq) x vs
  | [], _, _, x, ⟨e1, _⟩, _, e => by
    simp only [S.frzs, Option.some.injEq] at e
    subst e e1
    exact ⟨[], rfl, rfl⟩
  | s :: r, _, _, x, ⟨o, os', a, b, e1, e2, q1, q2⟩, k, e => by
    subst e1 e2
    cases h1 : S.frz s with
    | none => simp [S.frzs, h1] at e
    | some y =>
      cases h2 : S.frzs r with
      | none => simp [S.frzs, h1, h2] at e
      | some ys =>
        simp only [S.frzs, h1, h2, Option.some.injEq] at e
        subst e
        obtain ⟨v, e3, q3⟩ := RF.frz le s o a y q1 (fun c hc => k c (List.mem_append_left _ hc)) h1
        obtain ⟨vs, e4, q4⟩ := RFl.frz le r os' b ys q2 (fun c hc => k c (List.mem_append_right _ hc)) h2
        subst e3 e4
        exact ⟨v :: vs, rfl, v, vs, rfl, q3, q4⟩
end
/-- what is owned is settled -/
theorem Hs.freeze {o : Option V} {s : S} {x : D} (h : Hs G N H σ ρ ((o, s) :: st)) (e : S.frz s = some x) : Hs G N H σ ρ ((o, .d x) :: st) := by
  obtain ⟨F, fp, sb, ⟨a, b, ef, q, r⟩, n⟩ := h.ex
  subst ef
  have ow := RF.own s o a q
  have le : Le F (mrg F H a) := mrg_le fun c hc => (ow c hc).1
  obtain ⟨v, ev, q2⟩ := RF.frz le s o a x q (fun _ z => z) e
  obtain ⟨n1, n2, n3⟩ := List.nodup_append.mp n
  refine ⟨h.len, ⟨mrg F H a, b, fun c u hc => ?_, ⟨[], b, rfl, ⟨rfl, v, ev, q2⟩, RL.keep le _ b r fun c hc => ⟨rfl, ?_⟩⟩, n2⟩, h.tb, h.pin⟩
  · by_cases hm : c ∈ a
    · rw [mrg_in hm] at hc
      obtain ⟨_, u', hu, mu⟩ := ow c hm
      rw [hu] at hc
      cases hc
      exact ⟨mut_tbl mu, .inl hu⟩
    · rw [mrg_out hm] at hc
      exact sb c u hc
  · rw [mrg_out fun z => n3 c z c hc rfl]
    exact (RL.own _ b r c hc).1
/-! ### several on the stack -/
def zs (vs : List V) (xs : List S) : Stk := (vs.map some).zip xs
theorem RDs.len {F : Hp} : ∀ {xs : List D} {vs : List V}, RDs G F xs vs → vs.length = xs.length
  | [], _, e => by
    have e' : _ = [] := e
    subst e'
    rfl
  | x :: xs, _, ⟨v, r, e, _, s⟩ => by
    subst e
    simp [RDs.len s]
/-- settled values on the stack -/
theorem RL.ds {F : Hp} : ∀ {vs : List V} {xs : List D} {fa : List Addr}, vs.length = xs.length → (RL G F H (zs vs (xs.map .d)) fa ↔ fa = [] ∧ RDs G F xs vs)
  | [], [], fa, _ => ⟨fun h => ⟨h, rfl⟩, fun h => h.1⟩
  | [], _ :: _, _, h => by simp at h
  | _ :: _, [], _, h => by simp at h
  | v :: vs, x :: xs, fa, h => by
    have ih := fun fb => RL.ds (F := F) (vs := vs) (xs := xs) (fa := fb) (by simpa using h)
    constructor
    · rintro ⟨a, b, e, ⟨ea, w, ew, q⟩, r⟩
      obtain ⟨eb, r2⟩ := (ih b).mp r
      cases ew
      subst ea eb
      exact ⟨by simpa using e, v, vs, rfl, q, r2⟩
    · rintro ⟨e, w, r, e2, q, s⟩
      cases e2
      exact ⟨[], [], by simpa using e, ⟨rfl, v, rfl, q⟩, (ih []).mpr ⟨rfl, s⟩⟩
end
end DL
/-! the data layer: what an expression does to the state -/
namespace DL
open PySem PySem.Spec PyProof.Rows L2
inductive Res (α : Type) where
  | ok (a : α) (ρ : List S) | exc (c : Nat) (p : D) (ρ : List S) | stuck
abbrev M (α : Type) := List S → Res α
def mpure {α : Type} (a : α) : M α := fun ρ => .ok a ρ
def mbind {α β : Type} (f : M α) (g : α → M β) : M β := fun ρ => match f ρ with
  | .ok a ρ' => g a ρ'
  | .exc c p ρ' => .exc c p ρ'
  | .stuck => .stuck
theorem mbind_ok {α β : Type} {f : M α} {g : α → M β} {ρ ρ' : List S} {a : α} (h : f ρ = .ok a ρ') : mbind f g ρ = g a ρ' := by unfold mbind; rw [h]
theorem mbind_exc {α β : Type} {f : M α} {g : α → M β} {ρ ρ' : List S} {c : Nat} {p : D} (h : f ρ = .exc c p ρ') : mbind f g ρ = .exc c p ρ' := by unfold mbind; rw [h]
theorem mbind_stuck {α β : Type} {f : M α} {g : α → M β} {ρ : List S} (h : f ρ = .stuck) : mbind f g ρ = .stuck := by unfold mbind; rw [h]
def mstuck {α : Type} : M α := fun _ => .stuck
inductive ORes where
  | ok (z : S) (outs : List S) | exc (c : Nat) (p : D) (outs : List S) | stuck
/-- an exception of the c-th class -/
def ExR (G : Gx) (H : Hp) (c : Nat) (p : D) (cls : Value) (d : Option Addr) : Prop :=
  cls = .ref (G.cl c) ∧ (match p with
    | .int i => ∃ dx, d = some dx ∧ H dx = some (.xd [("row", .int i)])
    | _ => d = none)
/-- what is wanted of an outcome -/
def pst {α : Type} (G : Gx) (N : Pn) (W : WX) (σ : L2.St) (st : Stk) (K : α → List S → Prop) (r : Res α) : Prop := match r with
  | .ok a ρ' => K a ρ'
  | .exc c p ρ' => ∀ cls d H', ExR G H' c p cls d → Hs G N H' σ ρ' st → W cls d σ H'
  | .stuck => False
/-- the meaning of an expression, of a test -/
def sE (X : Cx) (e : Expr) : TE := fun σ H Q => ∀ (pins : List (Addr × Obj)) (s : Shared), Inv X pins σ H s → wpAny (model X.prog X.w) X.A (eval e X.env) (EP X pins σ Q) X.xe s
def sT (X : Cx) (e : Expr) : TT := fun σ H Q => ∀ (pins : List (Addr × Obj)) (s : Shared), Inv X pins σ H s → wpAny (model X.prog X.w) X.A (isTrue e X.env (eval e X.env)) (TP X pins σ Q) X.xe s
theorem pe_sem {X : Cx} {e : Expr} : PE X e (sE X e) := ⟨fun pins s _ _ _ I h => h pins s I⟩
theorem pt_sem {X : Cx} {e : Expr} : PT X e (sT X e) := ⟨fun pins s _ _ _ I h => h pins s I⟩
theorem sE_of {X : Cx} {e : Expr} {t : TE} (p : PE X e t) {σ : L2.St} {H : Hp} {Q : VK} (h : t σ H Q) : sE X e σ H Q := fun pins s I => p.run pins s σ H Q I h
theorem sT_of {X : Cx} {e : Expr} {t : TT} (p : PT X e t) {σ : L2.St} {H : Hp} {Q : Bool → Hp → Prop} (h : t σ H Q) : sT X e σ H Q := fun pins s I => p.run pins s σ H Q I h
/-- several, from the left -/
def sAs (X : Cx) : List Expr → TA
  | [] => fun _ H Q => Q [] H
  | e :: es => fun σ H Q => sE X e σ H fun v H1 => sAs X es σ H1 fun vs H2 => Q (v :: vs) H2
def EX (G : Gx) (N : Pn) (X : Cx) (W : WX) (e : Expr) (f : M S) : Prop := ∀ (σ : L2.St) (ρ : List S) (st : Stk) (H : Hp) (Q : VK), Hs G N H σ ρ st →
  pst G N W σ st (fun s ρ' => ∀ v H', Hs G N H' σ ρ' ((some v, s) :: st) → Q v H') (f ρ) → sE X e σ H Q
def TX (G : Gx) (N : Pn) (X : Cx) (W : WX) (e : Expr) (f : M Bool) : Prop := ∀ (σ : L2.St) (ρ : List S) (st : Stk) (H : Hp) (Q : Bool → Hp → Prop), Hs G N H σ ρ st →
  pst G N W σ st (fun b ρ' => ∀ H', Hs G N H' σ ρ' st → Q b H') (f ρ) → sT X e σ H Q
/-! ### arguments: a value on the stack, or what a slot holds -/
inductive Arg where
  | v (f : M S) | b (i : Nat)
inductive AV where
  | s (x : S) | n (i : Nat)
def mArgs : List Arg → M (List AV)
  | [] => mpure []
  | .v f :: r => mbind f fun s => mbind (mArgs r) fun avs => mpure (.s s :: avs)
  | .b i :: r => fun ρ => match ρ[i]? with
    | none => .stuck
    | some .gone => .stuck
    | some _ => mbind (mArgs r) (fun avs => mpure (.n i :: avs)) ρ
def AVR (σ : L2.St) : List AV → List V → Prop
  | [], vs => vs = []
  | .s _ :: r, vs => ∃ v ws, vs = v :: ws ∧ AVR σ r ws
  | .n i :: r, vs => ∃ v ws, vs = v :: ws ∧ σ[i]? = some (some v) ∧ AVR σ r ws
def stkA : List AV → List V → Stk
  | .s x :: r, v :: vs => (some v, x) :: stkA r vs
  | .n _ :: r, _ :: vs => stkA r vs
  | _, _ => []
def grab : List S → List AV → Option (List S × List S)
  | ρ, [] => some ([], ρ)
  | ρ, .s x :: r => (grab ρ r).map fun p => (x :: p.1, p.2)
  | ρ, .n i :: r => match ρ[i]? with
    | none => none
    | some .gone => none
    | some (.d x) => (grab ρ r).map fun p => (.d x :: p.1, p.2)
    | some s => (grab (ρ.set i .gone) r).map fun p => (s :: p.1, p.2)
def isD : S → Bool
  | .d _ => true
  | _ => false
def lay : List S → List AV → List S → List S → List S
  | ρ, .n i :: r, x :: xs, y :: ys => if isD x then lay ρ r xs ys else (lay ρ r xs ys).set i y
  | ρ, .s _ :: r, _ :: xs, _ :: ys => lay ρ r xs ys
  | ρ, _, _, _ => ρ
def AX (G : Gx) (N : Pn) (X : Cx) (W : WX) (es : List Expr) (as : List Arg) : Prop := ∀ (σ : L2.St) (ρ : List S) (st : Stk) (H : Hp) (Q : List V → Hp → Prop), Hs G N H σ ρ st →
  pst G N W σ st (fun avs ρ' => ∀ vs H', AVR σ avs vs → Hs G N H' σ ρ' (stkA avs vs ++ st) → Q vs H') (mArgs as ρ) → sAs X es σ H Q
section
variable {G : Gx} {N : Pn} {X : Cx} {W : WX} {H H' : Hp} {σ : L2.St} {ρ ρ' : List S} {st st' : Stk} {e : Expr} {es : List Expr} {f : M S} {as : List Arg}
theorem pst.mono {α : Type} {K K' : α → List S → Prop} {r : Res α} (h : pst G N W σ st K r) (k : ∀ a ρ, K a ρ → K' a ρ) (d : ∀ H ρ, Hs G N H σ ρ st' → Hs G N H σ ρ st) : pst G N W σ st' K' r := by
  cases r with
  | ok a ρ => exact k a ρ h
  | exc c p ρ => exact fun cls dd H' x hs => h cls dd H' x (d _ _ hs)
  | stuck => exact h
theorem ax_nil : AX G N X W [] [] := fun σ ρ st H Q h p => p [] H rfl h
theorem ax_v (ha : EX G N X W e f) (hr : AX G N X W es as) : AX G N X W (e :: es) (.v f :: as) := fun σ ρ st H Q h p => by
  have p' : pst G N W σ st (fun avs ρ' => ∀ vs H', AVR σ avs vs → Hs G N H' σ ρ' (stkA avs vs ++ st) → Q vs H') (mbind f (fun s => mbind (mArgs as) fun avs => mpure (.s s :: avs)) ρ) := p
  refine ha σ ρ st H _ h ?_
  cases hf : f ρ with
  | ok s ρ1 =>
    rw [mbind_ok hf] at p'
    intro v H1 h1
    refine hr σ ρ1 _ H1 _ h1 ?_
    cases hm : mArgs as ρ1 with
    | ok avs ρ2 =>
      rw [mbind_ok hm] at p'
      intro vs H2 r2 h2
      exact p' (v :: vs) H2 ⟨v, vs, rfl, r2⟩ (h2.perm List.perm_middle)
    | exc c p ρ2 =>
      rw [mbind_exc hm] at p'
      exact fun cls d H2 x h2 => p' cls d H2 x h2.drop
    | stuck =>
      rw [mbind_stuck hm] at p'
      exact p'
  | exc c p ρ1 =>
    rw [mbind_exc hf] at p'
    exact p'
  | stuck =>
    rw [mbind_stuck hf] at p'
    exact p'
theorem Hs.val {i : Nat} {s : S} (h : Hs G N H σ ρ st) (e : ρ[i]? = some s) (n : s ≠ .gone) : ∃ v, σ[i]? = some (some v) := by
  obtain ⟨o, eo⟩ := h.get e
  obtain ⟨F, fp, sb, ⟨a, b, ef, q, r⟩, nn⟩ := (h.pull e eo).ex
  cases s with
  | gone => exact absurd rfl n
  | d x =>
    obtain ⟨_, v, ev, _⟩ := q
    exact ⟨v, by rw [eo, ev]⟩
  | l xs =>
    obtain ⟨a', vs, ev, _⟩ := q
    exact ⟨_, by rw [eo, ev]⟩
  | ls xs =>
    obtain ⟨a', vs, r', ev, _⟩ := q
    exact ⟨_, by rw [eo, ev]⟩
  | m ks vs =>
    obtain ⟨a', ev, _⟩ := q
    exact ⟨_, by rw [eo, ev]⟩
  | o c fs =>
    obtain ⟨a', dx, vs, r', ev, _⟩ := q
    exact ⟨_, by rw [eo, ev]⟩
  | w ks vs =>
    obtain ⟨a', ob, ev, _⟩ := q
    exact ⟨_, by rw [eo, ev]⟩
  | fo c fs =>
    obtain ⟨a', ob, dx, vs, r', ev, _⟩ := q
    exact ⟨_, by rw [eo, ev]⟩
  | n ks =>
    obtain ⟨a', w', xs', ev, _⟩ := q
    exact ⟨_, by rw [eo, ev]⟩
theorem ax_b {i : Nat} {x : Str} {pos : Pos} (hr : AX G N X W es as) (hN : X.N[i]? = some x) (hv : Vis X.env.scope x) (hd : (x == ("__debug__" : Str)) = false := by decide) (hcd : (x == ("__classdict__" : Str)) = false := by decide) :
    AX G N X W (.Name x pos :: es) (.b i :: as) := fun σ ρ st H Q h p => by
  unfold mArgs at p
  cases ei : ρ[i]? with
  | none =>
    simp only [ei] at p
    exact p.elim
  | some s =>
    have ns : s ≠ .gone := fun z => by
      subst z
      simp only [ei] at p
      exact p.elim
    obtain ⟨v, ev⟩ := h.val ei ns
    have p' : pst G N W σ st (fun avs ρ' => ∀ vs H', AVR σ avs vs → Hs G N H' σ ρ' (stkA avs vs ++ st) → Q vs H') (mbind (mArgs as) (fun avs => mpure (.n i :: avs)) ρ) := by
      simp only [ei] at p
      cases s with
      | gone => exact absurd rfl ns
      | _ => exact p
    refine sE_of (pe_var hN hv hd hcd) ⟨v, ev, ?_⟩
    refine hr σ ρ st H _ h ?_
    cases hm : mArgs as ρ with
    | ok avs ρ2 =>
      rw [mbind_ok hm] at p'
      exact fun vs H2 r2 h2 => p' (v :: vs) H2 ⟨v, vs, rfl, ev, r2⟩ h2
    | exc c p ρ2 =>
      rw [mbind_exc hm] at p'
      exact p'
    | stuck =>
      rw [mbind_stuck hm] at p'
      exact p'
/-- what the arguments hold, gathered on the stack -/
theorem grab_ok : ∀ {avs : List AV} {vs : List V} {ρ : List S} {st : Stk} {xs ρ' : List S}, AVR σ avs vs → Hs G N H σ ρ (stkA avs vs ++ st) → grab ρ avs = some (xs, ρ') → vs.length = xs.length ∧ Hs G N H σ ρ' (zs vs xs ++ st)
  | [], vs, ρ, st, xs, ρ', r, h, e => by
    have e2 : vs = [] := r
    subst e2
    simp only [grab, Option.some.injEq, Prod.mk.injEq] at e
    obtain ⟨e1, e2⟩ := e
    subst e1 e2
    exact ⟨rfl, h⟩
  | .s x :: avs, _, ρ, st, xs, ρ', ⟨v, ws, ev, r⟩, h, e => by
    subst ev
    simp only [grab, Option.map_eq_some_iff] at e
    obtain ⟨p, e1, e2⟩ := e
    cases e2
    have h2 : Hs G N H σ ρ (stkA avs ws ++ ((some v, x) :: st)) := h.perm List.perm_middle.symm
    obtain ⟨l, q⟩ := grab_ok r h2 (xs := p.1) (ρ' := p.2) e1
    exact ⟨by simp [l], q.perm List.perm_middle⟩
  | .n i :: avs, _, ρ, st, xs, ρ', ⟨v, ws, ev, es, r⟩, h, e => by
    subst ev
    unfold grab at e
    cases ei : ρ[i]? with
    | none => simp [ei] at e
    | some s =>
      have go : ∀ (ρ1 : List S), Hs G N H σ ρ1 ((some v, s) :: (stkA avs ws ++ st)) → (grab ρ1 avs).map (fun p => (s :: p.1, p.2)) = some (xs, ρ') → (v :: ws).length = xs.length ∧ Hs G N H σ ρ' (zs (v :: ws) xs ++ st) := fun ρ1 h1 e1 => by
        simp only [Option.map_eq_some_iff] at e1
        obtain ⟨p, e1, e2⟩ := e1
        cases e2
        have h2 : Hs G N H σ ρ1 (stkA avs ws ++ ((some v, s) :: st)) := h1.perm List.perm_middle.symm
        obtain ⟨l, q⟩ := grab_ok r h2 (xs := p.1) (ρ' := p.2) e1
        exact ⟨by simp [l], q.perm List.perm_middle⟩
      cases s with
      | gone => simp [ei] at e
      | d x =>
        simp only [ei] at e
        obtain ⟨v', ev', h1⟩ := h.copy ei
        rw [es] at ev'
        cases ev'
        exact go ρ h1 e
      | l ys =>
        simp only [ei] at e
        exact go _ (h.pull ei es) e
      | ls ys =>
        simp only [ei] at e
        exact go _ (h.pull ei es) e
      | m ks ys =>
        simp only [ei] at e
        exact go _ (h.pull ei es) e
      | o c ys =>
        simp only [ei] at e
        exact go _ (h.pull ei es) e
      | w ks ys =>
        simp only [ei] at e
        exact go _ (h.pull ei es) e
      | fo c ys =>
        simp only [ei] at e
        exact go _ (h.pull ei es) e
      | n ys =>
        simp only [ei] at e
        exact go _ (h.pull ei es) e
theorem lay_len : ∀ (avs : List AV) (ρ xs ys : List S), (lay ρ avs xs ys).length = ρ.length
  | .n i :: r, ρ, x :: xs, y :: ys => by
    unfold lay
    split
    · exact lay_len r ρ xs ys
    · rw [List.length_set]
      exact lay_len r ρ xs ys
  | .s _ :: r, ρ, _ :: xs, _ :: ys => by
    unfold lay
    exact lay_len r ρ xs ys
  | [], ρ, xs, ys => by unfold lay; rfl
  | .n _ :: _, ρ, [], ys => by unfold lay; rfl
  | .n _ :: _, ρ, _ :: _, [] => by unfold lay; rfl
  | .s _ :: _, ρ, [], ys => by unfold lay; rfl
  | .s _ :: _, ρ, _ :: _, [] => by unfold lay; rfl
theorem lay_ok : ∀ {avs : List AV} {vs : List V} {ρ : List S} {st : Stk} {xs ys : List S}, AVR σ avs vs → xs.length = vs.length → ys.length = vs.length → Hs G N H σ ρ (zs vs ys ++ st) → Hs G N H σ (lay ρ avs xs ys) st
  | [], vs, ρ, st, xs, ys, r, l1, l2, h => by
    have e2 : vs = [] := r
    subst e2
    have e1 : xs = [] := List.length_eq_zero_iff.mp l1
    have e3 : ys = [] := List.length_eq_zero_iff.mp l2
    subst e1 e3
    exact h
  | .s x :: avs, _, ρ, st, x' :: xs, y :: ys, ⟨v, ws, ev, r⟩, l1, l2, h => by
    subst ev
    exact lay_ok (avs := avs) (vs := ws) r (by simpa using l1) (by simpa using l2) (Hs.drop h)
  | .s x :: avs, _, ρ, st, [], _, ⟨v, ws, ev, r⟩, l1, _, h => by subst ev; simp at l1
  | .s x :: avs, _, ρ, st, _ :: _, [], ⟨v, ws, ev, r⟩, _, l2, h => by subst ev; simp at l2
  | .n i :: avs, _, ρ, st, [], _, ⟨v, ws, ev, _, r⟩, l1, _, h => by subst ev; simp at l1
  | .n i :: avs, _, ρ, st, _ :: _, [], ⟨v, ws, ev, _, r⟩, _, l2, h => by subst ev; simp at l2
  | .n i :: avs, _, ρ, st, x :: xs, y :: ys, ⟨v, ws, ev, es, r⟩, l1, l2, h => by
    subst ev
    unfold lay
    split
    · exact lay_ok (avs := avs) (vs := ws) r (by simpa using l1) (by simpa using l2) (Hs.drop h)
    · have h1 : Hs G N H σ ρ (zs ws ys ++ ((some v, y) :: st)) := h.perm List.perm_middle.symm
      have h2 := lay_ok (avs := avs) (vs := ws) (xs := xs) r (by simpa using l1) (by simpa using l2) h1
      have hi : i < (lay ρ avs xs ys).length := by
        rw [lay_len, ← h.len]
        exact (List.getElem?_eq_some_iff.mp es).1
      exact h2.put (t := (lay ρ avs xs ys)[i]) (by simp [hi]) es
end
/-! ### operations -/
/-- r: the reading of an operation on values; op: what it does to what they hold -/
def OpS (G : Gx) (N : Pn) (W : WX) (r : L2.St → List V → Hp → VK → Prop) (op : List S → ORes) : Prop := ∀ (σ : L2.St) (ρ : List S) (st : Stk) (H : Hp) (vs : List V) (xs : List S) (Q : VK), vs.length = xs.length → Hs G N H σ ρ (zs vs xs ++ st) →
  (match op xs with
    | .ok z outs => outs.length = xs.length ∧ ∀ w H', Hs G N H' σ ρ ((some w, z) :: (zs vs outs ++ st)) → Q w H'
    | .exc c p outs => outs.length = xs.length ∧ ∀ cls d H', ExR G H' c p cls d → Hs G N H' σ ρ (zs vs outs ++ st) → W cls d σ H'
    | .stuck => False) → r σ vs H Q
def mFin (op : List S → ORes) (avs : List AV) : M S := fun ρ => match grab ρ avs with
  | none => .stuck
  | some p => match op p.1 with
    | .ok z outs => if outs.length = p.1.length then .ok z (lay p.2 avs p.1 outs) else .stuck
    | .exc c q outs => if outs.length = p.1.length then .exc c q (lay p.2 avs p.1 outs) else .stuck
    | .stuck => .stuck
def mOp (op : List S → ORes) (as : List Arg) : M S := mbind (mArgs as) (mFin op)
theorem fin_ok {G : Gx} {N : Pn} {W : WX} {σ : L2.St} {ρ : List S} {st : Stk} {H : Hp} {Q : VK} {avs : List AV} {vs : List V} {op : List S → ORes} {r : L2.St → List V → Hp → VK → Prop} (r1 : AVR σ avs vs) (h1 : Hs G N H σ ρ (stkA avs vs ++ st))
    (p : pst G N W σ st (fun s ρ' => ∀ v H', Hs G N H' σ ρ' ((some v, s) :: st) → Q v H') (mFin op avs ρ)) (ho : OpS G N W r op) : r σ vs H Q := by
  unfold mFin at p
  cases hg : grab ρ avs with
  | none =>
    rw [hg] at p
    exact p.elim
  | some q =>
    obtain ⟨xs, ρ2⟩ := q
    rw [hg] at p
    simp only at p
    obtain ⟨l, h2⟩ := grab_ok r1 h1 hg
    refine ho σ ρ2 st H vs xs Q l h2 ?_
    cases hop : op xs with
    | stuck =>
      rw [hop] at p
      exact p
    | ok z outs =>
      rw [hop] at p
      simp only at p
      by_cases hl : outs.length = xs.length
      · rw [if_pos hl] at p
        refine ⟨hl, fun w H' h3 => p w H' ?_⟩
        have h4 : Hs G N H' σ ρ2 (zs vs outs ++ ((some w, z) :: st)) := h3.perm List.perm_middle.symm
        exact lay_ok r1 l.symm (by rw [hl, l]) h4
      · rw [if_neg hl] at p
        exact p.elim
    | exc c pp outs =>
      rw [hop] at p
      simp only at p
      by_cases hl : outs.length = xs.length
      · rw [if_pos hl] at p
        exact ⟨hl, fun cls d H' x h3 => p cls d H' x (lay_ok r1 l.symm (by rw [hl, l]) h3)⟩
      · rw [if_neg hl] at p
        exact p.elim
theorem ex_op {G : Gx} {N : Pn} {X : Cx} {W : WX} {e : Expr} {es : List Expr} {as : List Arg} {op : List S → ORes} {r : L2.St → List V → Hp → VK → Prop} (hs : ∀ σ H Q, sAs X es σ H (fun vs H1 => r σ vs H1 Q) → sE X e σ H Q)
    (ha : AX G N X W es as) (ho : OpS G N W r op) : EX G N X W e (mOp op as) := fun σ ρ st H Q h p => by
  refine hs σ H Q (ha σ ρ st H _ h ?_)
  unfold mOp at p
  cases hm : mArgs as ρ with
  | exc c q ρ1 =>
    rw [mbind_exc hm] at p
    exact p
  | stuck =>
    rw [mbind_stuck hm] at p
    exact p
  | ok avs ρ1 =>
    rw [mbind_ok hm] at p
    exact fun vs H1 r1 h1 => fin_ok r1 h1 p ho
/-- a test that is an operation's answer -/
def mT (f : M S) : M Bool := mbind f fun s ρ => match s with
  | .d (.bl b) => .ok b ρ
  | _ => .stuck
theorem Hs.at_ {G : Gx} {N : Pn} {σ : L2.St} {ρ : List S} {st : Stk} {H : Hp} {v : V} {x : D} (h : Hs G N H σ ρ ((some v, .d x) :: st)) : ∃ F, Sub F H ∧ RD G F x v := by
  obtain ⟨F, fp, sb, ⟨a, b, ef, ⟨_, w, ew, q⟩, r⟩, n⟩ := h.ex
  cases ew
  exact ⟨F, sb, q⟩
theorem Hs.int {G : Gx} {N : Pn} {σ : L2.St} {ρ : List S} {st : Stk} {H : Hp} {v : V} {i : Int} (h : Hs G N H σ ρ ((some v, .d (.int i)) :: st)) : v = .int i := let ⟨_, _, q⟩ := h.at_; q
theorem Hs.bl {G : Gx} {N : Pn} {σ : L2.St} {ρ : List S} {st : Stk} {H : Hp} {v : V} {i : Bool} (h : Hs G N H σ ρ ((some v, .d (.bl i)) :: st)) : v = .bl i := let ⟨_, _, q⟩ := h.at_; q
theorem Hs.str {G : Gx} {N : Pn} {σ : L2.St} {ρ : List S} {st : Stk} {H : Hp} {v : V} {i : Str} (h : Hs G N H σ ρ ((some v, .d (.str i)) :: st)) : v = .str i := let ⟨_, _, q⟩ := h.at_; q
theorem Hs.non {G : Gx} {N : Pn} {σ : L2.St} {ρ : List S} {st : Stk} {H : Hp} {v : V} (h : Hs G N H σ ρ ((some v, .d .non) :: st)) : v = .non := let ⟨_, _, q⟩ := h.at_; q
theorem EX.bind {G : Gx} {N : Pn} {X : Cx} {W : WX} {e : Expr} {f : M S} {σ : L2.St} {ρ : List S} {st st0 : Stk} {H : Hp} {β : Type} {K : β → List S → Prop} {g : S → M β} {R : VK} (ha : EX G N X W e f) (h : Hs G N H σ ρ st)
    (p : pst G N W σ st0 K (mbind f g ρ)) (k : ∀ s ρ1 v H1, Hs G N H1 σ ρ1 ((some v, s) :: st) → pst G N W σ st0 K (g s ρ1) → R v H1)
    (d : ∀ H ρ, Hs G N H σ ρ st → Hs G N H σ ρ st0 := by exact fun _ _ q => q) : sE X e σ H R := by
  refine ha σ ρ st H _ h ?_
  cases hf : f ρ with
  | ok s ρ1 =>
    rw [mbind_ok hf] at p
    exact fun v H1 h1 => k s ρ1 v H1 h1 p
  | exc c q ρ1 =>
    rw [mbind_exc hf] at p
    exact fun cls dd H' x h' => p cls dd H' x (d _ _ h')
  | stuck =>
    rw [mbind_stuck hf] at p
    exact p
theorem TX.bind {G : Gx} {N : Pn} {X : Cx} {W : WX} {e : Expr} {f : M Bool} {σ : L2.St} {ρ : List S} {st st0 : Stk} {H : Hp} {β : Type} {K : β → List S → Prop} {g : Bool → M β} {R : Bool → Hp → Prop} (ha : TX G N X W e f) (h : Hs G N H σ ρ st)
    (p : pst G N W σ st0 K (mbind f g ρ)) (k : ∀ b ρ1 H1, Hs G N H1 σ ρ1 st → pst G N W σ st0 K (g b ρ1) → R b H1)
    (d : ∀ H ρ, Hs G N H σ ρ st → Hs G N H σ ρ st0 := by exact fun _ _ q => q) : sT X e σ H R := by
  refine ha σ ρ st H _ h ?_
  cases hf : f ρ with
  | ok s ρ1 =>
    rw [mbind_ok hf] at p
    exact fun H1 h1 => k s ρ1 H1 h1 p
  | exc c q ρ1 =>
    rw [mbind_exc hf] at p
    exact fun cls dd H' x h' => p cls dd H' x (d _ _ h')
  | stuck =>
    rw [mbind_stuck hf] at p
    exact p
theorem AX.bind {G : Gx} {N : Pn} {X : Cx} {W : WX} {es : List Expr} {as : List Arg} {σ : L2.St} {ρ : List S} {st st0 : Stk} {H : Hp} {β : Type} {K : β → List S → Prop} {g : List AV → M β} {R : List V → Hp → Prop} (ha : AX G N X W es as) (h : Hs G N H σ ρ st)
    (p : pst G N W σ st0 K (mbind (mArgs as) g ρ)) (k : ∀ avs ρ1 vs H1, AVR σ avs vs → Hs G N H1 σ ρ1 (stkA avs vs ++ st) → pst G N W σ st0 K (g avs ρ1) → R vs H1)
    (d : ∀ H ρ, Hs G N H σ ρ st → Hs G N H σ ρ st0 := by exact fun _ _ q => q) : sAs X es σ H R := by
  refine ha σ ρ st H _ h ?_
  cases hf : mArgs as ρ with
  | ok s ρ1 =>
    rw [mbind_ok hf] at p
    exact fun v H1 r1 h1 => k s ρ1 v H1 r1 h1 p
  | exc c q ρ1 =>
    rw [mbind_exc hf] at p
    exact fun cls dd H' x h' => p cls dd H' x (d _ _ h')
  | stuck =>
    rw [mbind_stuck hf] at p
    exact p
theorem pst.deep {G : Gx} {N : Pn} {W : WX} {σ : L2.St} {st : Stk} {α : Type} {x : Option V × S} {K K' : α → List S → Prop} {r : Res α} (h : pst G N W σ st K r) (k : ∀ a ρ, K a ρ → K' a ρ) : pst G N W σ (x :: st) K' r :=
  pst.mono h k fun _ _ q => q.drop
end DL
/-! the data layer: the forms of expressions -/
namespace DL
open PySem PySem.Spec PyProof.Rows L2
theorem sE.mono {X : Cx} {e : Expr} {σ : L2.St} {H : Hp} {Q Q' : VK} (h : sE X e σ H Q) (k : ∀ v H', Q v H' → Q' v H') : sE X e σ H Q' := fun pins s I =>
  thn (h pins s I) fun _ _ ⟨v, H', I', r, q⟩ => ⟨v, H', I', r, k v H' q⟩
theorem sT.mono {X : Cx} {e : Expr} {σ : L2.St} {H : Hp} {Q Q' : Bool → Hp → Prop} (h : sT X e σ H Q) (k : ∀ v H', Q v H' → Q' v H') : sT X e σ H Q' := fun pins s I =>
  thn (h pins s I) fun _ _ ⟨H', I', q⟩ => ⟨H', I', k _ H' q⟩
theorem sAs.mono {X : Cx} : ∀ {es : List Expr} {σ : L2.St} {H : Hp} {Q Q' : List V → Hp → Prop}, sAs X es σ H Q → (∀ v H', Q v H' → Q' v H') → sAs X es σ H Q'
  | [], _, _, _, _, h, k => k _ _ h
  | _ :: es, _, _, _, _, h, k => sE.mono h fun _ _ q => sAs.mono q fun _ _ q => k _ _ q
theorem pa_c {X : Cx} {e : Expr} {es : List Expr} (hr : PA X es (sAs X es)) (hs : starEach (e :: es) X.env = (false, eval e X.env) :: starEach es X.env := by rfl) : PA X (e :: es) (sAs X (e :: es)) := pa_cons pe_sem hr hs
theorem pa_n {X : Cx} : PA X [] (sAs X []) := pa_nil
section
variable {G : Gx} {N : Pn} {X : Cx} {W : WX} {H H' : Hp} {σ : L2.St} {ρ ρ' : List S} {st st' : Stk} {e a b c : Expr} {es : List Expr} {f fa fb fc : M S} {as : List Arg} {pos : Pos}
/-! ### constants, names -/
def mCon (x : D) : M S := mpure (.d x)
theorem ex_con {x : D} {v : V} (p : PE X e (tC v)) (hx : ∀ F : Hp, RD G F x v) : EX G N X W e (mCon x) := fun σ ρ st H Q h q =>
  sE_of p (q v H (by
    obtain ⟨F, fp, sb, r, n⟩ := h.ex
    exact ⟨h.len, ⟨F, fp, sb, ⟨[], fp, rfl, ⟨rfl, v, rfl, hx F⟩, r⟩, n⟩, h.tb, h.pin⟩))
theorem ex_int {i : Int} {j : Nat} : EX G N X W (.Constant (.int i) j pos) (mCon (.int i)) := ex_con pe_int fun _ => rfl
theorem ex_str {x : Str} {j : Nat} : EX G N X W (.Constant (.str x) j pos) (mCon (.str x)) := ex_con pe_str fun _ => rfl
theorem ex_bl {x : Bool} {j : Nat} : EX G N X W (.Constant (.bool x) j pos) (mCon (.bl x)) := ex_con pe_bl fun _ => rfl
/-- a settled slot -/
def mVar (i : Nat) : M S := fun ρ => match ρ[i]? with
  | some (.d x) => .ok (.d x) ρ
  | _ => .stuck
/-- a slot is settled, then read -/
def mFrz (i : Nat) : M S := fun ρ => match ρ[i]? with
  | some s => match s.frz with
    | some x => .ok (.d x) (ρ.set i (.d x))
    | none => .stuck
  | none => .stuck
theorem Hs.frzAt {i : Nat} {s : S} {x : D} (h : Hs G N H σ ρ st) (e : ρ[i]? = some s) (ex : s.frz = some x) : Hs G N H σ (ρ.set i (.d x)) st := by
  obtain ⟨o, eo⟩ := h.get e
  have h1 := (h.pull e eo).freeze ex
  have h2 := h1.put (i := i) (t := .gone) (by simp [(List.getElem?_eq_some_iff.mp e).1]) eo
  rw [List.set_set] at h2
  exact h2
theorem ex_frz (i : Nat) {x : Str} (hN : X.N[i]? = some x := by rfl) (hv : Vis X.env.scope x := by first | exact Or.inl rfl | exact Or.inr (Or.inl rfl) | exact Or.inr (Or.inr rfl)) (hd : (x == ("__debug__" : Str)) = false := by decide)
    (hcd : (x == ("__classdict__" : Str)) = false := by decide) : EX G N X W (.Name x pos) (mFrz i) := fun σ ρ st H Q h q => by
  unfold mFrz at q
  split at q
  · rename_i s e
    split at q
    · rename_i y ey
      have h1 := h.frzAt e ey
      obtain ⟨v, ev, h2⟩ := h1.copy (i := i) (x := y) (by simp [(List.getElem?_eq_some_iff.mp e).1])
      exact sE_of (pe_var hN hv hd hcd) ⟨v, ev, q v H h2⟩
    · exact q.elim
  · exact q.elim
/-- what a slot holds is handed on -/
def mMov (i : Nat) : M S := fun ρ => match ρ[i]? with
  | some .gone => .stuck
  | some s => .ok s (ρ.set i .gone)
  | none => .stuck
theorem ex_mov (i : Nat) {x : Str} (hN : X.N[i]? = some x := by rfl) (hv : Vis X.env.scope x := by first | exact Or.inl rfl | exact Or.inr (Or.inl rfl) | exact Or.inr (Or.inr rfl)) (hd : (x == ("__debug__" : Str)) = false := by decide)
    (hcd : (x == ("__classdict__" : Str)) = false := by decide) : EX G N X W (.Name x pos) (mMov i) := fun σ ρ st H Q h q => by
  unfold mMov at q
  split at q
  · exact q.elim
  · rename_i s ns e
    obtain ⟨v, ev⟩ := h.val e (fun z => ns z)
    exact sE_of (pe_var hN hv hd hcd) ⟨v, ev, q v H (h.pull e ev)⟩
  · exact q.elim
/-! ### operators -/
def r1L (r : V → Hp → VK → Prop) : L2.St → List V → Hp → VK → Prop := fun _ vs H Q => match vs with
  | [x] => r x H Q
  | _ => False
def r2L (r : R2) : L2.St → List V → Hp → VK → Prop := fun _ vs H Q => match vs with
  | [x, y] => r x y H Q
  | _ => False
def rL (r : List V → Hp → VK → Prop) : L2.St → List V → Hp → VK → Prop := fun _ vs H Q => r vs H Q
theorem ex_bin {op : Operator} {r : R2} {g : List S → ORes} (ho : OpR X (binaryOp op) r) (hg : OpS G N W (r2L r) g) (ha : AX G N X W [a, b] as) : EX G N X W (.BinOp a op b pos) (mOp g as) :=
  ex_op (es := [a, b]) (r := r2L r) (fun σ H Q h => sE_of (pe_op ho pe_sem pe_sem) h) ha hg
theorem ex_cmp {op : CmpOp} {r : R2} {g : List S → ORes} (ho : OpR X (compareOp op) r) (hg : OpS G N W (r2L r) g) (ha : AX G N X W [a, b] as) (hm : behindInMarks op b = false := by first | exact nomark _ | rfl) : EX G N X W (.Compare a [op] [b] pos) (mOp g as) :=
  ex_op (es := [a, b]) (r := r2L r) (fun σ H Q h => sE_of (pe_cmpR ho pe_sem pe_sem hm) h) ha hg
theorem ex_ix {r : R2} {g : List S → ORes} (ho : IxR X r) (hg : OpS G N W (r2L r) g) (ha : AX G N X W [a, b] as) (hs : PlainIx b := by exact fun _ _ => rfl) : EX G N X W (.Subscript a b pos) (mOp g as) :=
  ex_op (es := [a, b]) (r := r2L r) (fun σ H Q h => sE_of (pe_ix ho pe_sem pe_sem hs) h) ha hg
theorem ex_callB {x : Str} {id : String} {r : List V → Hp → VK → Prop} {g : List S → ORes} {p : Pos} (hc : CallR X (.builtin id) r) (hg : OpS G N W (rL r) g) (hm : X.mg x = none) (hb : bootBuiltins x = some (.builtin id)) (ha : AX G N X W (e :: es) as) (hp : PA X (e :: es) (sAs X (e :: es))) (hgl : Gl X x := by rfl) (hn : x ≠ "__name__" := by decide) (hdb : (x == ("__debug__" : Str)) = false := by decide)
    (he : starEach (e :: es) X.env = (false, eval e X.env) :: starEach es X.env := by rfl) (hpl : (backTo pos (starEach es X.env)).any (·.1) = false := by rfl) : EX G N X W (.Call (.Name x p) (e :: es) [] pos) (mOp g as) :=
  ex_op (r := rL r) (fun σ H Q h => sE_of (pe_callB hc hgl hm hb hp hn hdb he hpl) h) ha hg
theorem ex_callT {x : Str} {T : String} {r : List V → Hp → VK → Prop} {g : List S → ORes} {p : Pos} (hc : CallR X (.type T) r) (hg : OpS G N W (rL r) g) (hm : X.mg x = none) (hb : bootBuiltins x = some (.type T)) (ha : AX G N X W (e :: es) as) (hp : PA X (e :: es) (sAs X (e :: es))) (hgl : Gl X x := by rfl) (hn : x ≠ "__name__" := by decide) (hdb : (x == ("__debug__" : Str)) = false := by decide)
    (he : starEach (e :: es) X.env = (false, eval e X.env) :: starEach es X.env := by rfl) (hpl : (backTo pos (starEach es X.env)).any (·.1) = false := by rfl) : EX G N X W (.Call (.Name x p) (e :: es) [] pos) (mOp g as) :=
  ex_op (r := rL r) (fun σ H Q h => sE_of (pe_callTy hc hgl hm hb hp hn hdb he hpl) h) ha hg
/-- a tuple, a list, written -/
theorem ex_tup {k : Nat} {g : List S → ORes} (hg : OpS G N W (rL fun vs H Q => vs.length ≤ sizeLine ∧ ∀ p, H p = none → Q (.ref p) (upd H p (.tup vs))) g) (ha : AX G N X W es as) (hp : PA X es (sAs X es)) : EX G N X W (.Tuple es k pos) (mOp g as) :=
  ex_op (r := rL _) (fun σ H Q h => sE_of (pe_tup hp) h) ha hg
theorem ex_lst {g : List S → ORes} (hg : OpS G N W (rL fun vs H Q => vs.length ≤ sizeLine ∧ ∀ p, H p = none → Q (.ref p) (upd H p (.lst vs))) g) (ha : AX G N X W es as) (hp : PA X es (sAs X es)) : EX G N X W (.List es pos) (mOp g as) :=
  ex_op (r := rL _) (fun σ H Q h => sE_of (pe_lst hp) h) ha hg
/-! what is read of an instance, frozen or not -/
theorem ins_getR {P : Program} {w : World} {H : Hp} {h : Heap} {a C dx : Addr} {fs : List (Str × V)} (hok : HOk P w H h) (e : Rd H a (.ins C dx fs)) : ∃ mA, L2.ObjM h a dx C mA ∧ (∀ f, RelO (fs.lookup f) (mA f)) := by
  obtain ⟨d, z, ne, ob, mA, n, r, q⟩ := (show ObjOk P w H h a (.ins C dx fs) from e.ok hok)
  exact ⟨mA, ⟨ob, n, ne⟩, r⟩
theorem getattrR {X : Cx} {pins : List (Addr × Obj)} {σ : L2.St} {H : Hp} {s : Shared} {a C dx : Addr} {fs : List (Str × V)} {f : Str} {v : V} {A : Around} {E : Value → Shared → Prop} {b : Bool} {Q : Value → Shared → Prop} (I : Inv X pins σ H s) (e : Rd H a (.ins C dx fs)) (c : Cls X.K C) (n : NoAttr X.K C f) (l : fs.lookup f = some v)
    (h : ∀ u s', Inv X pins σ H s' → RelV v u → Q u s') : wpAny (model X.prog X.w) A (getAttr (.ref a) f b) Q E s := by
  obtain ⟨mA, O, r⟩ := ins_getR I.hok e
  obtain ⟨u, hu, ru⟩ := RelO.some_of (v := v) (o := mA f) (by rw [← l]; exact r f)
  exact L2.get_map I.kIn O (c.get f) c.hd n hu (handed_of ru) (h u _ (I.tok _) ru)
theorem getmethR {X : Cx} {pins : List (Addr × Obj)} {σ : L2.St} {H : Hp} {s : Shared} {a C dx : Addr} {fs : List (Str × V)} {A : Around} {E : Value → Shared → Prop} {m : Str} {g : Addr} {pl : Sem Bool} {Q : Value × List Value → Shared → Prop} (I : Inv X pins σ H s) (e : Rd H a (.ins C dx fs)) (c : Cls X.K C) (k : Meth X.K C m g) (l : fs.lookup m = none)
    (h : Q (.ref g, [.ref a]) s) : wpAny (model X.prog X.w) A (getMethod (.ref a) m pl) Q E s := by
  obtain ⟨mA, O, r⟩ := ins_getR I.hok e
  have hn : mA m = none := RelO.none_of (by rw [← l]; exact r m)
  exact L2.get_meth I.kIn O (c.get m) k.at_ k.fn hn h
def tFldR (K : PySem.W.Frag) (ta : TE) (f : Str) : TE := fun σ H Q => ta σ H fun x H1 => ∃ a C dx fs v, x = .ref a ∧ Rd H1 a (.ins C dx fs) ∧ Cls K C ∧ NoAttr K C f ∧ fs.lookup f = some v ∧ Q v H1
theorem pe_fldR {X : Cx} {e : Expr} {f : Str} {pos : Pos} {ta : TE} (he : PE X e ta) (hb : attributeBase e f X.env (eval e X.env) = eval e X.env) : PE X (.Attribute e f pos) (tFldR X.K ta f) := by
  refine ⟨fun pins s σ H Q I h => ?_⟩
  refine attr_of hb (thn (he.run pins s σ H _ I h) fun u s1 ⟨x, H1, I1, rx, a, C, dx, fs, v, ex, ea, c, n, l, q⟩ => ?_)
  subst ex
  obtain rfl : u = Value.ref a := rx
  exact getattrR I1 ea c n l fun u' s2 I2 ru => ⟨v, H1, I2, ru, q⟩
/-- e.f -/
theorem ex_fld {x : Str} {g : List S → ORes} (hg : OpS G N W (r1L fun v H Q => ∃ a C dx fs w, v = .ref a ∧ Rd H a (.ins C dx fs) ∧ Cls X.K C ∧ NoAttr X.K C x ∧ fs.lookup x = some w ∧ Q w H) g) (ha : AX G N X W [a] as) (hb : attributeBase a x X.env (eval a X.env) = eval a X.env := by rfl) :
    EX G N X W (.Attribute a x pos) (mOp g as) :=
  ex_op (es := [a]) (r := r1L _) (fun σ H Q h => sE_of (pe_fldR pe_sem hb) h) ha hg
/-! ### calls of the text's own -/
def spD (G : Gx) (op : List S → ORes) : Sp := fun vs H Q E => ∃ (N : Pn) (σ : L2.St) (ρ : List S) (st : Stk) (xs : List S), vs.length = xs.length ∧ Hs G N H σ ρ (zs vs xs ++ st) ∧
  (match op xs with
    | .ok z outs => outs.length = xs.length ∧ ∀ w H', Hs G N H' σ ρ ((some w, z) :: (zs vs outs ++ st)) → Q w H'
    | .exc c p outs => outs.length = xs.length ∧ ∀ cls d H', ExR G H' c p cls d → Hs G N H' σ ρ (zs vs outs ++ st) → E cls d H'
    | .stuck => False)
theorem ops_own {op : List S → ORes} : OpS G N W (fun σ vs H Q => spD G op vs H Q (WE W σ)) op := fun σ ρ st H vs xs Q l h p => ⟨N, σ, ρ, st, xs, l, h, p⟩
/-- a def of the text, called by its name -/
structure CalF (P : Program) (w : World) (K : PySem.W.Frag) (mg : Str → Option Value) (base : Heap) (G : Gx) (k : Nat) (x : Str) (op : List S → ORes) : Prop where
  ex : ∃ f fd ps, FnOk P w K mg base (L2.CX P w) k f fd ps (spD G op) ∧ mg x = some (.ref f) ∧ PySem.W.keepIn K (.ref f) = true ∧ Binds K fd ps []
theorem ex_call {k : Nat} {x : Str} {g : List S → ORes} {p : Pos} (F : CalF X.prog X.w X.K X.mg X.base G k x g) (hr : Room k X.A) (tk : Takes X W) (ha : AX G N X W (e :: es) as) (hp : PA X (e :: es) (sAs X (e :: es))) (hgl : Gl X x := by rfl) (hdb : (x == ("__debug__" : Str)) = false := by decide)
    (he : starEach (e :: es) X.env = (false, eval e X.env) :: starEach es X.env := by rfl) (hpl : (backTo pos (starEach es X.env)).any (·.1) = false := by rfl) : EX G N X W (.Call (.Name x p) (e :: es) [] pos) (mOp g as) := by
  obtain ⟨f, fd, ps, hf, hm, hk, hb⟩ := F.ex
  refine ex_op (r := fun σ vs H Q => spD G g vs H Q (WE W σ)) (fun σ H Q h => sE_of (pe_callSD (E := WE W) hf hr hgl hm hk hb .nil (fun σ => passAt tk σ) hp hdb he hpl) ?_) ha ops_own
  exact sAs.mono h fun vs H' q => by
    rw [List.append_nil]
    exact q
/-- an own class, made -/
structure CalC (P : Program) (w : World) (K : PySem.W.Frag) (mg : Str → Option Value) (base : Heap) (G : Gx) (k : Nat) (x : Str) (c : Nat) (op : List S → ORes) : Prop where
  ex : ∃ f fd ps, FnOk P w K mg base (L2.CX P w) k f fd ps (spD G op) ∧ mg x = some (.ref (G.cl c)) ∧ Mk K (G.cl c) f ∧ Binds K fd ps []
theorem run_makeS {CX : CXT} {k : Nat} {f C : Addr} {fd : FuncData} {ps : List Str} {sp : Sp} {E : XK} {pins : List (Addr × Obj)} {s : Shared} {Q : VK} {us : List Value} {vs : List V} (M : Mk X.K C f) (F : FnOk X.prog X.w X.K X.mg X.base CX k f fd ps sp) (hr : Room (k + 1) X.A) (hb : Binds X.K fd ps [])
    (hx : PassesAt CX X σ E) (I : Inv X pins σ H s) (r : Vals vs us)
    (h : ∀ x dx, H x = none → H dx = none → dx ≠ x → sp (.ref x :: vs) (upd (upd H dx (.own x)) x (.ins C dx [])) (fun v H2 => v = .non ∧ Q (.ref x) H2) E) :
    wpAny (model X.prog X.w) X.A (call (.ref C) us) (EP X pins σ Q) X.xe s := by
  have hq := h (s.heap.objs.size + 1) s.heap.objs.size (I.hok.fresh (Nat.le_succ _)) (I.hok.fresh (Nat.le_refl _)) (Nat.ne_of_lt (Nat.lt_succ_self _))
  have I2 := Inv.made (C := C) I
  have r2 : Vals (V.ref (s.heap.objs.size + 1) :: vs) (Value.ref (s.heap.objs.size + 1) :: us) := .cons rfl r
  have hl : ((Value.ref (s.heap.objs.size + 1) :: us) ++ []).length = ps.length := by
    have e := r2.length
    rw [F.len _ _ _ _ hq] at e
    rw [List.append_nil]
    exact e.symm
  have hbb := hb { s with heap := (s.heap.push PySem.W.emptyDict).push (PySem.W.instObj C s.heap.objs.size) } (Value.ref (s.heap.objs.size + 1) :: us) I2.kIn hl
  rw [List.append_nil] at hbb
  refine wpAny_call (make_map (f := f) I.kIn M.makes M.init (beq_iff_eq.mp M.fn) (codeAny_mono (F.run _ X.stack _ _ ⟨Value.ref (s.heap.objs.size + 1) :: us, []⟩ (Value.ref (s.heap.objs.size + 1) :: us) _ _ E (hr.make C us [])
    (I2.env0.make C us []) hbb r2 hq) fun r s' hq' => ?_))
  cases r with
  | error e => exact hx pins _ _ e s' I2 hq'
  | ok fl =>
    cases fl with
    | ret u =>
      obtain ⟨v, H', I3, rv, ev, q3⟩ := I2.after hq'
      subst ev
      exact ⟨rv, ⟨V.ref (s.heap.objs.size + 1), H', I3, rfl, q3⟩⟩
    | next => exact False.elim hq'
    | brk => exact False.elim hq'
    | cont => exact False.elim hq'
/-- C(..) by its __init__ op -/
def mkOp (c : Nat) (op : List S → ORes) : List S → ORes := fun xs => match op (.o c [] :: xs) with
  | .ok (.d .non) (z :: outs) => .ok z outs
  | .exc k p (_ :: outs) => .exc k p outs
  | _ => .stuck
theorem ops_make {c : Nat} {op : List S → ORes} : OpS G N W (fun σ vs H Q => ∀ x dx, H x = none → H dx = none → dx ≠ x → spD G op (.ref x :: vs) (upd (upd H dx (.own x)) x (.ins (G.cl c) dx [])) (fun v H2 => v = .non ∧ Q (.ref x) H2) (WE W σ)) (mkOp c op) := fun σ ρ st H vs xs Q l h p x dx hx hd hne => by
  have ha : Hs G N (upd (upd H dx (.own x)) x (.ins (G.cl c) dx [])) σ ρ (zs (.ref x :: vs) (.o c [] :: xs) ++ st) := by
    obtain ⟨F, fp, sb, r, n⟩ := h.ex
    have e : ∀ b o, H b = some o → upd (upd H dx (.own x)) x (.ins (G.cl c) dx []) b = some o := fun b o q => by
      rw [upd_ne (ne_of_none q hx), upd_ne (ne_of_none q hd)]
      exact q
    have g : Grow G N H (upd (upd H dx (.own x)) x (.ins (G.cl c) dx [])) := Grow.of h.tb e
    have kp := own_grow r g.1
    refine ⟨h.len, ⟨F, x :: fp, sb.grow g.1, ⟨[x], fp, rfl, ⟨x, dx, [], [], rfl, rfl, ?_, sb.none hx, Nat.zero_le _, rfl, rfl⟩, RL.keep (Le.refl F) _ fp r kp⟩, List.nodup_cons.mpr ⟨fp_ne r hx, n⟩⟩, g.2, h.pin⟩
    rw [upd_same]
    simp
  refine ⟨N, σ, ρ, st, .o c [] :: xs, by simp [l], ha, ?_⟩
  unfold mkOp at p
  cases ho : op (.o c [] :: xs) with
  | stuck =>
    rw [ho] at p
    exact p
  | exc k q outs =>
    rw [ho] at p
    cases outs with
    | nil => exact p.elim
    | cons z outs =>
      exact ⟨by simpa using p.1, fun cls d H' x' h2 => p.2 cls d H' x' h2.drop⟩
  | ok z outs =>
    rw [ho] at p
    split at p
    · rename_i z' outs' outs2 heq
      split at heq
      · rename_i z2 outs3 heq2
        cases heq
        cases heq2
        refine ⟨by simpa using p.1, fun w H' h2 => ?_⟩
        have ew : w = .non := by
          obtain ⟨F, fp, sb, ⟨a, b, ef, ⟨_, v, ev, q⟩, r⟩, n⟩ := h2.ex
          cases ev
          exact q
        exact ⟨ew, p.2 (.ref x) H' h2.drop⟩
      · rename_i heq2
        cases heq2
      · cases heq
    · rename_i heq
      split at heq
      · cases heq
      · rename_i heq2
        cases heq2
      · cases heq
    · exact p.elim
theorem ex_make {k c : Nat} {x : Str} {g : List S → ORes} {p : Pos} (F : CalC X.prog X.w X.K X.mg X.base G k x c g) (hr : Room (k + 1) X.A) (tk : Takes X W) (ha : AX G N X W (e :: es) as) (hp : PA X (e :: es) (sAs X (e :: es))) (hgl : Gl X x := by rfl) (hdb : (x == ("__debug__" : Str)) = false := by decide)
    (he : starEach (e :: es) X.env = (false, eval e X.env) :: starEach es X.env := by rfl) (hpl : (backTo pos (starEach es X.env)).any (·.1) = false := by rfl) : EX G N X W (.Call (.Name x p) (e :: es) [] pos) (mOp (mkOp c g) as) := by
  obtain ⟨f, fd, ps, hf, hm, hk, hb⟩ := F.ex
  refine ex_op (r := fun σ vs H Q => ∀ x dx, H x = none → H dx = none → dx ≠ x → spD G g (.ref x :: vs) (upd (upd H dx (.own x)) x (.ins (G.cl c) dx [])) (fun v H2 => v = .non ∧ Q (.ref x) H2) (WE W σ)) (fun σ H Q h pins s I => ?_) ha ops_make
  refine wpAny_Call_Name_kw (ld_glob I hgl hm ?_ hdb)
  refine PySem.W.callWith_K (h₀ := X.base) I.ok.mod.kin hk.kp (thn (hp.run pos pins s σ H _ I h) fun us s1 ⟨vs, H1, I1, r, q⟩ => ⟨I1.kIn, ?_⟩) he hpl
  exact run_makeS hk hf hr hb (passAt tk σ) I1 r q
theorem ex_make0 {k c : Nat} {x : Str} {g : List S → ORes} {p : Pos} (F : CalC X.prog X.w X.K X.mg X.base G k x c g) (hr : Room (k + 1) X.A) (tk : Takes X W) (hgl : Gl X x := by rfl) (hdb : (x == ("__debug__" : Str)) = false := by decide) : EX G N X W (.Call (.Name x p) [] [] pos) (mOp (mkOp c g) []) := by
  obtain ⟨f, fd, ps, hf, hm, hk, hb⟩ := F.ex
  refine ex_op (es := []) (r := fun σ vs H Q => ∀ x dx, H x = none → H dx = none → dx ≠ x → spD G g (.ref x :: vs) (upd (upd H dx (.own x)) x (.ins (G.cl c) dx [])) (fun v H2 => v = .non ∧ Q (.ref x) H2) (WE W σ)) (fun σ H Q h pins s I => ?_) ax_nil ops_make
  refine wpAny_Call_Name_kw (ld_glob I hgl hm ?_ hdb)
  exact PySem.W.callWith_K0 I.kIn hk.kp (run_makeS (us := []) hk hf hr hb (passAt tk σ) I .nil h)
end
end DL
/-! the data layer: tests, and, or, chains, methods -/
namespace DL
open PySem PySem.Spec PyProof.Rows L2
section
variable {G : Gx} {N : Pn} {X : Cx} {W : WX} {H H' : Hp} {σ : L2.St} {ρ ρ' : List S} {st st' : Stk} {e a b c : Expr} {es rest : List Expr} {f fa fb fc : M S} {t u : M Bool} {as : List Arg} {pos : Pos}
theorem tx_val (ha : EX G N X W a f) (he : ∀ whole, isTrue a X.env whole = (do let v ← whole; standAt a.pos; holding [v] (truthy v)) := by intro _; rfl) : TX G N X W a (mT f) := fun σ ρ st H Q h p =>
  sT_of (pt_val pe_sem he) (ha.bind h p fun s ρ1 v H1 h1 p1 => by
    split at p1
    · exact ⟨_, h1.bl, p1 H1 h1.drop⟩
    · exact p1.elim)
theorem tx_cmp {op : CmpOp} {r : R2} {g : List S → ORes} (ho : OpR X (compareOp op) r) (hg : OpS G N W (r2L r) g) (ha : AX G N X W [a, b] as) (hm : behindInMarks op b = false := by first | exact nomark _ | rfl) : TX G N X W (.Compare a [op] [b] pos) (mT (mOp g as)) := fun σ ρ st H Q h p => by
  refine sT_of (pt_cmpR ho pe_sem pe_sem hm) ?_
  have p' : pst G N W σ st (fun b ρ' => ∀ H', Hs G N H' σ ρ' st → Q b H') (mbind (mArgs as) (fun avs => mT (mFin g avs)) ρ) := by
    have e : mT (mOp g as) ρ = mbind (mArgs as) (fun avs => mT (mFin g avs)) ρ := by
      unfold mT mOp
      cases hm : mArgs as ρ with
      | ok s ρ1 => rw [mbind_ok hm]; unfold mbind; rw [hm]
      | exc c q ρ1 => rw [mbind_exc hm, mbind_exc (mbind_exc hm)]
      | stuck => rw [mbind_stuck hm, mbind_stuck (mbind_stuck hm)]
    rw [← e]
    exact p
  show sAs X [a, b] σ H fun vs H2 => r2L r σ vs H2 fun x H' => ∃ k, x = .bl k ∧ Q k H'
  refine ha.bind h p' fun avs ρ1 vs H1 r1 h1 p1 => ?_
  refine fin_ok r1 h1 ?_ hg
  unfold mT at p1
  cases hf : mFin g avs ρ1 with
  | ok s ρ2 =>
    rw [mbind_ok hf] at p1
    intro v H2 h2
    split at p1
    · exact ⟨_, h2.bl, p1 H2 h2.drop⟩
    · exact p1.elim
  | exc c q ρ2 =>
    rw [mbind_exc hf] at p1
    exact p1
  | stuck =>
    rw [mbind_stuck hf] at p1
    exact p1
/-! ### and, or, not -/
def sW (X : Cx) (e : Expr) : TT := fun σ H Q => ∀ (whole : Sem Value) (pins : List (Addr × Obj)) (s : Shared), Inv X pins σ H s → wpAny (model X.prog X.w) X.A (isTrue e X.env whole) (TP X pins σ Q) X.xe s
theorem pw_sem : PW X e (sW X e) := ⟨fun wh pins s _ _ _ I h => h wh pins s I⟩
theorem sW_of {tt : TT} (p : PW X e tt) {σ : L2.St} {H : Hp} {Q : Bool → Hp → Prop} (h : tt σ H Q) : sW X e σ H Q := fun wh pins s I => p.run wh pins s σ H Q I h
def TW (G : Gx) (N : Pn) (X : Cx) (W : WX) (e : Expr) (f : M Bool) : Prop := ∀ (σ : L2.St) (ρ : List S) (st : Stk) (H : Hp) (Q : Bool → Hp → Prop), Hs G N H σ ρ st →
  pst G N W σ st (fun b ρ' => ∀ H', Hs G N H' σ ρ' st → Q b H') (f ρ) → sW X e σ H Q
theorem TW.tx (h : TW G N X W e t) : TX G N X W e t := fun σ ρ st H Q hs p => sT_of pw_sem.pt (h σ ρ st H Q hs p)
def mAnd (t u : M Bool) : M Bool := mbind t fun b => if b then u else mpure false
def mOr (t u : M Bool) : M Bool := mbind t fun b => if b then mpure true else u
def mNot (t : M Bool) : M Bool := mbind t fun b => mpure (!b)
theorem tw_and1 (ha : TX G N X W a t) : TW G N X W (.BoolOp .And [a] pos) t := fun σ ρ st H Q h p => sW_of (pw_and1 pt_sem) (ha σ ρ st H Q h p)
theorem tw_or1 (ha : TX G N X W a t) : TW G N X W (.BoolOp .Or [a] pos) t := fun σ ρ st H Q h p => sW_of (pw_or1 pt_sem) (ha σ ρ st H Q h p)
theorem tw_and (ha : TX G N X W a t) (hb : TW G N X W (.BoolOp .And (b :: rest) pos) u) : TW G N X W (.BoolOp .And (a :: b :: rest) pos) (mAnd t u) := fun σ ρ st H Q h p =>
  sW_of (pw_and pt_sem pw_sem) (ha.bind h p fun k ρ1 H1 h1 p1 => by
    cases k with
    | true => exact iteT (hb σ ρ1 st H1 Q h1 p1)
    | false => exact iteF (p1 H1 h1))
theorem tw_or (ha : TX G N X W a t) (hb : TW G N X W (.BoolOp .Or (b :: rest) pos) u) : TW G N X W (.BoolOp .Or (a :: b :: rest) pos) (mOr t u) := fun σ ρ st H Q h p =>
  sW_of (pw_or pt_sem pw_sem) (ha.bind h p fun k ρ1 H1 h1 p1 => by
    cases k with
    | true => exact iteT (p1 H1 h1)
    | false => exact iteF (hb σ ρ1 st H1 Q h1 p1))
theorem tx_not (ha : TX G N X W a t) : TX G N X W (.UnaryOp .Not a pos) (mNot t) := fun σ ρ st H Q h p =>
  sT_of (pt_not pt_sem) (ha.bind h p fun k ρ1 H1 h1 p1 => p1 H1 h1)
def mAndV (f g : M S) : M S := mbind f fun s => match s with
  | .d (.bl b) => if b then g else mpure (.d (.bl false))
  | _ => mstuck
def mOrV (f g : M S) : M S := mbind f fun s => match s with
  | .d (.bl b) => if b then mpure (.d (.bl true)) else g
  | _ => mstuck
def mNotV (f : M S) : M S := mbind f fun s => match s with
  | .d (.bl b) => mpure (.d (.bl (!b)))
  | _ => mstuck
theorem ex_one {op} (ha : EX G N X W a f) : EX G N X W (.BoolOp op [a] pos) f := fun σ ρ st H Q h p => sE_of (pe_one pe_sem) (ha σ ρ st H Q h p)
theorem ex_and (ha : EX G N X W a fa) (hb : EX G N X W (.BoolOp .And (b :: rest) pos) fb) : EX G N X W (.BoolOp .And (a :: b :: rest) pos) (mAndV fa fb) := fun σ ρ st H Q h p =>
  sE_of (pe_and pe_sem pe_sem) (ha.bind h p fun s ρ1 v H1 h1 p1 => by
    split at p1
    · rename_i k
      refine ⟨k, h1.bl, ?_⟩
      cases k with
      | true => exact iteT (hb σ ρ1 st H1 Q h1.drop p1)
      | false => exact iteF (p1 (.bl false) H1 (by have := h1.bl; subst this; exact h1))
    · exact p1.elim)
theorem ex_or (ha : EX G N X W a fa) (hb : EX G N X W (.BoolOp .Or (b :: rest) pos) fb) : EX G N X W (.BoolOp .Or (a :: b :: rest) pos) (mOrV fa fb) := fun σ ρ st H Q h p =>
  sE_of (pe_or pe_sem pe_sem) (ha.bind h p fun s ρ1 v H1 h1 p1 => by
    split at p1
    · rename_i k
      refine ⟨k, h1.bl, ?_⟩
      cases k with
      | true => exact iteT (p1 (.bl true) H1 (by have := h1.bl; subst this; exact h1))
      | false => exact iteF (hb σ ρ1 st H1 Q h1.drop p1)
    · exact p1.elim)
/-- a if t else b -/
def mIf {α : Type} (t : M Bool) (f g : M α) : M α := mbind t fun b => if b then f else g
theorem ex_if (hc : TX G N X W c t) (ha : EX G N X W a fa) (hb : EX G N X W b fb) : EX G N X W (.IfExp c a b pos) (mIf t fa fb) := fun σ ρ st H Q h p =>
  sE_of (pe_ifExp pt_sem pe_sem pe_sem) (hc.bind h p fun k ρ1 H1 h1 p1 => by
    cases k with
    | true => exact iteT (ha σ ρ1 st H1 Q h1 p1)
    | false => exact iteF (hb σ ρ1 st H1 Q h1 p1))
/-! ### chains of comparisons of ints -/
def mChain (p q : Int → Int → Bool) (fa fb fc : M S) : M S := mbind fa fun x => mbind fb fun y => match x, y with
  | .d (.int i), .d (.int j) => if p i j then mbind fc fun z => match z with
      | .d (.int k) => mpure (.d (.bl (q j k)))
      | _ => mstuck
    else mpure (.d (.bl false))
  | _, _ => mstuck
def CmpI (X : Cx) (op : CmpOp) (p : Int → Int → Bool) : Prop := OpR X (compareOp op) (rI0 fun i j => .bl (p i j))
theorem ci_lt : CmpI X .Lt (fun i j => decide (i < j)) := op_lt
theorem ci_le : CmpI X .LtE (fun i j => decide (i ≤ j)) := op_le
theorem Hs.new (h : Hs G N H σ ρ st) {v : V} {x : D} (hx : ∀ F : Hp, RD G F x v) : Hs G N H σ ρ ((some v, .d x) :: st) := by
  obtain ⟨F, fp, sb, r, n⟩ := h.ex
  exact ⟨h.len, ⟨F, fp, sb, ⟨[], fp, rfl, ⟨rfl, v, rfl, hx F⟩, r⟩, n⟩, h.tb, h.pin⟩
theorem chain_core {op op' : CmpOp} {p q : Int → Int → Bool} (ha : EX G N X W a fa) (hb : EX G N X W b fb) (hc : EX G N X W c fc) (h : Hs G N H σ ρ st) {Q : VK}
    (pp : pst G N W σ st (fun s ρ' => ∀ v H', Hs G N H' σ ρ' ((some v, s) :: st) → Q v H') (mChain p q fa fb fc ρ)) : tChain (rI0 fun i j => .bl (p i j)) (rI0 fun i j => .bl (q i j)) (sE X a) (sE X b) (sE X c) σ H Q := by
  refine ha.bind h pp fun x ρ1 v H1 h1 p1 => ?_
  refine hb.bind h1 (p1.deep fun _ _ q => q) fun y ρ2 w H2 h2 p2 => ?_
  split at p2
  · rename_i i j
    have e2 := h2.int
    have e1 := h2.drop.int
    subst e1 e2
    refine ⟨i, j, rfl, rfl, _, rfl, ?_⟩
    by_cases hp : p i j = true
    · rw [if_pos hp]
      rw [if_pos hp] at p2
      refine hc.bind h2 (p2.deep fun _ _ q => q) fun z ρ3 w3 H3 h3 p3 => ?_
      split at p3
      · have e3 := h3.int
        subst e3
        exact ⟨_, _, rfl, rfl, p3 _ H3 (h3.drop.drop.drop.new fun _ => rfl)⟩
      · exact p3.elim
    · rw [if_neg hp]
      rw [if_neg hp] at p2
      exact p2 _ H2 (h2.drop.drop.new fun _ => rfl)
  · exact p2.elim
theorem tx_chain {op op' : CmpOp} {p q : Int → Int → Bool} (ho : CmpI X op p) (ho' : CmpI X op' q) (ha : EX G N X W a fa) (hb : EX G N X W b fb) (hc : EX G N X W c fc) (hm : lastMarks [op, op'] [b, c] = false := by with_unfolding_all rfl) :
    TX G N X W (.Compare a [op, op'] [b, c] pos) (mT (mChain p q fa fb fc)) := fun σ ρ st H Q h pp => sT_of (pt_chain ho ho' pe_sem pe_sem pe_sem hm) (chain_core (op := op) (op' := op') ha hb hc h (by
  unfold mT at pp
  cases hf : mChain p q fa fb fc ρ with
  | ok s ρ2 =>
    rw [mbind_ok hf] at pp
    intro v H2 h2
    split at pp
    · exact ⟨_, h2.bl, pp H2 h2.drop⟩
    · exact pp.elim
  | exc c q ρ2 =>
    rw [mbind_exc hf] at pp
    exact pp
  | stuck =>
    rw [mbind_stuck hf] at pp
    exact pp))
/-! ### methods -/
def clsS : S → Option Nat
  | .o c _ => some c
  | .fo c _ => some c
  | .d (.obj c _) => some c
  | _ => none
def clsA (ρ : List S) : List AV → Option Nat
  | [.s x] => clsS x
  | [.n i] => (ρ[i]?).bind clsS
  | _ => none
/-- o.m(..) of an instance of the c-th class -/
def mMeth (c : Nat) (g : List S → ORes) (a : Arg) (as : List Arg) : M S := mbind (mArgs [a]) fun av ρ => if clsA ρ av = some c then mbind (mArgs as) (fun avs => mFin g (av ++ avs)) ρ else .stuck
/-- an owned or settled instance stands -/
theorem Hs.ins {o : Option V} {s : S} {c : Nat} (h : Hs G N H σ ρ ((o, s) :: st)) (e : clsS s = some c) : ∃ a dx vs, o = some (.ref a) ∧ Rd H a (.ins (G.cl c) dx ((G.fn c).zip vs)) := by
  obtain ⟨F, fp, sb, ⟨a, b, ef, q, r⟩, n⟩ := h.ex
  cases s with
  | gone => cases e
  | l xs => cases e
  | ls xs => cases e
  | m ks vs => cases e
  | o c' fs =>
    cases e
    obtain ⟨a, dx, vs, r', e1, _, e3, _⟩ := q
    exact ⟨a, dx, vs, e1, .inl e3⟩
  | w ks vs => cases e
  | n ks => cases e
  | fo c' fs =>
    cases e
    obtain ⟨a, ob, dx, vs, r', e1, _, e3, _⟩ := q
    exact ⟨a, dx, vs, e1, .inr ⟨ob, e3⟩⟩
  | d x =>
    cases x with
    | obj c' xs =>
      cases e
      obtain ⟨_, v, ev, a, dx, vs, e1, e2, _⟩ := q
      refine ⟨a, dx, vs, by rw [ev, e1], .inl ?_⟩
      rcases (sb _ _ e2).2 with z | ⟨z | z, _⟩
      · exact z
      · obtain ⟨_, z⟩ := z
        cases z
      · obtain ⟨_, z⟩ := z
        cases z
    | _ => cases e
theorem recv {av : List AV} {v : V} {c : Nat} (r : AVR σ av [v]) (h : Hs G N H σ ρ (stkA av [v] ++ st)) (e : clsA ρ av = some c) : ∃ a dx vs, v = .ref a ∧ Rd H a (.ins (G.cl c) dx ((G.fn c).zip vs)) := by
  match av, r, h, e with
  | [.s x], _, h, e =>
    obtain ⟨a, dx, vs, e1, e2⟩ := Hs.ins (st := st) h e
    cases e1
    exact ⟨a, dx, vs, rfl, e2⟩
  | [.n i], r, h, e =>
    obtain ⟨_, _, q, es, _⟩ := r
    cases q
    have e' : (ρ[i]?).bind clsS = some c := e
    cases ei : ρ[i]? with
    | none => rw [ei] at e'; cases e'
    | some s =>
      rw [ei] at e'
      obtain ⟨a, dx, vs, e1, e2⟩ := Hs.ins (h.pull ei es) e'
      cases e1
      exact ⟨a, dx, vs, rfl, e2⟩
theorem AVR.app : ∀ {av bv : List AV} {vs ws : List V}, AVR σ av vs → AVR σ bv ws → AVR σ (av ++ bv) (vs ++ ws)
  | [], bv, vs, ws, h, k => by
    have e : vs = [] := h
    subst e
    exact k
  | .s x :: av, bv, _, ws, ⟨v, r, e, h⟩, k => by
    subst e
    exact ⟨v, r ++ ws, rfl, h.app k⟩
  | .n i :: av, bv, _, ws, ⟨v, r, e, es, h⟩, k => by
    subst e
    exact ⟨v, r ++ ws, rfl, es, h.app k⟩
theorem stkA_app : ∀ {av bv : List AV} {vs ws : List V}, AVR σ av vs → stkA (av ++ bv) (vs ++ ws) = stkA av vs ++ stkA bv ws
  | [], bv, vs, ws, h => by
    have e : vs = [] := h
    subst e
    rfl
  | .s x :: av, bv, _, ws, ⟨v, r, e, h⟩ => by
    subst e
    show _ :: stkA (av ++ bv) (r ++ ws) = _ :: (stkA av r ++ stkA bv ws)
    rw [stkA_app h]
  | .n i :: av, bv, _, ws, ⟨v, r, e, es, h⟩ => by
    subst e
    show stkA (av ++ bv) (r ++ ws) = stkA av r ++ stkA bv ws
    rw [stkA_app h]
structure CalM (P : Program) (w : World) (K : PySem.W.Frag) (mg : Str → Option Value) (base : Heap) (G : Gx) (k : Nat) (m : Str) (c : Nat) (op : List S → ORes) : Prop where
  ex : ∃ f fd ps, FnOk P w K mg base (L2.CX P w) k f fd ps (spD G op) ∧ Meth K (G.cl c) m f ∧ Cls K (G.cl c) ∧ Binds K fd ps []
  no : ∀ vs : List V, ((G.fn c).zip vs).lookup m = none
theorem ex_meth {k c : Nat} {m : Str} {o : Expr} {ao : Arg} {apos : Pos} {g : List S → ORes} {pl : Sem Bool} (F : CalM X.prog X.w X.K X.mg X.base G k m c g) (hr : Room k X.A) (tk : Takes X W) (ho : AX G N X W [o] [ao]) (ha : AX G N X W (e :: es) as) (hp : PA X (e :: es) (sAs X (e :: es)))
    (hst : starEach (e :: es) X.env = (false, eval e X.env) :: starEach es X.env := by rfl) (hpl : (backTo pos (starEach es X.env)).any (·.1) = false := by rfl)
    (ht : eval (.Call (.Attribute o m apos) (e :: es) [] pos) X.env = (do
      let ov ← eval o X.env
      standAt apos.atName
      let (f, first) ← holding [ov] (getMethod ov m pl)
      callWith pos f first (backTo pos (starEach (e :: es) X.env)) (backToKw pos (keywordEach [] X.env))) := by rfl) :
    EX G N X W (.Call (.Attribute o m apos) (e :: es) [] pos) (mMeth c g ao as) := fun σ ρ st H Q h p => by
  obtain ⟨f, fd, ps, hf, hm, hc, hb⟩ := F.ex
  have key : sE X o σ H fun x H1 => ∃ a dx fs, x = .ref a ∧ Rd H1 a (.ins (G.cl c) dx fs) ∧ fs.lookup m = none ∧ sAs X (e :: es) σ H1 fun vs H2 => spD G g (x :: vs) H2 Q (WE W σ) := by
    have k1 : sAs X [o] σ H _ := ho.bind (R := fun vs H1 => ∀ x, vs = [x] → ∃ a dx fs, x = .ref a ∧ Rd H1 a (.ins (G.cl c) dx fs) ∧ fs.lookup m = none ∧ sAs X (e :: es) σ H1 fun vs H2 => spD G g (x :: vs) H2 Q (WE W σ)) h p (fun av ρ1 vs1 H1 r1 h1 p1 x ex => by
      subst ex
      by_cases hcl : clsA ρ1 av = some c
      · rw [if_pos hcl] at p1
        obtain ⟨a, dx, ws, rfl, e2⟩ := recv r1 h1 hcl
        refine ⟨a, dx, _, rfl, e2, F.no ws, ?_⟩
        refine AX.bind (st0 := st) ha h1 p1 (fun avs ρ2 vs H2 r2 h2 p2 => ?_) fun _ _ q => q.drops
        have r3 := AVR.app r1 r2
        refine fin_ok (avs := av ++ avs) (vs := .ref a :: vs) r3 (by
          have e3 : stkA (av ++ avs) (V.ref a :: vs) = stkA av [V.ref a] ++ stkA avs vs := stkA_app (vs := [V.ref a]) (ws := vs) r1
          rw [e3]
          refine h2.perm ?_
          rw [← List.append_assoc]
          exact List.perm_append_comm.append_right st) p2 ops_own
      · rw [if_neg hcl] at p1
        exact p1.elim
    )
    exact sE.mono k1 fun v H' q => q v rfl
  intro pins s I
  refine PySem.W.methodCall_KW (pl := pl) (thn (key pins s I) fun u s1 ⟨x, H1, I1, rx, a, dx, fs, ex, ea, l, q⟩ => ?_) ht
  subst ex
  obtain rfl : u = Value.ref a := rx
  refine getmethR I1 ea hc hm l ?_
  refine PySem.W.callWith_K (first := [.ref a]) (h₀ := X.base) I.ok.mod.kin hm.kp (thn (hp.run pos pins s1 σ H1 _ I1 q) fun us s2 ⟨vs, H2, I2, r, q2⟩ => ⟨I2.kIn, ?_⟩) hst hpl
  exact run_fnSD (us := .ref a :: us) (vs := .ref a :: vs) (E := WE W) hf hr hb .nil (passAt tk σ) I2 (.cons rfl r) (by rw [List.append_nil]; exact q2)
theorem ex_meth0 {k c : Nat} {m : Str} {o : Expr} {ao : Arg} {apos : Pos} {g : List S → ORes} {pl : Sem Bool} (F : CalM X.prog X.w X.K X.mg X.base G k m c g) (hr : Room k X.A) (tk : Takes X W) (ho : AX G N X W [o] [ao])
    (ht : eval (.Call (.Attribute o m apos) [] [] pos) X.env = (do
      let ov ← eval o X.env
      standAt apos.atName
      let (f, first) ← holding [ov] (getMethod ov m pl)
      callWith pos f first (backTo pos (starEach [] X.env)) (backToKw pos (keywordEach [] X.env))) := by rfl) :
    EX G N X W (.Call (.Attribute o m apos) [] [] pos) (mMeth c g ao []) := fun σ ρ st H Q h p => by
  obtain ⟨f, fd, ps, hf, hm, hc, hb⟩ := F.ex
  have key : sE X o σ H fun x H1 => ∃ a dx fs, x = .ref a ∧ Rd H1 a (.ins (G.cl c) dx fs) ∧ fs.lookup m = none ∧ spD G g [x] H1 Q (WE W σ) := by
    have k1 : sAs X [o] σ H _ := ho.bind (R := fun vs H1 => ∀ x, vs = [x] → ∃ a dx fs, x = .ref a ∧ Rd H1 a (.ins (G.cl c) dx fs) ∧ fs.lookup m = none ∧ spD G g [x] H1 Q (WE W σ)) h p (fun av ρ1 vs1 H1 r1 h1 p1 x ex => by
      subst ex
      by_cases hcl : clsA ρ1 av = some c
      · rw [if_pos hcl] at p1
        obtain ⟨a, dx, ws, rfl, e2⟩ := recv r1 h1 hcl
        refine ⟨a, dx, _, rfl, e2, F.no ws, ?_⟩
        have p2 : pst G N W σ st (fun s ρ' => ∀ v H', Hs G N H' σ ρ' ((some v, s) :: st) → Q v H') (mFin g av ρ1) := by
          have e4 : mbind (mArgs []) (fun avs => mFin g (av ++ avs)) ρ1 = mFin g (av ++ []) ρ1 := rfl
          rw [e4, List.append_nil] at p1
          exact p1
        exact fin_ok r1 h1 p2 ops_own
      · rw [if_neg hcl] at p1
        exact p1.elim
    )
    exact sE.mono k1 fun v H' q => q v rfl
  intro pins s I
  refine PySem.W.methodCall_KW (pl := pl) (thn (key pins s I) fun u s1 ⟨x, H1, I1, rx, a, dx, fs, ex, ea, l, q⟩ => ?_) ht
  subst ex
  obtain rfl : u = Value.ref a := rx
  refine getmethR I1 ea hc hm l ?_
  exact PySem.W.callWith_K0 (first := [.ref a]) I1.kIn hm.kp (run_fnSD (us := [.ref a]) (vs := [.ref a]) (E := WE W) hf hr hb .nil (passAt tk σ) I1 (.cons rfl .nil) (by rw [List.append_nil]; exact q))
end
end DL
/-! the data layer: statements -/
namespace DL
open PySem PySem.Spec PyProof.Rows L2
inductive Fl where
  | nx (ρ : List S) | rt (s : S) (ρ : List S) | bk (ρ : List S) | ct (ρ : List S) | exc (c : Nat) (p : D) (ρ : List S) | stuck
abbrev B := List S → Fl
def fps (G : Gx) (N : Pn) (W : WX) (st : Stk) (D : Ends) (r : Fl) : Prop := match r with
  | .nx ρ => ∀ σ' H', Hs G N H' σ' ρ st → D.nx σ' H'
  | .rt s ρ => ∀ v σ' H', Hs G N H' σ' ρ ((some v, s) :: st) → D.rt v H'
  | .bk ρ => ∀ σ' H', Hs G N H' σ' ρ st → D.bk σ' H'
  | .ct ρ => ∀ σ' H', Hs G N H' σ' ρ st → D.ct σ' H'
  | .exc c p ρ => ∀ cls d σ' H', ExR G H' c p cls d → Hs G N H' σ' ρ st → W cls d σ' H'
  | .stuck => False
def sS (X : Cx) (s : Stmt) : TS := fun D σ H => ∀ (pins : List (Addr × Obj)) (sh : Shared), Inv X pins σ H sh → wpAny (model X.prog X.w) X.A (exec s X.env) (SP X pins D) X.xe sh
def sB (X : Cx) (s : List Stmt) : TS := fun D σ H => ∀ (pins : List (Addr × Obj)) (sh : Shared), Inv X pins σ H sh → wpAny (model X.prog X.w) X.A (execs s X.env) (SP X pins D) X.xe sh
theorem ps_sem {X : Cx} {s : Stmt} : PS X s (sS X s) := ⟨fun pins sh _ _ _ I h => h pins sh I⟩
theorem pss_sem {X : Cx} {s : List Stmt} : PSs X s (sB X s) := ⟨fun pins sh _ _ _ I h => h pins sh I⟩
theorem sS_of {X : Cx} {s : Stmt} {t : TS} (p : PS X s t) {D : Ends} {σ : L2.St} {H : Hp} (h : t D σ H) : sS X s D σ H := fun pins sh I => p.run pins sh σ H D I h
theorem sB_of {X : Cx} {s : List Stmt} {t : TS} (p : PSs X s t) {D : Ends} {σ : L2.St} {H : Hp} (h : t D σ H) : sB X s D σ H := fun pins sh I => p.run pins sh σ H D I h
def SX (G : Gx) (N : Pn) (X : Cx) (W : WX) (s : Stmt) (g : B) : Prop := ∀ (σ : L2.St) (ρ : List S) (st : Stk) (H : Hp) (D : Ends), Hs G N H σ ρ st → fps G N W st D (g ρ) → sS X s D σ H
def BX (G : Gx) (N : Pn) (X : Cx) (W : WX) (s : List Stmt) (g : B) : Prop := ∀ (σ : L2.St) (ρ : List S) (st : Stk) (H : Hp) (D : Ends), Hs G N H σ ρ st → fps G N W st D (g ρ) → sB X s D σ H
def bnx : B := fun ρ => .nx ρ
def bseq (g h : B) : B := fun ρ => match g ρ with
  | .nx ρ' => h ρ'
  | r => r
/-- an expression, then what is done with its value -/
def bdo {α : Type} (f : M α) (k : α → B) : B := fun ρ => match f ρ with
  | .ok a ρ' => k a ρ'
  | .exc c p ρ' => .exc c p ρ'
  | .stuck => .stuck
theorem bdo_ok {α : Type} {f : M α} {k : α → B} {ρ ρ' : List S} {a : α} (e : f ρ = .ok a ρ') : bdo f k ρ = k a ρ' := by unfold bdo; rw [e]
theorem bdo_exc {α : Type} {f : M α} {k : α → B} {ρ ρ' : List S} {c : Nat} {p : D} (e : f ρ = .exc c p ρ') : bdo f k ρ = .exc c p ρ' := by unfold bdo; rw [e]
theorem bdo_stuck {α : Type} {f : M α} {k : α → B} {ρ : List S} (e : f ρ = .stuck) : bdo f k ρ = .stuck := by unfold bdo; rw [e]
section
variable {G : Gx} {N : Pn} {X : Cx} {W : WX} {H H' : Hp} {σ : L2.St} {ρ ρ' : List S} {st st' : Stk} {e a b c : Expr} {es rest : List Expr} {f fa fb fc : M S} {t u : M Bool} {as : List Arg} {pos : Pos} {s : Stmt} {ss : List Stmt} {g h : B} {En : Ends}
theorem bx_nil : BX G N X W [] bnx := fun σ ρ st H D h p => sB_of pss_nil (p σ H h)
theorem fps.mono {D D' : Ends} {r : Fl} (p : fps G N W st D r) (h1 : ∀ σ H, D.nx σ H → D'.nx σ H) (h2 : ∀ v H, D.rt v H → D'.rt v H) (h3 : ∀ σ H, D.bk σ H → D'.bk σ H) (h4 : ∀ σ H, D.ct σ H → D'.ct σ H) : fps G N W st D' r := by
  cases r with
  | nx ρ => exact fun σ H h => h1 _ _ (p σ H h)
  | rt s ρ => exact fun v σ H h => h2 _ _ (p v σ H h)
  | bk ρ => exact fun σ H h => h3 _ _ (p σ H h)
  | ct ρ => exact fun σ H h => h4 _ _ (p σ H h)
  | exc c q ρ => exact p
  | stuck => exact p
theorem bx_cons (h1 : SX G N X W s g) (h2 : BX G N X W ss h) : BX G N X W (s :: ss) (bseq g h) := fun σ ρ st H D hs p => by
  refine sB_of (pss_cons ps_sem pss_sem) ?_
  refine h1 σ ρ st H _ hs ?_
  unfold bseq at p
  cases hg : g ρ with
  | nx ρ1 =>
    rw [hg] at p
    exact fun σ1 H1 hs1 => h2 σ1 ρ1 st H1 D hs1 p
  | rt s ρ1 => rw [hg] at p; exact p
  | bk ρ1 => rw [hg] at p; exact p
  | ct ρ1 => rw [hg] at p; exact p
  | exc c q ρ1 => rw [hg] at p; exact p
  | stuck => rw [hg] at p; exact p
theorem bx_one (h1 : SX G N X W s g) : BX G N X W [s] g := fun σ ρ st H D hs p => sB_of (pss_one ps_sem) (h1 σ ρ st H D hs p)
/-- an expression in a statement -/
theorem EX.bdo {k : S → B} {R : VK} (ha : EX G N X W e f) (h : Hs G N H σ ρ st) (p : fps G N W st En (bdo f k ρ)) (q : ∀ s ρ1 v H1, Hs G N H1 σ ρ1 ((some v, s) :: st) → fps G N W st En (k s ρ1) → R v H1) : sE X e σ H R := by
  refine ha σ ρ st H _ h ?_
  cases hf : f ρ with
  | ok s ρ1 =>
    rw [bdo_ok hf] at p
    exact fun v H1 h1 => q s ρ1 v H1 h1 p
  | exc c x ρ1 =>
    rw [bdo_exc hf] at p
    exact fun cls d H' y h' => p cls d σ H' y h'
  | stuck =>
    rw [bdo_stuck hf] at p
    exact p
theorem TX.bdo {k : Bool → B} {R : Bool → Hp → Prop} (ha : TX G N X W e t) (h : Hs G N H σ ρ st) (p : fps G N W st En (bdo t k ρ)) (q : ∀ b ρ1 H1, Hs G N H1 σ ρ1 st → fps G N W st En (k b ρ1) → R b H1) : sT X e σ H R := by
  refine ha σ ρ st H _ h ?_
  cases hf : t ρ with
  | ok s ρ1 =>
    rw [bdo_ok hf] at p
    exact fun H1 h1 => q s ρ1 H1 h1 p
  | exc c x ρ1 =>
    rw [bdo_exc hf] at p
    exact fun cls d H' y h' => p cls d σ H' y h'
  | stuck =>
    rw [bdo_stuck hf] at p
    exact p
theorem AX.bdo {k : List AV → B} {R : List V → Hp → Prop} (ha : AX G N X W es as) (h : Hs G N H σ ρ st) (p : fps G N W st En (bdo (mArgs as) k ρ)) (q : ∀ avs ρ1 vs H1, AVR σ avs vs → Hs G N H1 σ ρ1 (stkA avs vs ++ st) → fps G N W st En (k avs ρ1) → R vs H1) : sAs X es σ H R := by
  refine ha σ ρ st H _ h ?_
  cases hf : mArgs as ρ with
  | ok s ρ1 =>
    rw [bdo_ok hf] at p
    exact fun v H1 r1 h1 => q s ρ1 v H1 r1 h1 p
  | exc c x ρ1 =>
    rw [bdo_exc hf] at p
    exact fun cls d H' y h' => p cls d σ H' y h'
  | stuck =>
    rw [bdo_stuck hf] at p
    exact p
/-! ### x = e -/
def bset (i : Nat) : S → B := fun s ρ => if i < ρ.length then .nx (ρ.set i s) else .stuck
def bAsg (i : Nat) (f : M S) : B := bdo f (bset i)
theorem sx_set (i : Nat) {x : Str} {p' : Pos} (he : EX G N X W e f) (hj : i ∉ N.J) (hN : X.N.Nodup) (hi : X.N[i]? = some x := by rfl) (hx : Loc X.env.scope x := by first | exact .inl rfl | exact .inr rfl) (hs : swapsWith e (some (.Name x p')) pos.line X.env = pure false := by rfl)
    (hf : X.fn x = true ∨ X.env.scope.names.lookup x = some .local := by first | exact .inl rfl | exact .inr rfl) : SX G N X W (.Assign [.Name x p'] e pos) (bAsg i f) := fun σ ρ st H D h p =>
  sS_of (ps_set hN hi hx pe_sem hs hf) (he.bdo h p fun s ρ1 v H1 h1 p1 => by
    unfold bset at p1
    split at p1
    · rename_i hl
      exact p1 _ H1 (h1.assign hl hj)
    · exact p1.elim)
/-! ### return, an expression alone -/
def bRet (f : M S) : B := bdo f fun s ρ => .rt s ρ
theorem sx_ret (he : EX G N X W e f) : SX G N X W (.Return (some e) pos) (bRet f) := fun σ ρ st H D h p =>
  sS_of (ps_ret pe_sem) (he.bdo h p fun s ρ1 v H1 h1 p1 => p1 v σ H1 h1)
def bExp (f : M S) : B := bdo f fun _ ρ => .nx ρ
theorem sx_exp (he : EX G N X W e f) (hs : swapsWith e none pos.line X.env = pure false := by rfl) : SX G N X W (.Expr e pos) (bExp f) := fun σ ρ st H D h p =>
  sS_of (ps_expr pe_sem hs) (he.bdo h p fun s ρ1 v H1 h1 p1 => p1 σ H1 h1.drop)
/-! ### if -/
def bIf (t : M Bool) (g h : B) : B := bdo t fun b => if b then g else h
theorem sx_if {p q : List Stmt} (hc : TX G N X W c t) (ha : BX G N X W p g) (hb : BX G N X W q h) : SX G N X W (.If c p q pos) (bIf t g h) := fun σ ρ st H D hs p =>
  sS_of (ps_if pt_sem pss_sem pss_sem) (hc.bdo hs p fun k ρ1 H1 h1 p1 => by
    cases k with
    | true => exact iteT (ha σ ρ1 st H1 D h1 p1)
    | false => exact iteF (hb σ ρ1 st H1 D h1 p1))
/-! ### targets -/
inductive Tg where
  | n (i : Nat) | t (ts : List Tg)
mutual
def asgT : Tg → S → List S → Option (List S)
  | .n i, s, ρ => if i < ρ.length then some (ρ.set i s) else none
  | .t ts, .d (.tup xs), ρ => asgTs ts xs ρ
  | .t _, _, _ => none
def asgTs : List Tg → List D → List S → Option (List S)
  | [], [], ρ => some ρ
  | t :: ts, x :: xs, ρ => (asgT t (.d x) ρ).bind (asgTs ts xs)
  | _, _, _ => none
end
def sG (X : Cx) (tg : Expr) : TG := fun v σ H Q => ∀ (pins : List (Addr × Obj)) (s : Shared) (u : Value), Inv X pins σ H s → RelV v u → wpAny (model X.prog X.w) X.A (assign tg X.env u) (fun _ s' => ∃ σ' H', Inv X pins σ' H' s' ∧ Q σ' H') X.xe s
def sGs (X : Cx) (ts : List Expr) : TGs := fun vs σ H Q => ∀ (pins : List (Addr × Obj)) (s : Shared) (us : List Value), Inv X pins σ H s → Vals vs us → wpAny (model X.prog X.w) X.A (assignInOrder ((assignEach ts X.env).map (·.2)) us) (fun _ s' => ∃ σ' H', Inv X pins σ' H' s' ∧ Q σ' H') X.xe s
theorem pg_sem {tg : Expr} : PG X tg (sG X tg) := ⟨fun pins s _ _ _ u _ I r h => h pins s u I r⟩
theorem pgs_sem {ts : List Expr} : PGs X ts (sGs X ts) := ⟨fun pins s _ _ _ us _ I r h => h pins s us I r⟩
theorem sG_of {tg : Expr} {t : TG} (p : PG X tg t) {v : V} {Q : L2.St → Hp → Prop} (h : t v σ H Q) : sG X tg v σ H Q := fun pins s u I r => p.run pins s σ H v u Q I r h
theorem sGs_of {ts : List Expr} {t : TGs} (p : PGs X ts t) {vs : List V} {Q : L2.St → Hp → Prop} (h : t vs σ H Q) : sGs X ts vs σ H Q := fun pins s us I r => p.run pins s σ H vs us Q I r h
/-- σ' may differ from σ at the slots of L alone -/
def GX (G : Gx) (N : Pn) (X : Cx) (tg : Expr) (t : Tg) : Prop := ∀ (σ : L2.St) (ρ ρ' : List S) (st : Stk) (H : Hp) (v : V) (s : S) (Q : L2.St → Hp → Prop), Hs G N H σ ρ ((some v, s) :: st) → asgT t s ρ = some ρ' → (∀ σ' H', Hs G N H' σ' ρ' st → Q σ' H') → sG X tg v σ H Q
def GsX (G : Gx) (N : Pn) (X : Cx) (ts : List Expr) (t : List Tg) : Prop := ∀ (σ : L2.St) (ρ ρ' : List S) (st : Stk) (H : Hp) (vs : List V) (xs : List D) (Q : L2.St → Hp → Prop), vs.length = xs.length → Hs G N H σ ρ (zs vs (xs.map .d) ++ st) → asgTs t xs ρ = some ρ' → (∀ σ' H', Hs G N H' σ' ρ' st → Q σ' H') → sGs X ts vs σ H Q
theorem gx_name (i : Nat) {x : Str} (hj : i ∉ N.J) (hN : X.N.Nodup) (hi : X.N[i]? = some x := by rfl) (hx : Loc X.env.scope x := by first | exact .inl rfl | exact .inr rfl) (hf : X.fn x = true ∨ X.env.scope.names.lookup x = some .local := by first | exact .inl rfl | exact .inr rfl) : GX G N X (.Name x pos) (.n i) := fun σ ρ ρ' st H v s Q h e k => by
  unfold asgT at e
  split at e
  · rename_i hl
    cases e
    exact sG_of (pg_name hN hi hx hf) (k _ H (h.assign hl hj))
  · cases e
theorem gsx_nil : GsX G N X [] [] := fun σ ρ ρ' st H vs xs Q l h e k => by
  cases xs with
  | nil =>
    have e1 : vs = [] := List.length_eq_zero_iff.mp l
    subst e1
    simp only [asgTs, Option.some.injEq] at e
    subst e
    exact sGs_of pgs_nil ⟨rfl, k σ H h⟩
  | cons x xs => simp [asgTs] at e
theorem gsx_cons {tg : Expr} {tgs : List Expr} {t : Tg} {ts : List Tg} (h1 : GX G N X tg t) (h2 : GsX G N X tgs ts) (hs : (assignEach (tg :: tgs) X.env).map (·.2) = assign tg X.env :: (assignEach tgs X.env).map (·.2) := by rfl) : GsX G N X (tg :: tgs) (t :: ts) := fun σ ρ ρ' st H vs xs Q l h e k => by
  cases xs with
  | nil => simp [asgTs] at e
  | cons x xs =>
    cases vs with
    | nil => simp at l
    | cons v vs =>
      simp only [asgTs, Option.bind_eq_some_iff] at e
      obtain ⟨ρ1, e1, e2⟩ := e
      refine sGs_of (pgs_cons pg_sem pgs_sem hs) ⟨v, vs, rfl, ?_⟩
      exact h1 σ ρ ρ1 (zs vs (xs.map .d) ++ st) H v (.d x) _ h e1 fun σ1 H1 k1 => h2 σ1 ρ1 ρ' st H1 vs xs Q (by simpa using l) k1 e2 k
theorem Hs.tup {v : V} {xs : List D} (h : Hs G N H σ ρ ((some v, .d (.tup xs)) :: st)) : ∃ a vs, v = .ref a ∧ SqT G.K H a vs ∧ vs.length = xs.length ∧ Hs G N H σ ρ (zs vs (xs.map .d) ++ st) := by
  obtain ⟨F, fp, sb, ⟨a, b, ef, ⟨ea, w, ew, a', vs, e1, q, r⟩, r2⟩, n⟩ := h.ex
  cases ew
  subst ea
  refine ⟨a', vs, e1, sqT_sub sb (SqT.of q), r.len, h.len, ⟨F, fp, sb, ?_, n⟩, h.tb, h.pin⟩
  rw [List.append_assoc]
  exact (RL.app _ _ _).mpr ⟨[], b, ef, (RL.ds r.len).mpr ⟨rfl, r⟩, r2⟩
theorem gx_tup {tgs : List Expr} {k : Nat} {ts : List Tg} {n : Nat} (hK : X.K = G.K) (hc : X.calm = true) (h : GsX G N X tgs ts) (hl : ts.length = n := by rfl) (hn : (assignEach tgs X.env).length = n := by rfl) (hst : (assignEach tgs X.env).findIdx? (·.1) = none := by rfl) : GX G N X (.Tuple tgs k pos) (.t ts) := fun σ ρ ρ' st H v s Q hs e q => by
  have no : ∀ {P : Prop}, (none : Option (List S)) = some ρ' → P := fun e => by cases e
  cases s with
  | d x =>
    cases x with
    | tup xs =>
      have e : asgTs ts xs ρ = some ρ' := e
      obtain ⟨a, vs, ev, sq, l, h1⟩ := hs.tup
      have lx : ∀ (ts : List Tg) (xs : List D) (ρ ρ' : List S), asgTs ts xs ρ = some ρ' → xs.length = ts.length := by
        intro ts
        induction ts with
        | nil =>
          intro xs ρ ρ' e
          cases xs with
          | nil => rfl
          | cons x xs => simp [asgTs] at e
        | cons t ts ih =>
          intro xs ρ ρ' e
          cases xs with
          | nil => simp [asgTs] at e
          | cons x xs =>
            simp only [asgTs, Option.bind_eq_some_iff] at e
            obtain ⟨ρ1, _, e2⟩ := e
            simp [ih xs _ _ e2]
      refine sG_of (pg_tup hc pgs_sem hn hst) ⟨a, vs, ev, by rw [hK]; exact sq, by rw [l, lx _ _ _ _ e, hl], ?_⟩
      exact h σ ρ ρ' st H vs xs Q l h1 e q
    | _ => exact no e
  | _ => exact no e
end
end DL
/-! the data layer: raise, loops -/
namespace DL
open PySem PySem.Spec PyProof.Rows L2
section
variable {G : Gx} {N : Pn} {X : Cx} {W : WX} {H H' : Hp} {σ : L2.St} {ρ ρ' : List S} {st st' : Stk} {e a b c : Expr} {es rest : List Expr} {f fa fb fc : M S} {t u : M Bool} {as : List Arg} {pos : Pos} {s : Stmt} {ss : List Stmt} {g h : B} {En : Ends}
/-! ### raise -/
structure CalX (K : PySem.W.Frag) (mg : Str → Option Value) (G : Gx) (x : Str) (c : Nat) : Prop where
  ex : PySem.W.excIn K (G.cl c) [.type "ValueError", .type "Exception", .type "BaseException", .type "object"] "ValueError.__new__" = true
  mg : mg x = some (.ref (G.cl c))
  kp : PySem.W.keepIn K (.ref (G.cl c)) = true
  sb : PySem.W.subIn K (.ref (G.cl c)) (.type "BaseException") = some true
  ty : PySem.W.typeIn K (.ref (G.cl c)) = some (.type "type")
theorem sx_raise {x m : Str} {k : Nat} {j : Nat} {p p2 : Pos} (F : CalX X.K X.mg G x k) (hc : X.calm = true) (tk : Takes X W) (hg : Gl X x := by rfl) (hdb : (x == ("__debug__" : Str)) = false := by decide) :
    SX G N X W (.Raise (some (.Call (.Name x p) [.Constant (.str m) j p2] [] pos)) none pos') (fun ρ => .exc k .non ρ) := fun σ ρ st H D h q =>
  sS_of (ps_raise hc tk (pmk_own PySem.F.excBase_ValueError F.ex F.mg F.kp (raises_own F.sb F.ty) hg hdb)) (q _ _ σ H ⟨rfl, rfl⟩ h)
theorem sx_raise1 {x : Str} {k : Nat} {p : Pos} (F : CalX X.K X.mg G x k) (hc : X.calm = true) (tk : Takes X W) (he : EX G N X W e f) (hg : Gl X x := by rfl) (hs : starEach [e] X.env = (false, eval e X.env) :: starEach [] X.env := by rfl) (hdb : (x == ("__debug__" : Str)) = false := by decide) :
    SX G N X W (.Raise (some (.Call (.Name x p) [e] [] pos)) none pos') (bdo f fun _ ρ => .exc k .non ρ) := fun σ ρ st H D h q =>
  sS_of (ps_raise hc tk (SkE.pmk_own1 PySem.F.excBase_ValueError F.ex F.mg F.kp (raises_own F.sb F.ty) hg pe_sem hs hdb)) (he.bdo h q fun s ρ1 v H1 h1 p1 => p1 _ _ σ H1 ⟨rfl, rfl⟩ h1.drop)
/-! ### what is walked -/
/-- the walk J, its source on the stack, gives these items -/
def IterOk (G : Gx) (LL : List (Addr × Obj × HO)) (J : It) (src : Stk) (items : List D) : Prop := ∃ (Gc : Hp → Prop) (Y : Nat → Hp → V → Hp → Prop), Walk J items.length Gc Y ∧
  (∀ (N : Pn) (σ : L2.St) (ρ : List S) (st : Stk) (H : Hp), N.L = LL → Hs G N H σ ρ (src ++ st) → Gc H) ∧
  (∀ (N : Pn) (σ : L2.St) (ρ : List S) (st : Stk) (i : Nat) (x : V) (H H' : Hp), N.L = LL → i < items.length → Hs G N H σ ρ (src ++ st) → Y i H x H' → ∃ d, items[i]? = some d ∧ Hs G N H' σ ρ ((some x, .d d) :: (src ++ st)))
/-- more is locked -/
def Pn.lk (N : Pn) (L0 : List (Addr × Obj × HO)) : Pn := ⟨N.J, N.s0, L0 ++ N.L⟩
theorem Hs.unlk {L0 : List (Addr × Obj × HO)} (h : Hs G (N.lk L0) H σ ρ st) : Hs G N H σ ρ st := ⟨h.len, h.ex, ⟨⟨h.tb.1.1, fun p hp => h.tb.1.2 p (List.mem_append_right _ hp)⟩, fun p hp => h.tb.2 p (List.mem_append_right _ hp)⟩, h.pin⟩
theorem fps.lk {L0 : List (Addr × Obj × HO)} {r : Fl} (p : fps G N W st En r) : fps G (N.lk L0) W st En r := by
  cases r with
  | nx ρ => exact fun σ H h => p σ H h.unlk
  | rt s ρ => exact fun v σ H h => p v σ H h.unlk
  | bk ρ => exact fun σ H h => p σ H h.unlk
  | ct ρ => exact fun σ H h => p σ H h.unlk
  | exc c q ρ => exact fun cls d σ H x h => p cls d σ H x h.unlk
  | stuck => exact p
/-- r: the reading of an iterable by the values that its parts have -/
def ItS (G : Gx) (r : List V → Hp → (It → Hp → Prop) → Prop) (io : List S → Option (List D)) : Prop := ∀ (N : Pn) (σ : L2.St) (ρ : List S) (st : Stk) (H : Hp) (vs : List V) (xs : List S) (items : List D) (R : It → Hp → Prop), vs.length = xs.length → Hs G N H σ ρ (zs vs xs ++ st) →
  io xs = some items → (∀ J H' L0, IterOk G (L0 ++ N.L) J (zs vs xs) items → Hs G (N.lk L0) H' σ ρ (zs vs xs ++ st) → R J H') → r vs H R
/-- for: the parts are held until the loop ends; what a part held is not laid back -/
def forL (t : Tg) (body : B) : List D → B
  | [], ρ => .nx ρ
  | x :: xs, ρ => match asgT t (.d x) ρ with
    | none => .stuck
    | some ρ1 => match body ρ1 with
      | .nx ρ2 => forL t body xs ρ2
      | .ct ρ2 => forL t body xs ρ2
      | .bk ρ2 => .nx ρ2
      | r => r
def bFor (as : List Arg) (io : List S → Option (List D)) (t : Tg) (body : B) : B := bdo (mArgs as) fun avs ρ => match grab ρ avs with
  | none => .stuck
  | some p => match io p.1 with
    | none => .stuck
    | some items => forL t body items p.2
theorem fps.drops {A : Stk} {r : Fl} (p : fps G N W st En r) : fps G N W (A ++ st) En r := by
  cases r with
  | nx ρ => exact fun σ H h => p σ H h.drops
  | rt s ρ => exact fun v σ H h => p v σ H (by
      have h2 : Hs G N H σ ρ (A ++ ((some v, s) :: st)) := h.perm List.perm_middle.symm
      exact h2.drops)
  | bk ρ => exact fun σ H h => p σ H h.drops
  | ct ρ => exact fun σ H h => p σ H h.drops
  | exc c q ρ => exact fun cls d σ H x h => p cls d σ H x h.drops
  | stuck => exact p
theorem for_core {J : It} {src : Stk} {items : List D} {tg : Expr} {tgt : Tg} {ss : List Stmt} (hi : IterOk G N.L J src items) (hg : GX G N X tg tgt) (hb : BX G N X W ss g) (h : Hs G N H σ ρ (src ++ st)) (p : fps G N W st En (forL tgt g items ρ)) :
    ∃ W : Nat → Nat → L2.St → Hp → Prop, (∃ m, W 0 m σ H) ∧ ∀ i m σ H, W i m σ H →
      (J.stop i H ∧ En.nx σ H) ∨ (J.go i H ∧ ∃ N : L2.St → Hp → Prop, (∀ σ' H', N σ' H' → ∃ m', m' < m ∧ W (i + 1) m' σ' H') ∧ ∀ x H', J.yld i H x H' → sG X tg x σ H' fun σ2 H2 => sB X ss { En with nx := N, ct := N, bk := En.nx } σ2 H2) := by
  obtain ⟨Gc, Y, w, k1, k2⟩ := hi
  refine for_it w (D := En) (fun i σ H => ∃ ρ, Hs G N H σ ρ (src ++ st) ∧ fps G N W st En (forL tgt g (items.drop i) ρ)) ⟨ρ, h, p⟩ (fun i σ H _ ⟨ρ, h, _⟩ => k1 N σ ρ st H rfl h) ?_ ?_
  · rintro i x σ1 H1 H2 hi ⟨ρ1, h1, p1⟩ y
    obtain ⟨d, ed, h2⟩ := k2 N σ1 ρ1 st i x H1 H2 rfl hi h1 y
    have e2 : items.drop i = d :: items.drop (i + 1) := by
      rw [List.drop_eq_getElem_cons hi]
      congr 1
      exact (List.getElem?_eq_some_iff.mp ed).2
    rw [e2] at p1
    unfold forL at p1
    cases ea : asgT tgt (.d d) ρ1 with
    | none =>
      rw [ea] at p1
      exact p1.elim
    | some ρ2 =>
      rw [ea] at p1
      simp only at p1
      refine hg σ1 ρ1 ρ2 (src ++ st) H2 x (.d d) _ h2 ea fun σ2 H3 h3 => ?_
      refine hb σ2 ρ2 (src ++ st) H3 _ h3 ?_
      cases hbd : g ρ2 with
      | nx ρ3 =>
        rw [hbd] at p1
        exact fun σ' H' h' => ⟨ρ3, h', p1⟩
      | ct ρ3 =>
        rw [hbd] at p1
        exact fun σ' H' h' => ⟨ρ3, h', p1⟩
      | bk ρ3 =>
        rw [hbd] at p1
        exact fun σ' H' h' => p1 σ' H' h'.drops
      | rt s ρ3 =>
        rw [hbd] at p1
        exact (fps.drops p1 : fps G N W (src ++ st) En (.rt s ρ3))
      | exc c q ρ3 =>
        rw [hbd] at p1
        exact (fps.drops p1 : fps G N W (src ++ st) En (.exc c q ρ3))
      | stuck =>
        rw [hbd] at p1
        exact p1.elim
  · rintro σ1 H1 ⟨ρ1, h1, p1⟩
    rw [List.drop_length] at p1
    exact p1 σ1 H1 h1.drops
theorem sx_for {tg iter : Expr} {tgt : Tg} {ss : List Stmt} {r : List V → Hp → (It → Hp → Prop) → Prop} {io : List S → Option (List D)} (hp : PassesOwn (model X.prog X.w) X.A X.env X.xe) (hc : X.calm = true) (hr : PI X tg iter (fun σ H R => sAs X es σ H fun vs H1 => r vs H1 R))
    (ha : AX G N X W es as) (hi : ItS G r io) (hg : ∀ L0, GX G (N.lk L0) X tg tgt) (hb : ∀ L0, BX G (N.lk L0) X W ss g) (hs : ∀ x, foldedSetIterable iter X.env x = pure x := by intro _; rfl) : SX G N X W (.For tg iter ss [] pos) (bFor as io tgt g) := fun σ ρ st H D h p => by
  refine sS_of (ps_for hp hc hr pg_sem pss_sem hs) ?_
  refine ha.bdo h p fun avs ρ1 vs H1 r1 h1 p1 => ?_
  cases eg : grab ρ1 avs with
  | none =>
    rw [eg] at p1
    exact p1.elim
  | some q =>
    obtain ⟨xs, ρ2⟩ := q
    rw [eg] at p1
    simp only at p1
    obtain ⟨l, h2⟩ := grab_ok r1 h1 eg
    cases ei : io xs with
    | none =>
      rw [ei] at p1
      exact p1.elim
    | some items =>
      rw [ei] at p1
      exact hi N σ ρ2 st H1 vs xs items _ l h2 ei fun J H2 L0 ok h3 => for_core ok (hg L0) (hb L0) h3 p1.lk
/-! ### while -/
end
end DL
/-! the data layer: comprehensions -/
namespace DL
open PySem PySem.Spec PyProof.Rows L2
def clr : List Nat → List S → List S
  | [], ρ => ρ
  | v :: vs, ρ => (clr vs ρ).set v .gone
def rst : List Nat → List S → List S → List S
  | [], _, ρ => ρ
  | v :: vs, ρ0, ρ => rst vs ρ0 (ρ.set v ((clr vs ρ0)[v]?.getD .gone))
theorem clr_len : ∀ (vs : List Nat) (ρ : List S), (clr vs ρ).length = ρ.length
  | [], _ => rfl
  | v :: vs, ρ => by
    show ((clr vs ρ).set v .gone).length = _
    rw [List.length_set, clr_len vs ρ]
theorem clr_at : ∀ (vs : List Nat) (ρ : List S) (i : Nat) (s : S), (clr vs ρ)[i]? = some s → s ≠ .gone → i ∉ vs
  | [], _, _, _, _, _ => by simp
  | v :: vs, ρ, i, s, h, n => by
    have h' : ((clr vs ρ).set v .gone)[i]? = some s := h
    rw [List.getElem?_set] at h'
    split at h'
    · split at h'
      · cases h'
        exact absurd rfl n
      · cases h'
    · rename_i hne
      intro hm
      rcases List.mem_cons.mp hm with z | z
      · exact hne z.symm
      · exact clr_at vs ρ i s h' n z
def allD : List S → Option (List D)
  | [] => some []
  | .d x :: r => (allD r).map (x :: ·)
  | _ :: _ => none
def lsN (acc : List S) : S := match allD acc with
  | some xs => .l xs
  | none => .ls acc
theorem allD_eq : ∀ {acc : List S} {xs : List D}, allD acc = some xs → acc = xs.map .d
  | [], xs, h => by
    simp only [allD, Option.some.injEq] at h
    subst h
    rfl
  | .d x :: r, xs, h => by
    simp only [allD, Option.map_eq_some_iff] at h
    obtain ⟨ys, h1, h2⟩ := h
    subst h2
    rw [allD_eq h1]
    rfl
  | .gone :: _, _, h => by simp [allD] at h
  | .l _ :: _, _, h => by simp [allD] at h
  | .ls _ :: _, _, h => by simp [allD] at h
  | .m _ _ :: _, _, h => by simp [allD] at h
  | .o _ _ :: _, _, h => by simp [allD] at h
  | .w _ _ :: _, _, h => by simp [allD] at h
  | .fo _ _ :: _, _, h => by simp [allD] at h
/-- a block's loop -/
def compL (vs : List Nat) (t : Tg) (c : M Bool) (f : M S) : List D → List S → M (List S)
  | [], acc, ρ => .ok acc ρ
  | x :: xs, acc, ρ => match asgT t (.d x) (clr vs ρ) with
    | none => .stuck
    | some ρ1 => match c ρ1 with
      | .ok b ρ2 => if b then (match f ρ2 with
        | .ok s ρ3 => compL vs t c f xs (acc ++ [s]) ρ3
        | _ => .stuck) else compL vs t c f xs acc ρ2
      | _ => .stuck
def mComp (vs : List Nat) (as : List Arg) (io : List S → Option (List D)) (t : Tg) (c : M Bool) (f : M S) : M S := mbind (mArgs as) fun avs ρ => match grab ρ avs with
  | none => .stuck
  | some p => match io p.1 with
    | none => .stuck
    | some items => if items.length ≤ 100000 then (match compL vs t c f items [] p.2 with
      | .ok acc ρ2 => .ok (lsN acc) (lay (rst vs p.2 (clr vs ρ2)) avs p.1 p.1)
      | _ => .stuck) else .stuck
section
variable {G : Gx} {N N' : Pn} {X : Cx} {W : WX} {H H' : Hp} {σ σ' : L2.St} {ρ ρ' : List S} {st st' : Stk}
/-- other values in slots of which nothing is known -/
theorem RL.resl {F : Hp} : ∀ {ρ : List S} {σ σ' : L2.St} {fp : List Addr}, σ.length = ρ.length → σ'.length = ρ.length → (∀ (i : Nat) s, ρ[i]? = some s → s ≠ .gone → σ'[i]? = σ[i]?) → RL G F H (σ.zip ρ) fp → RL G F H (σ'.zip ρ) fp
  | [], σ, σ', fp, l1, l2, _, h => by
    have e1 : σ = [] := List.length_eq_zero_iff.mp l1
    have e2 : σ' = [] := List.length_eq_zero_iff.mp l2
    subst e1 e2
    exact h
  | s :: ρ, o :: σ, o' :: σ', fp, l1, l2, k, ⟨a, b, e, q, r⟩ => by
    refine ⟨a, b, e, ?_, RL.resl (by simpa using l1) (by simpa using l2) (fun i s e1 e2 => by have := k (i + 1) s (by simpa using e1) e2; simpa using this) r⟩
    by_cases hg : s = .gone
    · subst hg
      exact q
    · have e3 := k 0 s rfl hg
      simp only [List.getElem?_cons_zero, Option.some.injEq] at e3
      rw [e3]
      exact q
  | _ :: _, [], _, _, l1, _, _, _ => by simp at l1
  | _ :: _, _ :: _, [], _, _, l2, _, _ => by simp at l2
theorem Hs.resl (h : Hs G N H σ ρ st) (l : σ'.length = σ.length) (k : ∀ (i : Nat) s, ρ[i]? = some s → s ≠ .gone → σ'[i]? = σ[i]?) (pn : ∀ j ∈ N'.J, σ'[j]? = N'.s0[j]?) (lk : N'.L = N.L := by rfl) : Hs G N' H σ' ρ st := by
  obtain ⟨F, fp, sb, r, n⟩ := h.ex
  obtain ⟨a, b, e, r1, r2⟩ := (RL.app _ _ _).mp r
  exact ⟨l.trans h.len, ⟨F, fp, sb, (RL.app _ _ _).mpr ⟨a, b, e, r1, RL.resl h.len (l.trans h.len) k r2⟩, n⟩, ⟨⟨h.tb.1.1, by rw [lk]; exact h.tb.1.2⟩, by rw [lk]; exact h.tb.2⟩, pn⟩
def pulled : List Nat → L2.St → List S → Stk
  | [], _, _ => []
  | v :: vs, σ, ρ => ((σ[v]?.getD none), (clr vs ρ)[v]?.getD .gone) :: pulled vs σ ρ
theorem Hs.pulls : ∀ (vs : List Nat), Hs G N H σ ρ st → (∀ v ∈ vs, v < ρ.length) → Hs G N H σ (clr vs ρ) (pulled vs σ ρ ++ st)
  | [], h, _ => h
  | v :: vs, h, l => by
    have h1 := Hs.pulls vs h fun v hv => l v (List.mem_cons_of_mem _ hv)
    have lv : v < (clr vs ρ).length := by rw [clr_len]; exact l v List.mem_cons_self
    have lσ : v < σ.length := by rw [h1.len]; exact lv
    have h2 := h1.pull (i := v) (s := (clr vs ρ)[v]) (o := σ[v]) (by simp [lv]) (by simp [lσ])
    show Hs G N H σ ((clr vs ρ).set v .gone) (((σ[v]?.getD none), (clr vs ρ)[v]?.getD .gone) :: (pulled vs σ ρ ++ st))
    rw [List.getElem?_eq_getElem lσ, List.getElem?_eq_getElem lv]
    exact h2
theorem Hs.puts : ∀ (vs : List Nat) {ρ2 : List S}, Hs G N H σ ρ2 (pulled vs σ ρ ++ st) → ρ2.length = ρ.length → (∀ v ∈ vs, v < ρ.length) → Hs G N H σ (rst vs ρ ρ2) st
  | [], _, h, _, _ => h
  | v :: vs, ρ2, h, l2, l => by
    have lv : v < ρ.length := l v List.mem_cons_self
    have lσ : v < σ.length := by rw [h.len, l2]; exact lv
    have h1 : Hs G N H σ ρ2 ((σ[v], (clr vs ρ)[v]?.getD .gone) :: (pulled vs σ ρ ++ st)) := by
      have h2 : Hs G N H σ ρ2 (((σ[v]?.getD none), (clr vs ρ)[v]?.getD .gone) :: (pulled vs σ ρ ++ st)) := h
      rw [List.getElem?_eq_getElem lσ] at h2
      exact h2
    have h2 := h1.put (i := v) (t := ρ2[v]'(by omega)) (by simp [l2, lv]) (by simp [lσ])
    exact Hs.puts vs h2 (by rw [List.length_set]; exact l2) fun v hv => l v (List.mem_cons_of_mem _ hv)
theorem Hs.clrs : ∀ (vs : List Nat), Hs G N H σ ρ st → Hs G N H σ (clr vs ρ) st
  | [], h => h
  | v :: vs, h => (Hs.clrs vs h).forget v
/-- the pins of a block: all slots but its own -/
def blkP (vs : List Nat) (σ : L2.St) (L : List (Addr × Obj × HO)) : Pn := ⟨(List.range σ.length).filter fun j => decide (j ∉ vs), wipe σ vs, L⟩
theorem blkP_out {vs : List Nat} {v : Nat} (h : v ∈ vs) : v ∉ (blkP vs σ N.L).J := fun hm => by
  have := (List.mem_filter.mp hm).2
  simp [h] at this
theorem wipe_len (σ : L2.St) : ∀ vs : List Nat, (wipe σ vs).length = σ.length := fun vs => wipe_length σ vs
theorem wipe_at {i : Nat} (l : i < σ.length) : ∀ {vs : List Nat}, i ∈ vs → (wipe σ vs)[i]? = some none
  | [], h => by simp at h
  | v :: vs, h => by
    show ((wipe σ vs).set v none)[i]? = some none
    rw [List.getElem?_set]
    split
    · rw [if_pos (by rw [wipe_len]; subst_vars; exact l)]
    · rename_i hne
      rcases List.mem_cons.mp h with z | z
      · exact absurd z.symm hne
      · exact wipe_at l z
theorem wipe_eq {vs : List Nat} (l : σ'.length = σ.length) (k : ∀ j, j < σ.length → j ∉ vs → σ'[j]? = (wipe σ vs)[j]?) : wipe σ' vs = wipe σ vs := by
  apply List.ext_getElem?
  intro i
  by_cases hi : i < σ.length
  · by_cases hm : i ∈ vs
    · rw [wipe_at hi hm, wipe_at (by rw [l]; exact hi) hm]
    · rw [wipe_out hm, k i hi hm]
  · have e1 : (wipe σ' vs).length ≤ i := by rw [wipe_len, l]; omega
    have e2 : (wipe σ vs).length ≤ i := by rw [wipe_len]; omega
    rw [List.getElem?_eq_none_iff.mpr e1, List.getElem?_eq_none_iff.mpr e2]
theorem blk_pin {vs : List Nat} {j : Nat} (hj : j < σ.length) (hm : j ∉ vs) : j ∈ (blkP vs σ N.L).J := List.mem_filter.mpr ⟨List.mem_range.mpr hj, by simp [hm]⟩
/-- into a block -/
theorem Hs.into {vs : List Nat} (h : Hs G N H σ (clr vs ρ) st) : Hs G (blkP vs σ N.L) H (wipe σ vs) (clr vs ρ) st := h.resl (wipe_len σ vs) (fun i s e n => wipe_out (clr_at vs ρ i s e n)) fun j _ => rfl
/-- to the block's next turn -/
theorem Hs.next {vs : List Nat} (h : Hs G (blkP vs σ N.L) H σ' ρ' st) (l : σ'.length = σ.length) : Hs G (blkP vs σ N.L) H (wipe σ vs) (clr vs ρ') st := by
  refine (h.clrs vs).resl (by rw [wipe_len, l]) (fun i s e n => ?_) fun j _ => rfl
  have hm := clr_at vs ρ' i s e n
  have hi : i < σ.length := by
    have := (List.getElem?_eq_some_iff.mp e).1
    rw [clr_len, ← h.len, l] at this
    exact this
  exact (h.pin i (blk_pin hi hm)).symm
theorem Hs.keepW {vs : List Nat} (h : Hs G (blkP vs σ N.L) H σ' ρ' st) (l : σ'.length = σ.length) : wipe σ' vs = wipe σ vs := wipe_eq l fun j hj hm => h.pin j (blk_pin hj hm)
/-- out of it -/
theorem Hs.out {vs : List Nat} (h : Hs G (blkP vs σ N.L) H (wipe σ vs) (clr vs ρ') st) (h0 : Hs G N H' σ ρ st') : Hs G N H σ (clr vs ρ') st := by
  refine h.resl (wipe_len σ vs).symm (fun i s e n => (wipe_out (clr_at vs ρ' i s e n)).symm) h0.pin
mutual
theorem asgT_len : ∀ (t : Tg) (s : S) (ρ ρ' : List S), asgT t s ρ = some ρ' → ρ'.length = ρ.length
  | .n i, s, ρ, ρ', e => by
    unfold asgT at e
    split at e
    · cases e
      rw [List.length_set]
    · cases e
  | .t ts, s, ρ, ρ', e => by
    have no : ∀ {P : Prop}, (none : Option (List S)) = some ρ' → P := fun e => by cases e
    cases s with
    | d x =>
      cases x with
      | tup xs => exact asgTs_len ts xs ρ ρ' e
      | _ => exact no e
    | _ => exact no e
theorem asgTs_len : ∀ (t : List Tg) (xs : List D) (ρ ρ' : List S), asgTs t xs ρ = some ρ' → ρ'.length = ρ.length
  | [], [], ρ, ρ', e => by
    simp only [asgTs, Option.some.injEq] at e
    rw [e]
  | [], _ :: _, ρ, ρ', e => by simp [asgTs] at e
  | _ :: _, [], ρ, ρ', e => by simp [asgTs] at e
  | t :: ts, x :: xs, ρ, ρ', e => by
    simp only [asgTs, Option.bind_eq_some_iff] at e
    obtain ⟨ρ1, e1, e2⟩ := e
    rw [asgTs_len ts xs ρ1 ρ' e2, asgT_len t (.d x) ρ ρ1 e1]
end
theorem RFl.len {F : Hp} : ∀ {xs : List S} {os : List (Option V)} {fp : List Addr}, RFl G F H xs os fp → os.length = xs.length
  | [], _, _, ⟨e, _⟩ => by subst e; rfl
  | _ :: _, _, _, ⟨o, os', a, b, e1, _, _, q⟩ => by subst e1; simp [RFl.len q]
theorem RFl.app {F : Hp} : ∀ {xs : List S} {os : List (Option V)} {fp : List Addr} {s : S} {o : Option V} {fq : List Addr}, RFl G F H xs os fp → RF G F H s o fq → RFl G F H (xs ++ [s]) (os ++ [o]) (fp ++ fq)
  | [], _, _, s, o, fq, ⟨e1, e2⟩, q => by
    subst e1 e2
    exact ⟨o, [], fq, [], rfl, by simp, q, rfl, rfl⟩
  | x :: xs, _, _, s, o, fq, ⟨o', os', a, b, e1, e2, q1, q2⟩, q => by
    subst e1 e2
    exact ⟨o', os' ++ [o], a, b ++ fq, rfl, by rw [List.append_assoc], q1, RFl.app q2 q⟩
/-- a new empty list -/
theorem Hs.newLs (h : Hs G N H σ ρ st) {p : Addr} (hp : H p = none) : Hs G N (upd H p (.lst [])) σ ρ ((some (.ref p), .ls []) :: st) := by
  obtain ⟨F, fp, sb, r, n⟩ := h.ex
  have g : Grow G N H (upd H p (.lst [])) := Grow.upd h.tb hp
  exact ⟨h.len, ⟨F, p :: fp, sb.grow g.1, ⟨[p], fp, rfl, ⟨p, [], [], rfl, rfl, upd_same, sb.none hp, rfl, rfl⟩, RL.keep (Le.refl F) _ fp r (own_grow r g.1)⟩, List.nodup_cons.mpr ⟨fp_ne r hp, n⟩⟩, g.2, h.pin⟩
theorem tabs_upd {p : Addr} {o u : HO} (t : Tb G N H) (e : H p = some u) (hm : Wr u) : Tb G N (upd H p o) := by
  have ne : ∀ (q : Addr) (x : HO), H q = some x → ¬ Wr x → q ≠ p := fun q x h1 h2 z => by
    rw [z, e] at h1
    cases h1
    exact h2 hm
  refine ⟨⟨fun q hq => ?_, fun q hq c fd h1 h2 => by rw [upd_ne (ne _ _ (t.1.2 q hq c fd h1 h2) fun z => z _ _ rfl)]; exact t.1.2 q hq c fd h1 h2⟩, fun q hq => by rw [upd_ne (ne _ _ (t.2 q hq) id)]; exact t.2 q hq⟩
  obtain ⟨ps, e1, e2, e3⟩ := t.1.1 q hq
  refine ⟨ps, by rw [upd_ne (ne _ _ e1 id)]; exact e1, e2, fun pos cv hc => ?_⟩
  obtain ⟨c, q', e4, e6, e5⟩ := e3 pos cv hc
  exact ⟨c, q', e4, e6, by rw [upd_ne (ne _ _ e5 fun z => z _ _ rfl)]; exact e5⟩
/-- what is owned changes -/
theorem sub_upd {F : Hp} {p : Addr} {o : HO} (sb : Sub F H) (hp : F p = none) : Sub F (upd H p o) := fun a u e => by
  have ha : a ≠ p := fun z => by rw [z, hp] at e; cases e
  rw [upd_ne ha]
  exact sb a u e
theorem fr_upd {L : Stk} {F : Hp} {p : Addr} {o : HO} {fr : List Addr} (r : RL G F H L fr) (hp : p ∉ fr) : ∀ a ∈ fr, upd H p o a = H a ∧ F a = none := fun a ha => by
  rw [upd_ne fun z => hp (by rw [← z]; exact ha)]
  exact ⟨rfl, (RL.own _ fr r a ha).1⟩
/-- an item goes behind a list -/
theorem Hs.push {y : V} {s : S} {p : Addr} {acc : List S} (h : Hs G N H σ ρ ((some y, s) :: (some (.ref p), .ls acc) :: st)) : ∃ vs, H p = some (.lst vs) ∧ vs.length = acc.length ∧ Hs G N (upd H p (.lst (vs ++ [y]))) σ ρ ((some (.ref p), .ls (acc ++ [s])) :: st) := by
  obtain ⟨F, fp, sb, ⟨a1, b1, ef1, q1, a2, b2, ef2, ⟨a, vs, r0, ev, er, e3, e4, q2⟩, r⟩, n⟩ := h.ex
  cases ev
  subst ef1 ef2 er
  have lv := RFl.len q2
  rw [List.length_map] at lv
  refine ⟨vs, e3, lv, h.len, ⟨F, (p :: (r0 ++ a1)) ++ b2, sub_upd sb e4, ⟨p :: (r0 ++ a1), b2, rfl, ⟨p, vs ++ [y], r0 ++ a1, rfl, rfl, upd_same, e4, ?_⟩, ?_⟩, ?_⟩, tabs_upd h.tb e3 trivial, h.pin⟩
  · rw [List.map_append]
    have nr : ∀ b ∈ r0 ++ a1, upd H p (.lst (vs ++ [y])) b = H b ∧ F b = none := fun b hb => by
      have hne : b ≠ p := fun z => by
        subst z
        rcases List.mem_append.mp hb with hb | hb
        · have := (List.nodup_append.mp n).2.1
          have := (List.nodup_append.mp this).1
          exact (List.nodup_cons.mp this).1 hb
        · exact (List.nodup_append.mp n).2.2 b hb b (by simp) rfl
      rw [upd_ne hne]
      refine ⟨rfl, ?_⟩
      rcases List.mem_append.mp hb with hb | hb
      · exact (RFl.own _ _ r0 q2 b hb).1
      · exact (RF.own _ _ a1 q1 b hb).1
    exact RFl.app (RFl.keep (Le.refl F) _ _ r0 q2 fun b hb => nr b (List.mem_append_left _ hb)) (RF.keep (Le.refl F) _ _ a1 q1 fun b hb => nr b (List.mem_append_right _ hb))
  · refine RL.keep (Le.refl F) _ b2 r (fr_upd r fun hm => ?_)
    have := (List.nodup_append.mp n).2.1
    exact (List.nodup_append.mp this).2.2 p (by simp) p hm rfl
  · have p1 : (a1 ++ (p :: r0 ++ b2)).Perm (p :: (r0 ++ a1) ++ b2) := by
      rw [← List.append_assoc]
      refine List.Perm.append_right b2 ?_
      exact List.perm_append_comm
    exact (p1.nodup_iff).mp n
theorem Hs.toL {o : Option V} {xs : List D} (h : Hs G N H σ ρ ((o, .ls (xs.map .d)) :: st)) : Hs G N H σ ρ ((o, .l xs) :: st) := by
  obtain ⟨F, fp, sb, ⟨a, b, ef, ⟨p, vs, r0, ev, er, e3, e4, q⟩, r⟩, n⟩ := h.ex
  have key : ∀ (xs : List D) (vs : List V) (r0 : List Addr), RFl G F H (xs.map .d) (vs.map some) r0 → r0 = [] ∧ RDs G F xs vs := by
    intro xs
    induction xs with
    | nil =>
      rintro vs r0 ⟨e1, e2⟩
      have : vs = [] := by simpa using e1
      exact ⟨e2, this⟩
    | cons x xs ih =>
      rintro vs r0 ⟨o, os, a, b, e1, e2, ⟨ea, v, ev, q1⟩, q2⟩
      cases vs with
      | nil => simp at e1
      | cons w ws =>
        simp only [List.map_cons, List.cons.injEq] at e1
        obtain ⟨h1, h2⟩ := e1
        rw [← h2] at q2
        obtain ⟨eb, q3⟩ := ih ws b q2
        rw [ev] at h1
        have h1' : w = v := Option.some.inj h1
        subst h1' ea eb
        exact ⟨by simpa using e2, w, ws, rfl, q1, q3⟩
  obtain ⟨er0, q2⟩ := key xs vs r0 q
  subst er0 er
  exact ⟨h.len, ⟨F, fp, sb, ⟨_, b, ef, ⟨p, vs, ev, rfl, e3, e4, q2⟩, r⟩, n⟩, h.tb, h.pin⟩
theorem Hs.lsN {o : Option V} {acc : List S} (h : Hs G N H σ ρ ((o, .ls acc) :: st)) : Hs G N H σ ρ ((o, DL.lsN acc) :: st) := by
  unfold DL.lsN
  split
  · rename_i xs e
    have e2 := allD_eq e
    subst e2
    exact h.toL
  · exact h
/-! ### the rule -/
abbrev W0 : WX := fun _ _ _ _ => False
/-- what stands in a block, wherever it starts -/
def BlkA (X : Cx) (scope : Scope) (K : Cx → Prop) : Prop := ∀ (s : Shared) (H : Hp) (C : Addr) (cl : List (Str × Addr)) (fp : List Addr), K (X.blk s H scope (compEnvC scope cl C X.env) fp)
/-- a clause's tests, none or one -/
inductive Ifs (G : Gx) (N : Pn) (X : Cx) : List Expr → M Bool → Prop
  | nil : Ifs G N X [] (mpure true)
  | one {c : Expr} {t : M Bool} : TX G N X W0 c t → Ifs G N X [c] t
def sTs (X : Cx) : List Expr → TT
  | [] => tYes
  | [c] => sT X c
  | _ => fun _ _ _ => False
theorem pts_sem : ∀ {ifs : List Expr}, ifs.length ≤ 1 → PTs X ifs (sTs X ifs)
  | [], _ => pts_nil
  | [c], _ => pts_one pt_sem
  | _ :: _ :: _, h => by simp at h
theorem ifs_run {ifs : List Expr} {t : M Bool} (h : Ifs G N X ifs t) {Q : Bool → Hp → Prop} (hs : Hs G N H σ ρ st) {b : Bool} (e : t ρ = .ok b ρ') (k : ∀ H', Hs G N H' σ ρ' st → Q b H') : sTs X ifs σ H Q := by
  cases h with
  | nil =>
    have e' : Res.ok true ρ = Res.ok b ρ' := e
    cases e'
    exact k H hs
  | one hc =>
    refine hc σ ρ st H Q hs ?_
    rw [e]
    exact k
def gAll (X : Cx) (scope : Scope) (tg : Expr) : TG := fun v σ H Q => ∀ (s : Shared) (H0 : Hp) (C : Addr) (cl : List (Str × Addr)) (fp : List Addr), sG (X.blk s H0 scope (compEnvC scope cl C X.env) fp) tg v σ H Q
def tAllT (X : Cx) (scope : Scope) (ifs : List Expr) : TT := fun σ H Q => ∀ (s : Shared) (H0 : Hp) (C : Addr) (cl : List (Str × Addr)) (fp : List Addr), sTs (X.blk s H0 scope (compEnvC scope cl C X.env) fp) ifs σ H Q
def tAllE (X : Cx) (scope : Scope) (elt : Expr) : TE := fun σ H Q => ∀ (s : Shared) (H0 : Hp) (C : Addr) (cl : List (Str × Addr)) (fp : List Addr), sE (X.blk s H0 scope (compEnvC scope cl C X.env) fp) elt σ H Q
theorem gAll_ok {scope : Scope} {tg : Expr} (s : Shared) (H0 : Hp) (C : Addr) (cl : List (Str × Addr)) (fp : List Addr) : PG (X.blk s H0 scope (compEnvC scope cl C X.env) fp) tg (gAll X scope tg) := ⟨fun pins s' _ _ _ u _ I r q => q s H0 C cl fp pins s' u I r⟩
theorem tAllT_ok {scope : Scope} {ifs : List Expr} (hl : ifs.length ≤ 1) (s : Shared) (H0 : Hp) (C : Addr) (cl : List (Str × Addr)) (fp : List Addr) : PTs (X.blk s H0 scope (compEnvC scope cl C X.env) fp) ifs (tAllT X scope ifs) := ⟨fun pins s' σ' H' Q' I q => (pts_sem hl).run pins s' σ' H' Q' I (q s H0 C cl fp)⟩
theorem tAllE_ok {scope : Scope} {elt : Expr} (s : Shared) (H0 : Hp) (C : Addr) (cl : List (Str × Addr)) (fp : List Addr) : PE (X.blk s H0 scope (compEnvC scope cl C X.env) fp) elt (tAllE X scope elt) := ⟨fun pins s' _ _ _ I q => q s H0 C cl fp pins s' I⟩
/-- what a block's parts do, wherever it starts, whatever its pins (but for its own slots) -/
structure Parts (G : Gx) (X : Cx) (scope : Scope) (vs : List Nat) (tg : Expr) (ifs : List Expr) (elt : Expr) (t : Tg) (c : M Bool) (f : M S) : Prop where
  tg : ∀ N : Pn, (∀ v ∈ vs, v ∉ N.J) → BlkA X scope fun X' => GX G N X' tg t
  ifs : ∀ N : Pn, (∀ v ∈ vs, v ∉ N.J) → BlkA X scope fun X' => Ifs G N X' ifs c
  elt : ∀ N : Pn, (∀ v ∈ vs, v ∉ N.J) → BlkA X scope fun X' => EX G N X' W0 elt f
theorem compL_run {scope : Scope} {vs : List Nat} {tg elt : Expr} {ifs : List Expr} {t : Tg} {c : M Bool} {f : M S} {J : It} {src : Stk} {items : List D} {Q : VK} (P : Parts G X scope vs tg ifs elt t c f) (hi : IterOk G N.L J src items) (hl : items.length ≤ 100000)
    {acc' : List S} {ρ1 : List S} (hv : ∀ v ∈ vs, v < ρ.length) (h : Hs G N H σ ρ (src ++ st)) (e : compL vs t c f items [] ρ = .ok acc' ρ1) {Dl : Addr} (hD : H Dl = none)
    (k : ∀ H', Hs G N H' σ (rst vs ρ (clr vs ρ1)) ((some (.ref Dl), lsN acc') :: (src ++ st)) → Q (.ref Dl) H') :
    ∃ W : Nat → Nat → Hp → Prop, (∃ m, W 0 m (upd H Dl (.lst []))) ∧ ∀ i m H, W i m H →
      (J.stop i H ∧ Q (.ref Dl) H) ∨ (J.go i H ∧ ∃ Nx : Hp → Prop, (∀ H', Nx H' → ∃ m', m' < m ∧ W (i + 1) m' H') ∧ ∀ x H', J.yld i H x H' →
        (gAll X scope tg) x (wipe σ vs) H' fun σ2 H2 => wipe σ2 vs = wipe σ vs ∧
          (tAllT X scope ifs) σ2 H2 fun b H3 =>
          if b = true then (tAllE X scope elt) σ2 H3 fun y H4 => ∃ acc, H4 Dl = some (.lst acc) ∧ acc.length < sizeLine ∧ Nx (upd H4 Dl (.lst (acc ++ [y]))) else Nx H3) := by
  obtain ⟨Gc, Y, w, k1, k2⟩ := hi
  have hlσ : σ.length = ρ.length := h.len
  have Np : ∀ v ∈ vs, v ∉ (blkP vs σ N.L).J := fun v hv => blkP_out hv
  refine lc_it w (g := gAll X scope tg) (tt := tAllT X scope ifs) (te := tAllE X scope elt) (vs := vs) (σ := σ) (H1 := H) (D := Dl) (Qd := Q (.ref Dl)) (fun i H => ∃ ρ2 acc, ρ2.length = ρ.length ∧ acc.length ≤ i ∧ Hs G (blkP vs σ N.L) H (wipe σ vs) (clr vs ρ2) (src ++ ((some (.ref Dl), .ls acc) :: (pulled vs σ ρ ++ st))) ∧ compL vs t c f (items.drop i) acc ρ2 = .ok acc' ρ1) ?_ ?_ ?_ ?_
  · refine ⟨ρ, [], rfl, Nat.le_refl _, ?_, e⟩
    have h1 := h.pulls vs hv
    have h2 := Hs.into h1
    have h3 := h2.newLs hD
    refine h3.perm ?_
    have e1 : (pulled vs σ ρ ++ (src ++ st)).Perm (src ++ (pulled vs σ ρ ++ st)) := by
      rw [← List.append_assoc, ← List.append_assoc]
      exact List.perm_append_comm.append_right st
    exact (e1.cons _).trans List.perm_middle.symm
  · rintro i H1 hi ⟨ρ2, acc, l2, la, h1, _⟩
    exact k1 (blkP vs σ N.L) _ _ _ _ rfl h1
  · rintro i x H1 H2 hi ⟨ρ2, acc, l2, la, h1, e1⟩ y
    obtain ⟨d, ed, h2⟩ := k2 (blkP vs σ N.L) _ _ _ i x H1 H2 rfl hi h1 y
    have e2 : items.drop i = d :: items.drop (i + 1) := by
      rw [List.drop_eq_getElem_cons hi]
      congr 1
      exact (List.getElem?_eq_some_iff.mp ed).2
    rw [e2] at e1
    unfold compL at e1
    cases ea : asgT t (.d d) (clr vs ρ2) with
    | none =>
      rw [ea] at e1
      cases e1
    | some ρ3 =>
      rw [ea] at e1
      simp only at e1
      intro s H0 C cl fp
      refine P.tg _ Np s H0 C cl fp _ _ _ _ _ _ _ _ h2 ea fun σ2 H3 h3 => ?_
      have l3 : σ2.length = σ.length := by rw [h3.len, asgT_len _ _ _ _ ea, clr_len, l2, hlσ]
      refine ⟨h3.keepW l3, ?_⟩
      intro s H0 C cl fp
      cases ec : c ρ3 with
      | exc a b r =>
        rw [ec] at e1
        cases e1
      | stuck =>
        rw [ec] at e1
        cases e1
      | ok b ρ4 =>
        rw [ec] at e1
        simp only at e1
        refine ifs_run (P.ifs _ Np s H0 C cl fp) h3 ec fun H4 h4 => ?_
        have l4 : ρ4.length = ρ.length := by rw [← h4.len, l3, hlσ]
        cases b with
        | false =>
          simp only [Bool.false_eq_true, if_false] at e1
          exact iteF ⟨ρ4, acc, l4, by omega, h4.next l3, e1⟩
        | true =>
          simp only [if_true] at e1
          cases ef : f ρ4 with
          | exc a b r =>
            rw [ef] at e1
            cases e1
          | stuck =>
            rw [ef] at e1
            cases e1
          | ok z ρ5 =>
            rw [ef] at e1
            simp only at e1
            refine iteT ?_
            intro s H0 C cl fp
            refine P.elt _ Np s H0 C cl fp _ _ _ _ _ h4 ?_
            rw [ef]
            intro yv H5 h5
            have l5 : ρ5.length = ρ.length := by rw [← h5.len, l3, hlσ]
            have h6 : Hs G (blkP vs σ N.L) H5 σ2 ρ5 ((some yv, z) :: (some (.ref Dl), .ls acc) :: (src ++ (pulled vs σ ρ ++ st))) := h5.perm (List.Perm.cons _ List.perm_middle)
            obtain ⟨ws, ew, lw, h7⟩ := h6.push
            refine ⟨ws, ew, ?_, ρ5, acc ++ [z], l5, by simp; omega, ?_, e1⟩
            · rw [lw]
              exact Nat.lt_of_le_of_lt la (Nat.lt_of_lt_of_le hi (Nat.le_trans hl (by decide)))
            · exact (h7.next l3).perm List.perm_middle.symm
  · rintro H1 ⟨ρ2, acc, l2, la, h1, e1⟩
    rw [List.drop_length] at e1
    have e1' : Res.ok acc ρ2 = Res.ok acc' ρ1 := e1
    cases e1'
    refine k H1 ?_
    have h2 := h1.out h
    have h3 : Hs G N H1 σ (clr vs ρ1) (pulled vs σ ρ ++ ((some (.ref Dl), .ls acc') :: (src ++ st))) := by
      refine h2.perm ?_
      have e3 : (src ++ ((some (V.ref Dl), S.ls acc') :: (pulled vs σ ρ ++ st))).Perm ((some (V.ref Dl), S.ls acc') :: (pulled vs σ ρ ++ (src ++ st))) := by
        refine List.perm_middle.trans (List.Perm.cons _ ?_)
        rw [← List.append_assoc, ← List.append_assoc]
        exact List.perm_append_comm.append_right st
      exact e3.trans List.perm_middle.symm
    have h4 := h3.puts vs (by rw [clr_len, l2]) hv
    exact h4.lsN
theorem mComp_core {scope : Scope} {vs : List Nat} {tg elt : Expr} {ifs : List Expr} {t : Tg} {c : M Bool} {f : M S} {es : List Expr} {as : List Arg} {r : List V → Hp → (It → Hp → Prop) → Prop} {io : List S → Option (List D)} {Q : VK} (P : Parts G X scope vs tg ifs elt t c f) (ha : AX G N X W es as) (hi : ItS G r io)
    (hv : ∀ v ∈ vs, v < X.N.length) (hN : X.N.length = σ.length) (h : Hs G N H σ ρ st) (p : pst G N W σ st (fun s ρ' => ∀ v H', Hs G N H' σ ρ' ((some v, s) :: st) → Q v H') (mComp vs as io t c f ρ)) :
    tLc (fun σ H R => sAs X es σ H fun vs H1 => r vs H1 R) (gAll X scope tg)
      (tAllT X scope ifs)
      (tAllE X scope elt) vs σ H Q := by
  refine ha.bind h p fun avs ρ1 vs1 H1 r1 h1 p1 => ?_
  cases eg : grab ρ1 avs with
  | none =>
    rw [eg] at p1
    exact p1.elim
  | some q =>
    obtain ⟨xs, ρ2⟩ := q
    rw [eg] at p1
    simp only at p1
    obtain ⟨l, h2⟩ := grab_ok r1 h1 eg
    cases ei : io xs with
    | none =>
      rw [ei] at p1
      exact p1.elim
    | some items =>
      rw [ei] at p1
      simp only at p1
      by_cases hl : items.length ≤ 100000
      · rw [if_pos hl] at p1
        cases ec : compL vs t c f items [] ρ2 with
        | exc a b r =>
          rw [ec] at p1
          exact p1.elim
        | stuck =>
          rw [ec] at p1
          exact p1.elim
        | ok acc ρ3 =>
          rw [ec] at p1
          refine hi N σ ρ2 st H1 vs1 xs items _ l h2 ei fun J H2 L0 ok h3 => ?_
          intro Dl hD
          refine compL_run (N := N.lk L0) P ok hl (fun v hm => by rw [← h3.len, ← hN]; exact hv v hm) h3 ec hD fun H4 h4 => ?_
          refine p1 _ H4 ?_
          have h5 : Hs G N H4 σ (rst vs ρ2 (clr vs ρ3)) (zs vs1 xs ++ ((some (.ref Dl), lsN acc) :: st)) := h4.unlk.perm List.perm_middle.symm
          exact lay_ok r1 l.symm l.symm h5
      · rw [if_neg hl] at p1
        exact p1.elim
theorem sE_len {e : Expr} {Q : VK} (h : X.N.length = σ.length → sE X e σ H Q) : sE X e σ H Q := fun pins s I => h I.len.symm pins s I
theorem ex_lc {scope : Scope} {own : List (Str × Nat)} {tg iter elt : Expr} {ifs : List Expr} {t : Tg} {c : M Bool} {f : M S} {es : List Expr} {as : List Arg} {r : List V → Hp → (It → Hp → Prop) → Prop} {io : List S → Option (List D)} {pos : Pos} (hc : X.calm = true) (hN : X.N.Nodup)
    (hr : PI X tg iter (fun σ H R => sAs X es σ H fun vs H1 => r vs H1 R)) (ok : BlkOk X.N X.env.scope scope own) (P : Parts G X scope (own.map (·.2)) tg ifs elt t c f) (ha : AX G N X W es as) (hi : ItS G r io) (hl : ifs.length ≤ 1 := by decide)
    (hs : ∀ x, foldedSetIterable iter X.env x = pure x := by intro _; rfl) : EX G N X W (.ListComp elt [⟨tg, iter, ifs, 0⟩] scope pos) (mComp (own.map (·.2)) as io t c f) := fun σ ρ st H Q h p => by
  refine sE_len fun hn => ?_
  refine sE_of (pe_lc (own := own) hc hN hr ok gAll_ok (tAllT_ok hl) tAllE_ok hs) ?_
  refine mComp_core P ha hi (fun v hv => ?_) hn h p
  obtain ⟨q, hq, e⟩ := List.mem_map.mp hv
  have := ok.ix q hq
  rw [e] at this
  exact (List.getElem?_eq_some_iff.mp this).1
/-- x = [..] on one line -/
theorem sx_setLc {scope : Scope} {own : List (Str × Nat)} {tg iter elt : Expr} {ifs : List Expr} {t : Tg} {c : M Bool} {f : M S} {es : List Expr} {as : List Arg} {r : List V → Hp → (It → Hp → Prop) → Prop} {io : List S → Option (List D)} {pos spos py : Pos} {y : Str} (i : Nat) (hc : X.calm = true) (hN : X.N.Nodup) (hj : i ∉ N.J)
    (hr : PI X tg iter (fun σ H R => sAs X es σ H fun vs H1 => r vs H1 R)) (ok : BlkOk X.N X.env.scope scope own) (P : Parts G X scope (own.map (·.2)) tg ifs elt t c f) (ha : AX G N X W es as) (hi : ItS G r io) (hsw : swapsWith (.ListComp elt [⟨tg, iter, ifs, 0⟩] scope pos) (some (.Name y py)) spos.line X.env = pure true) (hy : X.N[i]? = some y := by rfl) (hyl : X.env.scope.names.lookup y = some .local := by rfl) (hl : ifs.length ≤ 1 := by decide)
    (hs : ∀ x, foldedSetIterable iter X.env x = pure x := by intro _; rfl) : SX G N X W (.Assign [.Name y py] (.ListComp elt [⟨tg, iter, ifs, 0⟩] scope pos) spos) (bAsg i (mComp (own.map (·.2)) as io t c f)) := fun σ ρ st H D h p => by
  have key : ∀ hn : X.N.length = σ.length, tAsg (tLc (fun σ H R => sAs X es σ H fun vs H1 => r vs H1 R) (gAll X scope tg)
      (tAllT X scope ifs)
      (tAllE X scope elt) (own.map (·.2))) (gName i) D σ H := fun hn => by
    refine mComp_core (W := W) (st := st) P ha hi (fun v hv => ?_) hn h ?_
    · obtain ⟨q, hq, e⟩ := List.mem_map.mp hv
      have := ok.ix q hq
      rw [e] at this
      exact (List.getElem?_eq_some_iff.mp this).1
    · unfold bAsg at p
      cases hf : mComp (own.map (·.2)) as io t c f ρ with
      | exc a b r =>
        rw [bdo_exc hf] at p
        exact fun cls d H' x h' => p cls d σ H' x h'
      | stuck =>
        rw [bdo_stuck hf] at p
        exact p
      | ok s ρ1 =>
        rw [bdo_ok hf] at p
        intro v H1 h1
        unfold bset at p
        split at p
        · rename_i hlt
          exact p _ H1 (h1.assign hlt hj)
        · exact p.elim
  intro pins sh I
  exact (ps_setLc (own := own) hc hN hy hyl hsw hr ok gAll_ok (tAllT_ok hl) tAllE_ok hs).run pins sh σ H D I (key I.len.symm)
end
end DL
/-! the data layer: a def by its body; more statements -/
namespace DL
open PySem PySem.Spec PyProof.Rows L2
def outsF (J : List Nat) (ρ : List S) : Nat → Nat → List S
  | _, 0 => []
  | j, n + 1 => (if j ∈ J then ρ[j]?.getD .gone else .gone) :: outsF J ρ (j + 1) n
/-- a def: np parameters, nl names in all, those at J keep what they were given -/
def fnOp (np nl : Nat) (J : List Nat) (g : B) : List S → ORes := fun xs => if xs.length = np then (match g (xs ++ List.replicate (nl - np) .gone) with
  | .nx ρ => .ok (.d .non) (outsF J ρ 0 np)
  | .rt s ρ => .ok s (outsF J ρ 0 np)
  | .exc c p ρ => .exc c p (outsF J ρ 0 np)
  | _ => .stuck) else .stuck
section
variable {G : Gx} {N N' : Pn} {X : Cx} {W : WX} {H H' : Hp} {σ σ' : L2.St} {ρ ρ' : List S} {st st' : Stk}
theorem RL.gones {F : Hp} : ∀ (n : Nat) {L : Stk} {fp : List Addr}, RL G F H L fp → RL G F H (((List.replicate n (none : Option V)).zip (List.replicate n S.gone)) ++ L) fp
  | 0, _, _, h => h
  | n + 1, L, fp, h => ⟨[], fp, rfl, rfl, RL.gones n h⟩
theorem frame_in {vs : List V} {xs : List S} {Nn : List Str} {J : List Nat} (l : vs.length = xs.length) (h : Hs G N H σ ρ (zs vs xs ++ st)) : Hs G ⟨J, start Nn vs, N.L⟩ H (start Nn vs) (xs ++ List.replicate (Nn.length - xs.length) .gone) (st ++ σ.zip ρ) := by
  obtain ⟨F, fp, sb, r, n⟩ := h.ex
  have e : (start Nn vs).zip (xs ++ List.replicate (Nn.length - xs.length) .gone) = zs vs xs ++ (List.replicate (Nn.length - xs.length) (none : Option V)).zip (List.replicate (Nn.length - xs.length) S.gone) := by
    unfold L2.start zs
    rw [l, List.zip_append (by simp [l])]
  have p1 : (((List.replicate (Nn.length - xs.length) (none : Option V)).zip (List.replicate (Nn.length - xs.length) S.gone)) ++ ((zs vs xs ++ st) ++ σ.zip ρ)).Perm ((st ++ σ.zip ρ) ++ (start Nn vs).zip (xs ++ List.replicate (Nn.length - xs.length) .gone)) := by
    rw [e]
    generalize (List.replicate (Nn.length - xs.length) (none : Option V)).zip (List.replicate (Nn.length - xs.length) S.gone) = A
    rw [List.append_assoc (zs vs xs) st]
    refine List.perm_append_comm.trans ?_
    rw [List.append_assoc]
    refine List.perm_append_comm.trans ?_
    rw [List.append_assoc]
    exact (List.Perm.append_left _ List.perm_append_comm)
  obtain ⟨f2, r2, q2⟩ := RL.perm p1 fp (RL.gones _ r)
  refine ⟨by unfold L2.start; simp [l], ⟨F, f2, sb, r2, (q2.nodup_iff).mpr n⟩, h.tb, fun j _ => rfl⟩
/-- weaker: some holdings forgotten -/
inductive Wk : Stk → Stk → Prop
  | nil {L : Stk} : Wk L []
  | keep {x : Option V × S} {L L' : Stk} : Wk L L' → Wk (x :: L) (x :: L')
  | gone {x : Option V × S} {o : Option V} {L L' : Stk} : Wk L L' → Wk (x :: L) ((o, .gone) :: L')
  | gone0 {o : Option V} {L' : Stk} : Wk [] L' → Wk [] ((o, .gone) :: L')
theorem RL.wk {F : Hp} {L L' : Stk} (w : Wk L L') : ∀ {fp : List Addr}, RL G F H L fp → ∃ fp', RL G F H L' fp' ∧ fp'.Sublist fp := by
  induction w with
  | nil => exact fun _ => ⟨[], rfl, List.nil_sublist _⟩
  | keep _ ih =>
    rintro fp ⟨a, b, e, q, r⟩
    obtain ⟨b', r', s⟩ := ih r
    exact ⟨a ++ b', ⟨a, b', rfl, q, r'⟩, by rw [e]; exact s.append_left a⟩
  | gone _ ih =>
    rintro fp ⟨a, b, e, q, r⟩
    obtain ⟨b', r', s⟩ := ih r
    exact ⟨b', ⟨[], b', rfl, rfl, r'⟩, by rw [e]; exact s.trans (List.sublist_append_right _ _)⟩
  | gone0 _ ih =>
    intro fp h
    obtain ⟨b', r', s⟩ := ih h
    exact ⟨b', ⟨[], b', rfl, rfl, r'⟩, s⟩
theorem wk_outs {J : List Nat} : ∀ (vs : List V) (j : Nat) (σ1 : L2.St) (ρ1 : List S), σ1.length = ρ1.length → (∀ i, ρ1[i]? = ρ'[j + i]?) → (∀ (i : Nat) v, vs[i]? = some v → j + i ∈ J → σ1[i]? = some (some v)) → Wk (σ1.zip ρ1) (zs vs (outsF J ρ' j vs.length))
  | [], j, _, _, _, _, _ => .nil
  | v :: vs, j, [], [], _, e, k => by
    show Wk [] ((some v, _) :: zs vs (outsF J ρ' (j + 1) vs.length))
    have e0 := e 0
    have hg : (if j ∈ J then ρ'[j]?.getD .gone else .gone) = S.gone := by
      split
      · rw [Nat.add_zero] at e0
        rw [← e0]
        rfl
      · rfl
    rw [hg]
    refine .gone0 (wk_outs vs (j + 1) [] [] rfl (fun i => by have := e (i + 1); simpa [Nat.add_assoc, Nat.add_comm 1] using this) fun i w e1 e2 => ?_)
    have := k (i + 1) w (by simpa using e1) (by rw [Nat.add_comm i 1, ← Nat.add_assoc]; exact e2)
    simp at this
  | v :: vs, j, o :: σ1, s :: ρ1, l, e, k => by
    show Wk ((o, s) :: σ1.zip ρ1) ((some v, _) :: zs vs (outsF J ρ' (j + 1) vs.length))
    have ih := wk_outs (J := J) vs (j + 1) σ1 ρ1 (by simpa using l) (fun i => by have := e (i + 1); simpa [Nat.add_assoc, Nat.add_comm 1] using this) fun i w e1 e2 => by
      have := k (i + 1) w (by simpa using e1) (by rw [Nat.add_comm i 1, ← Nat.add_assoc]; exact e2)
      simpa using this
    have e0 : some s = ρ'[j]? := by simpa using e 0
    by_cases hj : j ∈ J
    · rw [if_pos hj, ← e0]
      have k0 : some o = some (some v) := k 0 v rfl hj
      cases k0
      exact .keep ih
    · rw [if_neg hj]
      exact .gone ih
  | _ :: _, _, [], _ :: _, l, _, _ => by simp at l
  | _ :: _, _, _ :: _, [], l, _, _ => by simp at l
theorem frame_out {vs : List V} {Nn : List Str} {J : List Nat} {A : Stk} (h0 : Hs G N H σ ρ st') (h : Hs G ⟨J, start Nn vs, N.L⟩ H' σ' ρ' (A ++ (st ++ σ.zip ρ))) : Hs G N H' σ ρ (A ++ (zs vs (outsF J ρ' 0 vs.length) ++ st)) := by
  obtain ⟨F, fp, sb, r, n⟩ := h.ex
  have w : Wk (σ'.zip ρ') (zs vs (outsF J ρ' 0 vs.length)) := by
    refine wk_outs vs 0 σ' ρ' h.len (fun i => by rw [Nat.zero_add]) fun i v e1 e2 => ?_
    rw [Nat.zero_add] at e2
    have := h.pin i e2
    rw [this]
    have hi := (List.getElem?_eq_some_iff.mp e1).1
    show (start Nn vs)[i]? = _
    unfold L2.start
    rw [List.getElem?_append_left (by simpa using hi), List.getElem?_map, e1]
    rfl
  obtain ⟨a, b, e, r1, r2⟩ := (RL.app _ _ _).mp r
  obtain ⟨b', r3, s⟩ := RL.wk w r2
  have r4 : RL G F H' (A ++ (st ++ σ.zip ρ) ++ zs vs (outsF J ρ' 0 vs.length)) (a ++ b') := (RL.app _ _ _).mpr ⟨a, b', rfl, r1, r3⟩
  have n4 : (a ++ b').Nodup := by
    rw [e] at n
    exact n.sublist (s.append_left a)
  have p : (A ++ (st ++ σ.zip ρ) ++ zs vs (outsF J ρ' 0 vs.length)).Perm ((A ++ (zs vs (outsF J ρ' 0 vs.length) ++ st)) ++ σ.zip ρ) := by
    generalize zs vs (outsF J ρ' 0 vs.length) = Z
    rw [List.append_assoc, List.append_assoc, List.append_assoc A, List.append_assoc Z]
    refine List.Perm.append_left A ?_
    rw [← List.append_assoc]
    exact List.perm_append_comm
  obtain ⟨f2, r5, q⟩ := RL.perm p _ r4
  exact ⟨h0.len, ⟨F, f2, sb, r5, (q.nodup_iff).mpr n4⟩, h.tb, h0.pin⟩
theorem outs_of {J : List Nat} {np : Nat} {xs : List S} {vs : List V} (l : vs.length = xs.length) (hx : xs.length = np) : outsF J ρ 0 np = outsF J ρ 0 vs.length := by rw [l, hx]
end
end DL
/-! the data layer: stores -/
namespace DL
open PySem PySem.Spec PyProof.Rows L2
/-- what a class of the text must have -/
structure COk (K : PySem.W.Frag) (G : Gx) (c : Nat) : Prop where
  cls : Cls K (G.cl c)
  no : ∀ f ∈ G.fn c, NoAttr K (G.cl c) f
  nd : (G.fn c).Nodup
  few : (G.fn c).length < 1000
theorem putF_set : ∀ {ns : List Str} {vs : List V} {k : Nat} {f : Str} {v : V}, ns.Nodup → ns[k]? = some f → k < vs.length → putF f v (ns.zip vs) = ns.zip (vs.set k v)
  | [], _, _, _, _, _, h, _ => by simp at h
  | n :: ns, [], _, _, _, _, _, h => by simp at h
  | n :: ns, w :: vs, 0, f, v, _, h, _ => by
    have e : n = f := Option.some.inj h
    subst e
    exact if_pos rfl
  | n :: ns, w :: vs, k + 1, f, v, nd, h, l => by
    have h' : ns[k]? = some f := by simpa using h
    have ne : ¬ n = f := fun e => (List.nodup_cons.mp nd).1 (by rw [e]; exact List.mem_of_getElem? h')
    show (if n = f then _ else (n, w) :: putF f v (ns.zip vs)) = (n, w) :: ns.zip (vs.set k v)
    rw [if_neg ne, putF_set (List.nodup_cons.mp nd).2 h' (by simpa using l)]
theorem putF_app : ∀ {ns : List Str} {vs : List V} {f : Str} {v : V}, ns.Nodup → ns[vs.length]? = some f → putF f v (ns.zip vs) = ns.zip (vs ++ [v])
  | [], _, _, _, _, h => by simp at h
  | n :: ns, [], f, v, _, h => by
    have e : n = f := Option.some.inj h
    subst e
    cases ns <;> rfl
  | n :: ns, w :: vs, f, v, nd, h => by
    have h' : ns[vs.length]? = some f := by simpa using h
    have ne : ¬ n = f := fun e => (List.nodup_cons.mp nd).1 (by rw [e]; exact List.mem_of_getElem? h')
    show (if n = f then _ else (n, w) :: putF f v (ns.zip vs)) = (n, w) :: ns.zip (vs ++ [v])
    rw [if_neg ne, putF_app (List.nodup_cons.mp nd).2 h']
theorem zip_take_len {ns : List Str} {vs : List V} (h : vs.length ≤ ns.length) : (ns.zip vs).length = vs.length := by
  rw [List.length_zip]
  omega
/-- the c-th class's k-th field of an owned object is stored -/
def setF (fs : List S) (k : Nat) (s : S) : Option (List S) := if k < fs.length then some (fs.set k s) else if k = fs.length then some (fs ++ [s]) else none
def bFld (i c k : Nat) (f : M S) : B := bdo f fun s ρ => match ρ[i]? with
  | some (.o c' fs) => if c' = c then (match setF fs k s with
    | some fs' => .nx (ρ.set i (.o c fs'))
    | none => .stuck) else .stuck
  | _ => .stuck
section
variable {G : Gx} {N N' : Pn} {X : Cx} {W : WX} {H H' : Hp} {σ σ' : L2.St} {ρ ρ' : List S} {st st' : Stk} {e a b c : Expr} {es rest : List Expr} {f fa fb fc : M S} {t u : M Bool} {as : List Arg} {pos : Pos} {s : Stmt} {ss : List Stmt} {g h : B}
theorem RFl.set {F : Hp} : ∀ {xs : List S} {os : List (Option V)} {fp : List Addr} {k : Nat} {s : S} {o : Option V} {fq : List Addr}, RFl G F H xs os fp → k < xs.length → RF G F H s o fq → ∃ fp' d, RFl G F H (xs.set k s) (os.set k o) fp' ∧ (fp' ++ d).Perm (fp ++ fq)
  | [], _, _, _, _, _, _, _, h, _ => by simp at h
  | x :: xs, _, _, 0, s, o, fq, ⟨o', os', a, b, e1, e2, q1, q2⟩, _, q => by
    subst e1 e2
    refine ⟨fq ++ b, a, ⟨o, os', fq, b, rfl, rfl, q, q2⟩, ?_⟩
    refine List.perm_append_comm.trans ?_
    rw [List.append_assoc]
    exact List.Perm.append_left a List.perm_append_comm
  | x :: xs, _, _, k + 1, s, o, fq, ⟨o', os', a, b, e1, e2, q1, q2⟩, l, q => by
    subst e1 e2
    obtain ⟨fp', d, r, p⟩ := RFl.set q2 (by simpa using l) q
    refine ⟨a ++ fp', d, ⟨o', _, a, fp', rfl, rfl, q1, r⟩, ?_⟩
    rw [List.append_assoc, List.append_assoc]
    exact List.Perm.append_left a p
/-- a field of an owned object stored -/
theorem Hs.setF {c k : Nat} {x : Str} {o : Option V} {y : V} {s : S} {fs fs' : List S} (C : COk X.K G c) (ex : (G.fn c)[k]? = some x) (e : DL.setF fs k s = some fs') (h : Hs G N H σ ρ ((o, .o c fs) :: (some y, s) :: st)) :
    ∃ a dx vs, o = some (.ref a) ∧ H a = some (.ins (G.cl c) dx vs) ∧ vs.length < 1000 ∧ Hs G N (upd H a (.ins (G.cl c) dx (putF x y vs))) σ ρ ((o, .o c fs') :: st) := by
  obtain ⟨F, fp, sb, ⟨a1, b1, ef1, ⟨a, dx, vs, r0, ev, er, e3, e4, lv, q1⟩, a2, b2, ef2, q2, r⟩, n⟩ := h.ex
  subst ef1 ef2 er
  have lf := RFl.len q1
  rw [List.length_map] at lf
  have fin : ∀ (vs' : List V) (fp' d : List Addr), putF x y ((G.fn c).zip vs) = (G.fn c).zip vs' → vs'.length ≤ (G.fn c).length → RFl G F H fs' (vs'.map some) fp' → (fp' ++ d).Perm (r0 ++ a2) → Hs G N (upd H a (.ins (G.cl c) dx (putF x y ((G.fn c).zip vs)))) σ ρ ((o, .o c fs') :: st) := fun vs' fp' d ep lv' q' pp => by
    have n2 : ((a :: (fp' ++ d)) ++ b2).Nodup := by
      have p1 : ((a :: (fp' ++ d)) ++ b2).Perm (a :: r0 ++ (a2 ++ b2)) := by
        have p2 := (pp.cons a).append_right b2
        refine p2.trans ?_
        rw [List.cons_append, List.cons_append, List.append_assoc]
      exact (p1.nodup_iff).mpr n
    have hd := List.nodup_append.mp n2
    have na : ∀ b ∈ fp', b ≠ a := fun b hb z => by
      have := (List.nodup_cons.mp hd.1).1
      exact this (List.mem_append_left _ (by rw [← z]; exact hb))
    have nb : a ∉ b2 := fun hm => hd.2.2 a (by simp) a hm rfl
    have ow := RFl.own _ _ fp' q'
    refine ⟨h.len, ⟨F, (a :: fp') ++ b2, sub_upd sb e4, ⟨a :: fp', b2, rfl, ⟨a, dx, vs', fp', ev, rfl, by rw [upd_same, ep], e4, lv', ?_⟩, RL.keep (Le.refl F) _ b2 r (fr_upd r nb)⟩, ?_⟩, tabs_upd h.tb e3 trivial, h.pin⟩
    · exact RFl.keep (Le.refl F) _ _ fp' q' fun b hb => ⟨upd_ne (na b hb), (ow b hb).1⟩
    · refine n2.sublist ?_
      exact (List.sublist_append_left _ _).cons_cons a |>.append_right b2
  refine ⟨a, dx, _, ev, e3, ?_, ?_⟩
  · rw [zip_take_len lv]
    exact Nat.lt_of_le_of_lt lv C.few
  · unfold DL.setF at e
    split at e
    · rename_i hk
      cases e
      obtain ⟨fp', d, q', pp⟩ := RFl.set q1 hk q2
      have e5 : (vs.map some).set k (some y) = (vs.set k y).map some := by rw [List.map_set]
      rw [e5] at q'
      exact fin (vs.set k y) fp' d (putF_set C.nd ex (by rw [lf]; exact hk)) (by rw [List.length_set]; exact lv) q' pp
    · split at e
      · rename_i hk
        cases e
        subst hk
        have q' := RFl.app q1 q2
        have e5 : vs.map some ++ [some y] = (vs ++ [y]).map some := by simp
        rw [e5] at q'
        refine fin (vs ++ [y]) (r0 ++ a2) [] (putF_app C.nd (by rw [lf]; exact ex)) ?_ q' (by simp)
        rw [List.length_append, lf]
        have := (List.getElem?_eq_some_iff.mp ex).1
        simp
        omega
      · cases e
theorem sx_fld (i c k : Nat) {x y : Str} {p p' : Pos} (hK : X.K = G.K) (C : COk X.K G c) (ex : (G.fn c)[k]? = some x) (he : EX G N X W e f) (hN : X.N[i]? = some y := by rfl) (hv : Vis X.env.scope y := by first | exact Or.inl rfl | exact Or.inr (Or.inl rfl) | exact Or.inr (Or.inr rfl)) (hd : (y == ("__debug__" : Str)) = false := by decide)
    (hcd : (y == ("__classdict__" : Str)) = false := by decide) (hs : swapsWith e (some (.Attribute (.Name y p) x p')) pos.line X.env = pure false := by rfl) : SX G N X W (.Assign [.Attribute (.Name y p) x p'] e pos) (bFld i c k f) := fun σ ρ st H D h pp =>
  sS_of (ps_fld (pe_var hN hv hd hcd) pe_sem hs) (he.bdo h pp fun s ρ1 v H1 h1 p1 => by
    cases ei : ρ1[i]? with
    | none =>
      rw [ei] at p1
      exact p1.elim
    | some s1 =>
      rw [ei] at p1
      cases s1 with
      | o c' fs =>
        simp only at p1
        split at p1
        · rename_i hc
          subst hc
          cases es : DL.setF fs k s with
          | none =>
            rw [es] at p1
            exact p1.elim
          | some fs' =>
            rw [es] at p1
            obtain ⟨o, eo⟩ := h1.get ei
            have h2 := h1.pull ei eo
            obtain ⟨a, dx, vs, ev, e3, hl, h3⟩ := Hs.setF (X := X) C ex es h2
            subst ev
            refine ⟨.ref a, eo, a, _, dx, vs, rfl, e3, C.cls, C.no x (List.mem_of_getElem? ex), hl, ?_⟩
            refine p1 σ _ ?_
            have h4 := h3.put (i := i) (t := .gone) (by simp [(List.getElem?_eq_some_iff.mp ei).1]) eo
            rw [List.set_set] at h4
            exact h4
        · exact p1.elim
      | _ => exact p1.elim)
/-! ### name op= e, ints -/
def bAugI (i : Nat) (op : Int → Int → Int) (f : M S) : B := fun ρ => match ρ[i]? with
  | some (.d (.int n)) => bdo f (fun s => match s with
    | .d (.int m) => bset i (.d (.int (op n m)))
    | _ => fun _ => .stuck) ρ
  | _ => .stuck
/-! ### several names at once -/
def setAll : List Nat → List AV → List S → Option (List S)
  | [], [], ρ => some ρ
  | i :: is, .s x :: r, ρ => if i < ρ.length then setAll is r (ρ.set i x) else none
  | _, _, _ => none
def bPar (is : List Nat) (as : List Arg) : B := bdo (mArgs as) fun avs ρ => match setAll is avs ρ with
  | some ρ' => .nx ρ'
  | none => .stuck
/-! ### o[i] = e -/
def rSet (t : TSet) : L2.St → List V → Hp → VK → Prop := fun _ vs H Q => match vs with
  | [v, o, i] => t o i v H fun H' => Q .non H'
  | _ => False
theorem sx_sub {ts : TSet} {gs : List S → ORes} {o i : Expr} {p : Pos} (hs : PSet X ts) (hg : OpS G N W (rSet ts) gs) (ha : AX G N X W [e, o, i] as)
    (hav : ∀ v, assign (.Subscript o i p) X.env v = (do
      let ov ← holding [v] (eval o X.env)
      let iv ← holding [v, ov] (eval i X.env)
      standAt p
      holding [v, ov, iv] (setItem ov iv v)
      release [v, ov, iv] []) := by intro _; rfl)
    (h1 : swapsWithSole [.Subscript o i p] e pos.line X.env = pure false := by rfl) (hw : swappedStores [.Subscript o i p] e X.env = pure none := by rfl) (h2 : (assignEach [.Subscript o i p] X.env).map (·.2) = [assign (.Subscript o i p) X.env] := by rfl) :
    SX G N X W (.Assign [.Subscript o i p] e pos) (bExp (mOp gs as)) := fun σ ρ st H D h pp => by
  refine sS_of (ps_asg pe_sem (pg_sub pe_sem pe_sem hs hav) h1 hw h2) ?_
  show sAs X [e, o, i] σ H fun vs H1 => rSet ts σ vs H1 fun _ H' => D.nx σ H'
  have key : ∀ avs ρ1 vs H1, AVR σ avs vs → Hs G N H1 σ ρ1 (stkA avs vs ++ st) → fps G N W st D (bdo (mFin gs avs) (fun _ ρ => .nx ρ) ρ1) → rSet ts σ vs H1 fun _ H' => D.nx σ H' := fun avs ρ1 vs H1 r1 h1 p1 => by
    refine fin_ok (r := rSet ts) r1 h1 ?_ hg
    cases hf : mFin gs avs ρ1 with
    | ok s ρ2 =>
      rw [bdo_ok hf] at p1
      exact fun v H2 h2 => p1 σ H2 h2.drop
    | exc c q ρ2 =>
      rw [bdo_exc hf] at p1
      exact fun cls d H2 x h2 => p1 cls d σ H2 x h2
    | stuck =>
      rw [bdo_stuck hf] at p1
      exact p1
  refine ha.bdo (k := fun avs => bdo (mFin gs avs) fun _ ρ => .nx ρ) h ?_ key
  unfold bExp at pp
  cases hm : mArgs as ρ with
  | ok avs ρ1 =>
    rw [bdo_ok hm]
    have e2 : mOp gs as ρ = mFin gs avs ρ1 := mbind_ok hm
    unfold bdo at pp
    rw [e2] at pp
    unfold bdo
    exact pp
  | exc c q ρ1 =>
    have e3 : mOp gs as ρ = .exc c q ρ1 := mbind_exc hm
    rw [bdo_exc e3] at pp
    rw [bdo_exc hm]
    exact pp
  | stuck =>
    have e3 : mOp gs as ρ = .stuck := mbind_stuck hm
    rw [bdo_stuck e3] at pp
    rw [bdo_stuck hm]
    exact pp
end
end DL
/-! the data layer: generator expressions, the frame -/
namespace DL
open PySem PySem.Spec PyProof.Rows L2 GenW
/-- the context of a generator expression's frame ge, over X's -/
def gCx (X : Cx) (A : Around) (Ng : List Str) (s : Shared) (H : Hp) (ge : Env) (fp : List Addr) (pn : List (Addr × Obj)) : Cx where
  prog := X.prog
  w := X.w
  K := X.K
  mg := X.mg
  base := X.base
  A := A
  N := Ng
  s_0 := s
  H_0 := H
  env := ge
  outer := X.stack
  stack := ge :: X.stack
  ex := fp
  fn := fun _ => false
  calm := true
  pn := pn
  xe := fun _ _ => False
/-- the consumer's turn: its own objects at own may change, all else is kept -/
structure Slp (own : List Addr) (s s' : Shared) : Prop where
  os : s'.os = s.os
  bare : AllBare s'.gens
  keep : ∀ b o, b ∉ own → s.heap.get? b = some o → s'.heap.get? b = some o
  own : ∀ b ∈ own, ∃ o, s'.heap.get? b = some o ∧ ∀ v, o.data ≠ .cell v
/-- the pins ps are those of the addresses own -/
def PnOf (own : List Addr) (ps : List (Addr × Obj)) : Prop := (∀ b ∈ own, ∃ o, (b, o) ∈ ps) ∧ ∀ p ∈ ps, p.1 ∈ own
/-- own is out of the frame's reach -/
def OwnOk (X : Cx) (own : List Addr) : Prop := ∀ b ∈ own, (b ∈ X.ex ∨ X.s_0.heap.objs.size ≤ b) ∧ b ≠ X.env.locals ∧ (∀ x c, X.env.cells.lookup x = some c → c ≠ b) ∧ ∀ p ∈ X.pn, p.1 ≠ b
section
variable {X : Cx} {pins ps : List (Addr × Obj)} {σ : L2.St} {H : Hp} {s s' : Shared} {own : List Addr}
theorem Inv.woken (I : Inv X ps σ H s) (hp : PnOf own ps) (hA : OwnOk X own) (z : Slp own s s') : ∃ ps', PnOf own ps' ∧ Inv X ps' σ H s' := by
  have at_ : ∀ b ∈ own, ∃ o, s.heap.get? b = some o ∧ H b = none ∧ b ≠ X.env.locals ∧ b ∉ X.fs := fun b hb => by
    obtain ⟨o, ho⟩ := hp.1 b hb
    obtain ⟨h1, h2, h3, h4, _⟩ := I.pin (b, o) (List.mem_append_right _ ho)
    exact ⟨o, h1, h2, h3, h4⟩
  have I0 : Inv X [] σ H s := I.pins_of fun p hp => by simp at hp
  obtain ⟨hh, g, d, t, o⟩ := s'
  have eo : o = s.os := z.os
  subst eo
  have nt : ∀ b u, H b = some u → b ∉ own := fun b u q hb => by
    obtain ⟨_, _, n, _⟩ := at_ b hb
    rw [n] at q
    cases q
  have J : Inv X [] σ H { s with heap := hh, gens := g, drawn := d, toks := t } := by
    refine I0.step (g' := g) (t' := t) (d' := d) (ch := own) (fun b hb => ?_) (fun b ob _ _ hc q _ => z.keep b ob hc q) (fun b ob _ _ hc q _ => ⟨ob.slots, z.keep b ob hc q⟩) (fun _ _ _ _ n => n)
      (fun b ob hc q => ⟨ob, z.keep b ob hc q⟩) (fun _ _ q => q) (fun _ _ _ q => q) (fun b ps q => ⟨#[], by rw [q]; simp⟩) (fun m hm => ?_) (fun b u q => ?_) z.bare
    · obtain ⟨a1, a2, a3, a4⟩ := hA b hb
      exact ⟨a1, a2, a3, fun p hp => a4 p (by simpa using hp)⟩
    · obtain ⟨ob, es, ep, ho, r⟩ := hm
      exact ⟨ob, es, ep, z.keep _ ob (fun hm => (hA _ hm).2.1 rfl) ho, r⟩
    · refine (I0.hok b u q).stay (fun c v hc y => z.keep c v ?_ y) (fun _ y => y) fun _ _ y => y
      rcases hc with y | y
      · rw [y]
        exact nt b u q
      · exact nt c _ y
  refine ⟨pinsAt own hh, ⟨fun b hb => ?_, fun p hp => (of_pinsAt hp).1⟩, J.pins_of fun p hp => ?_⟩
  · obtain ⟨o, e, _⟩ := z.own b hb
    exact ⟨o, mem_pinsAt hb e⟩
  · obtain ⟨hb, e⟩ := of_pinsAt hp
    obtain ⟨_, _, n, n2, n3⟩ := at_ p.1 hb
    obtain ⟨o, e', d⟩ := z.own p.1 hb
    have e2 : some o = some p.2 := e'.symm.trans e
    cases e2
    exact ⟨e, n, n2, n3, d⟩
theorem FpOk.repin {b : Addr} {ps' : List (Addr × Obj)} (h : FpOk X ps H b) (hp : PnOf own ps) (hp' : PnOf own ps') : FpOk X ps' H b := by
  obtain ⟨h1, h2, h3, h4, h5, h6⟩ := h
  refine ⟨h1, h2, h3, h4, h5, fun p hm => ?_⟩
  rcases List.mem_append.mp hm with z | z
  · exact h6 p (List.mem_append_left _ z)
  · obtain ⟨o, q⟩ := hp.1 _ (hp'.2 p z)
    exact h6 (p.1, o) (List.mem_append_right _ q)
theorem FpOk.nown {b : Addr} (h : FpOk X ps H b) (hp : PnOf own ps) : b ∉ own := fun hb => by
  obtain ⟨o, q⟩ := hp.1 b hb
  exact h.2.2.2.2.2 (b, o) (List.mem_append_right _ q) rfl
end
/-! ### the trace of a walk -/
/-- what is handed out (with the slots behind it) until stp or the end; at the end its slots -/
def trL (stp : S → Bool) (t : Tg) (c : M Bool) (f : M S) : List D → List S → Option (List (S × List S) × Option (List S))
  | [], ρ => some ([], some ρ)
  | x :: xs, ρ => match asgT t (.d x) ρ with
    | none => none
    | some ρ1 => match c ρ1 with
      | .ok false ρ2 => trL stp t c f xs ρ2
      | .ok true ρ2 => match f ρ2 with
        | .ok z ρ3 => if stp z then some ([(z, ρ3)], none) else (trL stp t c f xs ρ3).map fun p => ((z, ρ3) :: p.1, p.2)
        | _ => none
      | _ => none
/-- a value that a consumer may look at -/
def VOk : S → Value → Prop
  | .d (.bl b), v => v = .bool b
  | .d (.int i), v => ∃ t, v = .int i t
  | _, _ => False
def isV : S → Bool
  | .d (.bl _) => true
  | .d (.int _) => true
  | _ => false
/-- the state of the frame, alive -/
def Lv (X : Cx) (G : Gx) (N : Pn) (own : List Addr) (L : Stk) (ρ : List S) (s : Shared) : Prop := ∃ ps σ H, PnOf own ps ∧ Inv X ps σ H s ∧ Hs G N H σ ρ L
/-- .. with the iterator ahead of turn i -/
def Lvi (X : Cx) (G : Gx) (N : Pn) (own : List Addr) (L : Stk) (fp : List Addr) (tn : Nat → Heap → Prop) (i : Nat) (ρ : List S) (s : Shared) : Prop :=
  ∃ ps σ H, PnOf own ps ∧ Inv X ps σ H s ∧ Hs G N H σ ρ L ∧ tn i s.heap ∧ ∀ b ∈ fp, FpOk X ps H b
section
variable {X : Cx} {G : Gx} {N : Pn} {own fp : List Addr} {L : Stk} {tn : Nat → Heap → Prop} {i : Nat} {ρ : List S} {s s' : Shared}
theorem Lvi.lv (h : Lvi X G N own L fp tn i ρ s) : Lv X G N own L ρ s := let ⟨ps, σ, H, a, b, c, _⟩ := h; ⟨ps, σ, H, a, b, c⟩
theorem Lv.woken (h : Lv X G N own L ρ s) (hA : OwnOk X own) (z : Slp own s s') : Lv X G N own L ρ s' := by
  obtain ⟨ps, σ, H, a, I, c⟩ := h
  obtain ⟨ps', a', I'⟩ := Inv.woken I a hA z
  exact ⟨ps', σ, H, a', I', c⟩
theorem Lvi.woken (h : Lvi X G N own L fp tn i ρ s) (hA : OwnOk X own) (z : Slp own s s') (k : ∀ i h h', tn i h → (∀ b ∈ fp, ∀ o, h.get? b = some o → h'.get? b = some o) → tn i h') : Lvi X G N own L fp tn i ρ s' := by
  obtain ⟨ps, σ, H, a, I, c, st, f⟩ := h
  obtain ⟨ps', a', I'⟩ := Inv.woken I a hA z
  exact ⟨ps', σ, H, a', I', c, k _ _ _ st fun b hb o e => z.keep b o (FpOk.nown (f b hb) a) e, fun b hb => FpOk.repin (f b hb) a a'⟩
end
/-! ### the walk -/
/-- the end of the walk: only where the trace tells it -/
def Own0 (own : List Addr) (s₀ s : Shared) : Prop := ∀ b ∈ own, s.heap.get? b = s₀.heap.get? b
def gE (X : Cx) (G : Gx) (N : Pn) (own : List Addr) (L : Stk) (en : Option (List S)) (n : Nat) (s₀ s : Shared) : Prop := n = 0 ∧ Own0 own s₀ s ∧ ∃ ρ, en = some ρ ∧ Lv X G N own L ρ s
def gR (X : Cx) (G : Gx) (N : Pn) (own : List Addr) (L : Stk) (en : Option (List S)) : GenEnd := fun n s₀ r s => r = .ok .next ∧ gE X G N own L en n s₀ s
/-- an item is handed out -/
def gY (X : Cx) (G : Gx) (N : Pn) (own : List Addr) (L : Stk) (tr : List (S × List S)) (en : Option (List S)) : Protocol := fun n s₀ v s kap =>
  Own0 own s₀ s ∧ ∃ x, tr[tr.length - 1 - n]? = some x ∧ n < tr.length ∧ VOk x.1 v ∧ Lv X G N own L x.2 s ∧ ((n ≠ 0 ∨ en ≠ none) → ∀ s', Slp own s s' → kap (.send .none) s')
section
variable {X : Cx} {G : Gx} {N : Pn} {own fp : List Addr} {tn : Nat → Heap → Prop} {elt iter target : Expr} {ifs : List Expr} {scope : Scope} {pos : Pos} {it : Addr} {J : It} {src st : Stk} {items : List D} {stp : S → Bool} {t : Tg} {c : M Bool} {f : M S} {Aw : Around}
  {tr : List (S × List S)} {en : Option (List S)}
theorem Own0.of_pins {X : Cx} {own : List Addr} {s₀ s s' : Shared} {ps : List (Addr × Obj)} {σ σ' : L2.St} {H H' : Hp} (h : Own0 own s₀ s) (hp : PnOf own ps) (I : Inv X ps σ H s) (I' : Inv X ps σ' H' s') : Own0 own s₀ s' := fun b hb => by
  obtain ⟨o, ho⟩ := hp.1 b hb
  have e1 := (I.pin (b, o) (List.mem_append_right _ ho)).1
  have e2 := (I'.pin (b, o) (List.mem_append_right _ ho)).1
  exact (e2.trans e1.symm).trans (h b hb)
theorem vok_of {σ : L2.St} {ρ : List S} {L : Stk} {H : Hp} {z : S} {v : V} {u : Value} (hz : isV z = true) (h : Hs G N H σ ρ ((some v, z) :: L)) (r : RelV v u) : VOk z u := by
  cases z with
  | d x =>
    cases x with
    | bl b =>
      have := h.bl
      subst this
      exact r
    | int i =>
      have := h.int
      subst this
      exact r
    | _ => cases hz
  | _ => cases hz
/-- the loop's code -/
abbrev gLoop (elt target iter : Expr) (ifs : List Expr) (scope : Scope) (pos : Pos) (it : Addr) (ge : Env) : Code := .compLoop (.GeneratorExp elt [⟨target, iter, ifs, 0⟩] scope pos) 0 (.ref it) .none ge
abbrev gStart (elt target iter : Expr) (ifs : List Expr) (scope : Scope) (pos : Pos) (it : Addr) (ge : Env) : Code := .compStart (.GeneratorExp elt [⟨target, iter, ifs, 0⟩] scope pos) 0 (.ref it) .none ge
structure GenOk (X : Cx) (G : Gx) (N : Pn) (own fp : List Addr) (tn : Nat → Heap → Prop) (target : Expr) (it : Addr) (J : It) (src : Stk) (items : List D) : Prop where
  T : Turn X.prog X.w X.K target J fp it tn
  io : IterOk G N.L J src items
  own : OwnOk X own
  calm : X.calm = true
  xe : X.xe = fun _ _ => False
  co : X.env.scope.isCoroutine = false
theorem seg_walk (g : GenOk X G N own fp tn target it J src items) (hover : Aw.over (gLoop elt target iter ifs scope pos it X.env) [] = X.A) (hl : ifs.length ≤ 1)
    (htg : GX G N X target t) (hif : Ifs G N X ifs c) (hel : EX G N X W0 elt f) (hV : ∀ x ∈ tr, isV x.1 = true) :
    ∀ (xs : List D) (i : Nat) (ρ : List S) (tr1 : List (S × List S)) (s₀ s : Shared), items.drop i = xs → i ≤ items.length → trL stp t c f xs ρ = some (tr1, en) → (∃ tr0, tr = tr0 ++ tr1) → Own0 own s₀ s → Lvi X G N own (src ++ st) fp tn i ρ s →
      Seg (model X.prog X.w) Aw (gR X G N own (src ++ st) en) (gY X G N own (src ++ st) tr en) tr1.length s₀ (gLoop elt target iter ifs scope pos it X.env) ((model X.prog X.w).den (gLoop elt target iter ifs scope pos it X.env)) [] s := by
  obtain ⟨Gc, Y, w, k1, k2⟩ := g.io
  have nx : ∀ {α : Type} {t : Sem α} {Q Q' : α → Shared → Prop} {E : Value → Shared → Prop} {s : Shared}, wpAny (model X.prog X.w) X.A t Q X.xe s → (∀ a s, Q a s → Q' a s) → wpAny (model X.prog X.w) X.A t Q' E s := fun h k => by
    rw [g.xe] at h
    exact thnF h k
  intro xs
  induction xs with
  | nil =>
    intro i ρ tr1 s₀ s hd hi he ht hO hL
    simp only [trL, Option.some.injEq, Prod.mk.injEq] at he
    obtain ⟨e1, e2⟩ := he
    subst e1 e2
    have ei : i = items.length := by
      have := congrArg List.length hd
      simp at this
      omega
    subst ei
    obtain ⟨ps, σ, H, hp, I, hs, st1, hf⟩ := hL
    show Seg _ Aw _ _ _ s₀ _ ((compTurn (.GeneratorExp elt [⟨target, iter, ifs, 0⟩] scope pos) 0 (.ref it) .none X.env).onRaise (leaving X.env)) [] s
    rw [compTurn_gen, Sem.onRaise_eq_wrap]
    refine seg_bind_wrap (wpAny_standAt ?_)
    refine seg_bind_wrap ?_
    rw [hover]
    refine thn (g.T.done X rfl rfl rfl g.calm items.length ps s σ H _ I hf st1 (w.stops H (k1 _ _ _ _ _ rfl hs))) fun r s1 ⟨er, I1⟩ => ?_
    subst er
    exact seg_end (.ok .next) ⟨rfl, rfl, hO.of_pins hp I I1, ρ, rfl, ps, σ, H, hp, I1, hs⟩
  | cons x xs ih =>
    intro i ρ tr1 s₀ s hd hi he ht hO hL
    obtain ⟨ps, σ, H, hp, I, hs, st1, hf⟩ := hL
    have hlt : i < items.length := by
      have := congrArg List.length hd
      simp at this
      omega
    have ex : items[i]? = some x := by
      have := congrArg (fun l => l[0]?) hd
      simpa using this
    have hd2 : items.drop (i + 1) = xs := by
      have := congrArg (fun l => l.drop 1) hd
      simpa [List.drop_drop] using this
    unfold trL at he
    cases ea : asgT t (.d x) ρ with
    | none =>
      rw [ea] at he
      cases he
    | some ρ1 =>
    rw [ea] at he
    simp only at he
    show Seg _ Aw _ _ _ s₀ _ ((compTurn (.GeneratorExp elt [⟨target, iter, ifs, 0⟩] scope pos) 0 (.ref it) .none X.env).onRaise (leaving X.env)) [] s
    rw [compTurn_gen, Sem.onRaise_eq_wrap]
    refine seg_bind_wrap (wpAny_standAt ?_)
    refine seg_bind_wrap ?_
    rw [hover]
    refine thn (g.T.item X rfl rfl rfl g.calm i ps s σ H _ I hf st1 (w.goes i H hlt (k1 _ _ _ _ _ rfl hs))) fun r s1 ⟨u, er, h1⟩ => ?_
    subst er
    show Seg _ Aw _ _ _ s₀ _ ((letOwnedTupleGo target (.ref it) u >>= _).wrap _ _ _ _) [] s1
    refine seg_bind_wrap ?_
    rw [hover]
    refine thn h1 fun _ s2 ⟨xv, H2, I2, r2, y2, st2, fr2⟩ => ?_
    obtain ⟨d, ed, hs2⟩ := k2 N σ ρ st i xv H H2 rfl hlt hs (w.yields i H xv H2 hlt (k1 _ _ _ _ _ rfl hs) y2)
    rw [ex] at ed
    cases ed
    have hf2 : ∀ b ∈ fp, FpOk X ps H2 b := fun b hb => ⟨fr2 b hb, (hf b hb).2⟩
    have I2' := I2.pinned hf2 (g.T.obj _ _ st2)
    have back : ∀ {σ3 : L2.St} {H3 : Hp} {s3 : Shared}, Inv X (ps ++ pinsAt fp s2.heap) σ3 H3 s3 → Inv X ps σ3 H3 s3 ∧ tn (i + 1) s3.heap ∧ ∀ b ∈ fp, FpOk X ps H3 b := fun {σ3 H3 s3} I3 => by
      refine ⟨I3.unpinned, g.T.keep _ _ _ st2 fun b hb o e => (I3.pin (b, o) (List.mem_append_right _ (List.mem_append_right _ (mem_pinsAt hb e)))).1, fun b hb => ?_⟩
      obtain ⟨o, e, _⟩ := g.T.obj _ _ st2 b hb
      exact ⟨(I3.pin (b, o) (List.mem_append_right _ (List.mem_append_right _ (mem_pinsAt hb e)))).2.1, (hf b hb).2⟩
    refine seg_bind_wrap ?_
    rw [hover]
    refine nx (htg σ ρ ρ1 (src ++ st) H2 xv (.d x) (fun σ3 H3 => Hs G N H3 σ3 ρ1 (src ++ st)) hs2 ea (fun σ3 H3 h3 => h3) _ s2 u I2' r2) fun _ s3 ⟨σ3, H3, I3, hs3⟩ => ?_
    refine seg_bind_wrap ?_
    rw [hover]
    cases ec : c ρ1 with
    | exc a b r =>
      rw [ec] at he
      cases he
    | stuck =>
      rw [ec] at he
      cases he
    | ok b ρ2 =>
    rw [ec] at he
    refine nx ((pts_sem hl).run _ s3 σ3 H3 (fun b' H4 => b' = b ∧ Hs G N H4 σ3 ρ2 (src ++ st)) I3 (ifs_run hif hs3 ec fun H4 h4 => ⟨rfl, h4⟩)) fun b' s4 ⟨H4, I4, eb, hs4⟩ => ?_
    subst eb
    cases b' with
    | false =>
      simp only [Bool.false_eq_true, if_false]
      obtain ⟨J4, st4, f4⟩ := back I4
      exact seg_again rfl (ih (i + 1) ρ2 tr1 s₀ s4 hd2 hlt he ht (hO.of_pins hp I J4) ⟨ps, σ3, H4, hp, J4, hs4, st4, f4⟩)
    | true =>
      simp only [if_true]
      simp only at he
      cases ef : f ρ2 with
      | exc a b r =>
        rw [ef] at he
        cases he
      | stuck =>
        rw [ef] at he
        cases he
      | ok z ρ3 =>
      rw [ef] at he
      simp only at he
      have hy : ∀ v, yieldOut X.env v = yieldValue v := fun v => by simp only [yieldOut, g.co, Bool.false_eq_true, if_false]
      simp only [hy]
      rw [Sem.bind_eq_wrap', Sem.bind_eq_wrap', Sem.wrap_wrap, Sem.wrap_wrap]
      refine seg_wrap ?_
      rw [hover]
      have hE := hel σ3 ρ2 (src ++ st) H4 (fun v H5 => Hs G N H5 σ3 ρ3 ((some v, z) :: (src ++ st))) hs4 (by
        rw [ef]
        exact fun v H' h' => h')
      refine nx (hE _ s4 I4) fun y s5 ⟨v5, H5, I5, r5, hs5⟩ => ?_
      obtain ⟨J5, st5, f5⟩ := back I5
      have hL5 : Lvi X G N own (src ++ st) fp tn (i + 1) ρ3 s5 := ⟨ps, σ3, H5, hp, J5, hs5.drop, st5, f5⟩
      obtain ⟨tr0, et⟩ := ht
      have ml : ∀ {tr2 : List (S × List S)}, tr1 = (z, ρ3) :: tr2 → tr[tr.length - 1 - tr2.length]? = some (z, ρ3) ∧ tr2.length < tr.length := fun {tr2} e1 => by
        rw [et, e1, List.length_append, List.length_cons]
        have : tr0.length + (tr2.length + 1) - 1 - tr2.length = tr0.length := by omega
        rw [this, List.getElem?_append_right (Nat.le_refl _), Nat.sub_self]
        exact ⟨rfl, by omega⟩
      by_cases hz : stp z = true
      · rw [if_pos hz] at he
        cases he
        obtain ⟨m1, m2⟩ := ml rfl
        exact seg_at (seg_yield rfl rfl rfl ⟨hO.of_pins hp I J5, (z, ρ3), m1, m2, vok_of (hV _ (List.mem_of_getElem? m1)) hs5 r5, hL5.lv, fun hn => by
          rcases hn with q | q
          · exact absurd rfl q
          · exact absurd rfl q⟩)
      · rw [if_neg hz] at he
        simp only [Option.map_eq_some_iff] at he
        obtain ⟨q, e1, e2⟩ := he
        cases e2
        obtain ⟨m1, m2⟩ := ml rfl
        rw [List.length_cons]
        refine seg_at (seg_yield rfl rfl rfl ⟨hO.of_pins hp I J5, (z, ρ3), m1, m2, vok_of (hV _ (List.mem_of_getElem? m1)) hs5 r5, hL5.lv, fun hn s' z' => ?_⟩)
        exact seg_again rfl (ih (i + 1) ρ3 q.1 s' s' hd2 hlt e1 ⟨tr0 ++ [(z, ρ3)], by rw [et]; simp⟩ (fun _ _ => rfl) (hL5.woken g.own z' g.T.keep))
theorem seg_begin (g : GenOk X G N own fp tn target it J src items) (hover : Aw.over (gLoop elt target iter ifs scope pos it X.env) [] = X.A) (hl : ifs.length ≤ 1)
    (htg : GX G N X target t) (hif : Ifs G N X ifs c) (hel : EX G N X W0 elt f) (hV : ∀ x ∈ tr, isV x.1 = true) {ρ : List S} {s : Shared} (he : trL stp t c f items ρ = some (tr, en)) (hL : Lvi X G N own (src ++ st) fp tn 0 ρ s) :
      Seg (model X.prog X.w) Aw (gR X G N own (src ++ st) en) (gY X G N own (src ++ st) tr en) tr.length s (gStart elt target iter ifs scope pos it X.env) ((model X.prog X.w).den (gStart elt target iter ifs scope pos it X.env)) [] s := by
  have loop := seg_walk (iter := iter) (scope := scope) (pos := pos) g hover hl htg hif hel hV items 0 ρ tr s s rfl (Nat.zero_le _) he ⟨[], rfl⟩ (fun _ _ => rfl) hL
  show Seg _ Aw _ _ _ s _ ((compStart (.GeneratorExp elt [⟨target, iter, ifs, 0⟩] scope pos) 0 (.ref it) .none X.env).onRaise (leaving X.env)) [] s
  unfold compStart
  rw [Sem.onRaise_eq_wrap]
  show Seg _ Aw _ _ _ s _ ((ask >>= _).wrap _ _ _ _) [] s
  refine seg_bind_wrap (wpAny_askSetting ?_)
  obtain ⟨ps, σ, H, hp, I, hs, st1, hf⟩ := hL
  split
  · exact seg_again rfl loop
  · first
      | exact seg_bind_wrap (wpAny_rule (seg_bind_wrap (wpAny_standAt (seg_bind_wrap (g.T.self _ 0 s _ _ st1 (seg_again rfl loop))))))
      | (refine seg_bind_wrap (wpAny_rule ?_)
         show Seg _ Aw _ _ _ s _ ((standAt iter.pos >>= _).wrap _ _ _ _) [] s
         exact seg_bind_wrap (wpAny_standAt (seg_bind_wrap (g.T.self _ 0 s _ _ st1 (seg_again rfl loop)))))
/-! ### the generator, seen from its consumer -/
/-- j items are out -/
def gSt (X : Cx) (G : Gx) (N : Pn) (own : List Addr) (L : Stk) (tr : List (S × List S)) (en : Option (List S)) (A : Around) (n : Nat) (j : Nat) (s : Shared) : Prop :=
  AllBare s.gens ∧ (∀ x, j ≠ 0 → tr[j - 1]? = some x → Lv X G N own L x.2 s) ∧ s.heap.NoLimit ∧ ∃ gs, s.gens[n]? = some gs ∧ ((j < tr.length ∨ en ≠ none) → ∀ s', Slp own s s' → gs.Goes (model X.prog X.w) A.in1 (gR X G N own L en) (gY X G N own L tr en) (tr.length - j) (.send .none) s')
theorem Lv.bare {L : Stk} {ρ : List S} {s : Shared} (h : Lv X G N own L ρ s) : AllBare s.gens := let ⟨_, _, _, _, I, _⟩ := h; I.bare
theorem Lv.nolimit {L : Stk} {ρ : List S} {s : Shared} (h : Lv X G N own L ρ s) : s.heap.NoLimit := let ⟨_, _, _, _, I, _⟩ := h; I.nolimit
theorem Slp.of {L : Stk} {ρ : List S} {s s' : Shared} (h : Lv X G N own L ρ s) (ho : s'.os = s.os) (hb : AllBare s'.gens) (hk : ∀ b o, s.heap.get? b = some o → s'.heap.get? b = some o) : Slp own s s' := by
  obtain ⟨ps, σ, H, hp, I, _⟩ := h
  refine ⟨ho, hb, fun b o _ e => hk b o e, fun b hb => ?_⟩
  obtain ⟨o, q⟩ := hp.1 b hb
  obtain ⟨e, _, _, _, d⟩ := I.pin (b, o) (List.mem_append_right _ q)
  exact ⟨o, hk _ _ e, d⟩
theorem gen_item {A : Around} {L : Stk} {a : Addr} {n j : Nat} {s : Shared} {Q : Option Value → Shared → Prop} {E : Value → Shared → Prop} {x : S × List S} (hA : OwnOk X own) (hh : A.handled = none) (hroom : A.depth < recursionLimit) (hg : s.heap.IsGen a n) (hj : tr[j]? = some x)
    (h : gSt X G N own L tr en A n j s) (hown : ∀ b ∈ own, ∃ o, s.heap.get? b = some o ∧ ∀ v, o.data ≠ .cell v)
    (hQ : ∀ v s', VOk x.1 v → gSt X G N own L tr en A n (j + 1) s' → Own0 own s s' → Q (some v) s') : wpAny (model X.prog X.w) A (pyNext (.ref a)) Q E s := by
  obtain ⟨hb, _, hl, gs, hgs, hgo⟩ := h
  have hlt : j < tr.length := (List.getElem?_eq_some_iff.mp hj).1
  have hn : n < s.gens.size := (Array.getElem?_eq_some_iff.mp hgs).1
  obtain ⟨m, hm⟩ : ∃ m, tr.length - j = m + 1 := ⟨tr.length - j - 1, by omega⟩
  have go0 := hgo (.inl hlt) (s.setGen n .running) ⟨rfl, allBare_setGen hb rfl, fun _ _ _ e => e, hown⟩
  rw [hm] at go0
  refine wpAny_gsz (n := n + 1) hn ?_
  refine wpAny_pyNext_genexpQ (P := fun k s₀ s₁ => gE X G N own L en k s₀ s₁) hh hl hroom hg hgs go0 (fun v s₁ gs' hbr hv hsz => ?_) (fun s₁ hp h' hk hsz => ?_)
  · obtain ⟨hO, y, hy, hlt2, hv2, hL, hkap⟩ := hv
    have ej : tr.length - 1 - (m + 1 - 1) = j := by omega
    rw [ej, hj] at hy
    cases hy
    have hn1 : n < s₁.gens.size := by
      have : (s₁.setGen n gs').gens.size = s₁.gens.size := setGen_size s₁ n gs'
      omega
    have z : Slp own s₁ (s₁.setGen n gs') := Slp.of hL rfl (allBare_setGen hL.bare hbr) fun _ _ e => e
    refine hQ v _ hv2 ⟨allBare_setGen hL.bare hbr, fun y _ hy => ?_, hL.nolimit, gs', setGen_at hn1, fun hor s' z' => ?_⟩ hO
    · rw [Nat.add_sub_cancel, hj] at hy
      cases hy
      exact hL.woken hA z
    · have e2 : tr.length - (j + 1) = m := by omega
      rw [e2]
      refine hkap ?_ s' ⟨z'.os, z'.bare, z'.keep, z'.own⟩
      rcases hor with q | q
      · exact .inl (by omega)
      · exact .inr q
  · exact absurd hp.1 (Nat.succ_ne_zero m)
theorem gen_done {A : Around} {L : Stk} {a : Addr} {n : Nat} {s : Shared} {Q : Option Value → Shared → Prop} {E : Value → Shared → Prop} {ρ : List S} (hA : OwnOk X own) (hh : A.handled = none) (hroom : A.depth < recursionLimit) (hg : s.heap.IsGen a n)
    (h : gSt X G N own L tr (some ρ) A n tr.length s) (hown : ∀ b ∈ own, ∃ o, s.heap.get? b = some o ∧ ∀ v, o.data ≠ .cell v)
    (hQ : ∀ s', Lv X G N own L ρ s' → Q none s') : wpAny (model X.prog X.w) A (pyNext (.ref a)) Q E s := by
  obtain ⟨hb, _, hl, gs, hgs, hgo⟩ := h
  have go0 := hgo (.inr (by simp)) (s.setGen n .running) ⟨rfl, allBare_setGen hb rfl, fun _ _ _ e => e, hown⟩
  rw [Nat.sub_self] at go0
  refine wpAny_pyNext_genexpQ (P := fun k s₀ s₁ => gE X G N own L (some ρ) k s₀ s₁) hh hl hroom hg hgs go0 (fun v s₁ gs' hbr hv => ?_) (fun s₁ hp h' hk => ?_)
  · obtain ⟨_, y, _, hlt2, _, _, hkap⟩ := hv
    exact (hkap (.inr (by simp)) s₁ (Slp.of ‹_› rfl (Lv.bare ‹_›) fun _ _ e => e)).elim
  · obtain ⟨_, _, ρ', e, hL⟩ := hp
    cases e
    exact hQ _ (hL.woken hA (Slp.of hL rfl (allBare_setGen hL.bare rfl) hk))
end
end DL
/-! the data layer: generator expressions, made and consumed -/
namespace DL
open PySem PySem.Spec PyProof.Rows L2 GenW
def endR (tr : List (S × List S)) (en : Option (List S)) : Option (List S) := match en with
  | some ρ => some ρ
  | none => tr.getLast?.map (·.2)
section
variable {X : Cx} {G : Gx} {N : Pn} {L : Stk} {tr : List (S × List S)} {en : Option (List S)} {A : Around} {a : Addr} {n : Nat} {R : Result → Shared → Prop}
theorem ownOk0 : OwnOk X [] := fun b hb => by simp at hb
theorem own0 {s : Shared} : ∀ b ∈ ([] : List Addr), ∃ o, s.heap.get? b = some o ∧ ∀ v, o.data ≠ .cell v := fun b hb => by simp at hb
/-- what any or all sees: qv ends the walk -/
def Quits (qv : Bool) (tr : List (S × List S)) (en : Option (List S)) : Prop := (en = none → tr ≠ []) ∧ ∀ (j : Nat) (x : S × List S), tr[j]? = some x → x.1 = .d (.bl (if en.isNone && j + 1 == tr.length then qv else !qv))
theorem any_walk (hh : A.handled = none) (hroom : A.in1.depth < recursionLimit) (hG : ∀ ρ s, Lv X G N [] L ρ s → s.heap.IsGen a n) (hq : Quits true tr en) : ∀ (k j : Nat) (s : Shared), tr.length - j = k → j ≤ tr.length → (en = none → j < tr.length) → s.heap.IsGen a n → gSt X G N [] L tr en A.in1 n j s →
    (∀ s' ρ, endR tr en = some ρ → Lv X G N [] L ρ s' → R (.ok (.ret (.bool en.isNone))) s') → codeAny (model X.prog X.w) A (.builtin "any.loop" ⟨[.ref a], []⟩) R s := by
  intro k
  induction k with
  | zero =>
    intro j s hk hj hen hg hst hR
    have hjn : j = tr.length := by omega
    subst hjn
    cases en with
    | none => exact absurd (hen rfl) (Nat.lt_irrefl _)
    | some ρ =>
      refine codeAny_builtin F.entry_any_loop ?_
      rw [Around.under_plainId F.plain_any_loop _]
      show wpAny _ A.in1 (pyNext (.ref a) >>= _) _ _ s
      refine wpAny_bind (gen_done ownOk0 hh hroom hg hst own0 fun s' hL => ?_)
      exact wpAny_bind (wpAny_rule (wpAny_pure (hR s' ρ rfl hL)))
  | succ k ih =>
    intro j s hk hj hen hg hst hR
    have hlt : j < tr.length := by omega
    have ex : tr[j]? = some tr[j] := List.getElem?_eq_getElem hlt
    refine codeAny_builtin F.entry_any_loop ?_
    rw [Around.under_plainId F.plain_any_loop _]
    show wpAny _ A.in1 (pyNext (.ref a) >>= _) _ _ s
    refine wpAny_bind (gen_item ownOk0 hh hroom hg ex hst own0 fun v s' hv hst' _ => ?_)
    have hL := hst'.2.1 _ (Nat.succ_ne_zero j) ex
    have hb := hq.2 j _ ex
    rw [hb] at hv
    have ev : v = Value.bool (if en.isNone && j + 1 == tr.length then true else !true) := hv
    subst ev
    refine wpAny_bind (wpAny_holding (wpAny_truthy_bool ?_))
    refine wpAny_bind (wpAny_letGo ?_)
    by_cases hc : (en.isNone && j + 1 == tr.length) = true
    · rw [if_pos hc]
      simp only [if_true]
      refine wpAny_bind (wpAny_rule (wpAny_pure ?_))
      simp only [Bool.and_eq_true, beq_iff_eq] at hc
      have e0 : en = none := Option.isNone_iff_eq_none.mp hc.1
      have := hR s' tr[j].2 (by
        subst e0
        show tr.getLast?.map (·.2) = _
        rw [List.getLast?_eq_getElem?, show tr.length - 1 = j by omega, ex]
        rfl) hL
      rw [hc.1] at this
      exact this
    · rw [if_neg hc]
      simp only [Bool.not_true, Bool.false_eq_true, if_false]
      refine wpAny_pure ⟨plainId_quiet F.plain_any_loop _, ih (j + 1) s' (by omega) hlt (fun e0 => ?_) (hG _ _ hL) hst' hR⟩
      subst e0
      simp only [Option.isNone_none, Bool.true_and, beq_iff_eq] at hc
      omega
end
end DL
/-! the data layer: generator expressions, made -/
namespace DL
open PySem PySem.Spec PyProof.Rows L2 GenW
/-- the generator's own scope: captured names are the def's cells -/
structure GSc (sc scope : Scope) : Prop where
  kind : scope.kind = .function
  co : scope.isCoroutine = false
  cell : ∀ y ∈ scope.names, y.2 ≠ .cell
  dot : scope.names.lookup (".0" : Str) = some NameKind.local
  free : ∀ y ∈ scope.names, y.2 = .free → sc.names.lookup y.1 = some .cell ∨ sc.names.lookup y.1 = some .free
def gscB (sc scope : Scope) : Bool :=
  decide (scope.kind = .function) && !scope.isCoroutine && decide (scope.names.lookup (".0" : Str) = some NameKind.local) && scope.names.all fun y => !decide (y.2 = .cell) && (!decide (y.2 = .free) || decide (sc.names.lookup y.1 = some .cell) || decide (sc.names.lookup y.1 = some .free))
theorem gsc_by {sc scope : Scope} (h : gscB sc scope = true) : GSc sc scope := by
  unfold gscB at h
  simp only [Bool.and_eq_true, Bool.or_eq_true, Bool.not_eq_true', decide_eq_true_eq, decide_eq_false_iff_not, List.all_eq_true] at h
  obtain ⟨⟨⟨h1, h2⟩, h3⟩, h4⟩ := h
  refine ⟨h1, h2, fun y hy => (h4 y hy).1, h3, fun y hy e => ?_⟩
  rcases (h4 y hy).2 with (z | z) | z
  · exact absurd e z
  · exact .inl z
  · exact .inr z
/-- the names: the generator's own m ones, then the def's (the ones it does not see under any other name) -/
def gnB (scope : Scope) : List Str → List Str → Bool
  | [], [] => true
  | y :: ys, x :: xs => (decide (scope.names.lookup y = none) || decide (scope.names.lookup y = some .globalImplicit) || decide (scope.names.lookup y = some .globalExplicit) || (decide (scope.names.lookup y = some .free) && decide (y = x))) && gnB scope ys xs
  | _, _ => false
theorem gnB_len {scope : Scope} : ∀ {ys xs : List Str}, gnB scope ys xs = true → ys.length = xs.length
  | [], [], _ => rfl
  | y :: ys, x :: xs, h => by
    simp only [gnB, Bool.and_eq_true] at h
    simp [gnB_len h.2]
  | [], _ :: _, h => by simp [gnB] at h
  | _ :: _, [], h => by simp [gnB] at h
theorem gnB_at {scope : Scope} : ∀ {ys xs : List Str} {i : Nat} {y : Str}, gnB scope ys xs = true → ys[i]? = some y → Vis scope y → xs[i]? = some y ∧ scope.names.lookup y = some .free
  | y :: ys, x :: xs, 0, z, h, e, v => by
    simp only [List.getElem?_cons_zero, Option.some.injEq] at e
    subst e
    simp only [gnB, Bool.and_eq_true, Bool.or_eq_true, decide_eq_true_eq] at h
    rcases h.1 with ((q | q) | q) | q
    · rcases v with v | v | v <;> rw [q] at v <;> cases v
    · rcases v with v | v | v <;> rw [q] at v <;> cases v
    · rcases v with v | v | v <;> rw [q] at v <;> cases v
    · exact ⟨by rw [q.2]; rfl, q.1⟩
  | y :: ys, x :: xs, i + 1, z, h, e, v => by
    simp only [gnB, Bool.and_eq_true] at h
    exact gnB_at (i := i) h.2 e v
  | [], _, _, _, _, e, _ => by simp at e
  | _ :: _, [], _, _, h, _, _ => by simp [gnB] at h
section
variable {X : Cx} {G : Gx} {N : Pn} {own fp : List Addr} {tn : Nat → Heap → Prop} {elt iter target : Expr} {ifs : List Expr} {scope : Scope} {pos : Pos} {it : Addr} {J : It} {src st : Stk} {items : List D} {stp : S → Bool} {t : Tg} {c : M Bool} {f : M S}
  {tr : List (S × List S)} {en : Option (List S)} {pins : List (Addr × Obj)} {σ : L2.St} {H : Hp} {s : Shared} {m : Nat} {Ng : List Str}
/-- the around of the generator's frame, told from the def's around -/
abbrev gA (X : Cx) (elt target iter : Expr) (ifs : List Expr) (scope : Scope) (pos : Pos) (it : Addr) (ge : Env) : Around := X.A.in1.in1.over (gLoop elt target iter ifs scope pos it ge) []
theorem gA_hd {ge : Env} (h : X.A.handled = none) : (gA X elt target iter ifs scope pos it ge).handled = none := by
  show X.A.handled = none
  exact h
theorem gA_frames {ge : Env} (h : X.A.frames = some X.stack) : (gA X elt target iter ifs scope pos it ge).frames = some (ge :: X.stack) := by
  show pushEnvs (gLoop elt target iter ifs scope pos it ge).envs (pushEnvs (envsOf (([] : List Frame).map Frame.where_)) X.A.frames) = _
  rw [h]
  rfl
theorem gA_room {ge : Env} {k : Nat} (h : Room (k + 1) X.A) : Room k (gA X elt target iter ifs scope pos it ge) := by
  refine ⟨gA_hd h.hd, ?_, ?_⟩
  · have := h.dp
    show X.A.depth + 0 + 1 + 3 * k + 5 < _
    omega
  · have := h.un
    have e : (gA X elt target iter ifs scope pos it ge).units = X.A.units + 5 := rfl
    rw [e]
    omega
theorem cl_mem {y : Str} {b : Addr} (ok : X.Ok) (S : GSc X.env.scope scope) (e : (cloFrom X.env.cells scope.names []).lookup y = some b) : X.env.cells.lookup y = some b := by
  rcases cloFrom_mem (PySem.mem_of_lookup e) with hm | ⟨h1, h2⟩
  · cases hm
  · obtain ⟨c1, hc⟩ := ok.has _ (S.free _ h1 rfl)
    rw [h2, hc]
    rfl
theorem cl_has {y : Str} (h : scope.names.lookup y = some .free) : ∃ b, (cloFrom X.env.cells scope.names []).lookup y = some b := mem_lookup (cloFrom_has (cells := X.env.cells) (acc := []) (PySem.mem_of_lookup h))
/-- the generator's frame, when it is made -/
theorem g_start {code : Value} {go : Obj} {a : Addr} {A : Around} {h5 : Heap} {tk : Nat} {g5 : Array GenState} {itv : Option Value} (I : Inv X pins σ H s) (S : GSc X.env.scope scope) (hA : A.handled = none) (hF : A.frames = some (genEnv scope (cloFrom X.env.cells scope.names []) s.heap.objs.size code builtinsNs X.env :: X.stack))
    (hfp : ∀ b ∈ fp, FpOk X pins H b ∧ ∃ o, s.heap.get? b = some o) (hgn : gnB scope (Ng.drop m) X.N = true) (hm : m ≤ Ng.length) (kp : ∀ b o, s.heap.get? b = some o → h5.get? b = some o) (hns : h5.Ns s.heap.objs.size fun y => if y = ".0" then itv else none) (ha : h5.get? a = some go) (hal : s.heap.objs.size < a) (hgo : ∀ v, go.data ≠ .cell v) (hb : AllBare g5) :
    Inv (gCx X A Ng s H (genEnv scope (cloFrom X.env.cells scope.names []) s.heap.objs.size code builtinsNs X.env) fp [(a, go)]) [] (List.replicate m none ++ σ) H { s with heap := h5, gens := g5, toks := tk } := by
  have cm := fun {y b} e => cl_mem (y := y) (b := b) I.ok S e
  have cellK : ∀ {c : Addr} {v : Option Value}, s.heap.IsCell c v → h5.IsCell c v := fun {c v} ⟨o, ho, hd⟩ => ⟨o, kp _ _ ho, hd⟩
  have lN := gnB_len hgn
  refine ⟨⟨I.mod, S.kind, I.ok.glob, rfl, Nat.le_refl _, fun y z c e1 e2 => I.ok.inj y z c (cm e1) (cm e2), fun y hy => ?_, fun y c z _ => ?_, fun _ => hA, hF, .inr ⟨rfl, rfl⟩, fun b hb => ⟨?_, fun x c e => ?_⟩, I.bs, Nat.le_trans I.ok.bsz I.sz, fun b o e hb => ?_, fun b hb hm => ?_, I.stack, I.stkFree⟩,
    rfl, hb, Un.kept kp, ⟨_, hns, fun i y v e1 e2 e3 => ?_⟩, fun y c e => ?_, I.hok.fresh (Nat.le_refl _), fun y c e => I.freeC y c (cm e), fun q hq => ?_, I.hok.kept kp, ?_⟩
  · have hy : scope.names.lookup y = some .cell ∨ scope.names.lookup y = some .free := hy
    rcases hy with hy | hy
    · exact absurd rfl (S.cell _ (PySem.mem_of_lookup hy))
    · exact cl_has hy
  · have z : false = true := z
    cases z
  · obtain ⟨_, o, e⟩ := hfp b hb
    exact Nat.ne_of_lt (Heap.lt_size e)
  · exact (hfp b hb).1.2.2.2.2.1 x c (cm e)
  · have hb : b ∈ fp := hb
    rcases (hfp b hb).1.2.2.2.1 with z | z
    · exact I.ok.noex b o e z
    · exact absurd (Nat.lt_of_lt_of_le (Heap.lt_size e) (Nat.le_trans I.ok.bsz z)) (Nat.lt_irrefl _)
  · have hb : b ∈ fp := hb
    rcases List.mem_cons.mp (I.stkSub b hm) with z | z
    · exact (hfp b hb).1.2.1 z
    · exact (hfp b hb).1.2.2.1 z
  · have e1 : Ng[i]? = some y := e1
    have e3 : Vis scope y := e3
    by_cases hi : i < m
    · rw [List.getElem?_append_left (by simpa using hi), List.getElem?_replicate, if_pos hi] at e2
      cases e2
    · rw [List.getElem?_append_right (by simpa using Nat.le_of_not_lt hi), List.length_replicate] at e2
      have e4 : (Ng.drop m)[i - m]? = some y := by
        rw [List.getElem?_drop, show m + (i - m) = i by omega]
        exact e1
      obtain ⟨e5, e6⟩ := gnB_at hgn e4 e3
      have hvis : Vis X.env.scope y := (S.free _ (PySem.mem_of_lookup e6) rfl).elim (fun k => .inr (.inl k)) (fun k => .inr (.inr k))
      obtain ⟨mm, hn, hl⟩ := I.loc
      obtain ⟨w', r, q⟩ := hl (i - m) y v e5 e2 hvis
      obtain ⟨c2, h2⟩ := cl_has (X := X) e6
      refine ⟨w', r, .inr ⟨.inr e6, c2, h2, ?_⟩⟩
      have c1 := cm h2
      rcases q with ⟨k', _⟩ | ⟨_, c3, e', z⟩
      · have k' : X.env.scope.names.lookup y = some .local := k'
        rcases S.free _ (PySem.mem_of_lookup e6) rfl with k2 | k2 <;> rw [show X.env.scope.names.lookup y = _ from k2] at k' <;> cases k'
      · rw [c1] at e'
        cases e'
        exact cellK z
  · obtain ⟨w', z⟩ := I.cell y c (cm e)
    exact ⟨w', cellK z⟩
  · have hq : q = (a, go) := by
      have : q ∈ [(a, go)] ++ ([] : List (Addr × Obj)) := hq
      simpa using this
    subst hq
    exact ⟨ha, I.hok.fresh (Nat.le_of_lt hal), Nat.ne_of_gt hal, fun hm => by
      rcases List.mem_cons.mp (I.stkSub a hm) with z | z
      · have := I.lt
        rw [← z] at this
        exact absurd (Nat.lt_trans this hal) (Nat.lt_irrefl _)
      · exact I.nofs (Nat.le_of_lt hal) z, hgo⟩
  · show (List.replicate m none ++ σ).length = Ng.length
    rw [List.length_append, List.length_replicate, I.len, ← lN, List.length_drop]
    omega
/-- the pins of the generator's frame -/
def gPin (m : Nat) (σ : L2.St) (L : List (Addr × Obj × HO)) : Pn := ⟨(List.range σ.length).map (m + ·), List.replicate m none ++ σ, L⟩
theorem gPin_ge {j : Nat} (h : j ∈ (gPin m σ N.L).J) : m ≤ j := by
  obtain ⟨i, _, e⟩ := List.mem_map.mp h
  omega
theorem Hs.genIn {L : Stk} {ρ : List S} (h : Hs G N H σ ρ L) : Hs G (gPin m σ N.L) H (List.replicate m none ++ σ) (List.replicate m .gone ++ ρ) L := by
  obtain ⟨F, fp, sb, r, n⟩ := h.ex
  refine ⟨by simp [h.len], ⟨F, fp, sb, ?_, n⟩, h.tb, fun j _ => rfl⟩
  rw [List.zip_append (by simp)]
  obtain ⟨a, b, e, r1, r2⟩ := (RL.app _ _ _).mp r
  exact (RL.app _ _ _).mpr ⟨a, b, e, r1, RL.gones m r2⟩
theorem Hs.genOut {L : Stk} {ρ ρ' : List S} {H' : Hp} {σ' : L2.St} {L' : Stk} (h0 : Hs G N H σ ρ L') (h : Hs G (gPin m σ N.L) H' σ' ρ' L) (hl : σ'.length = m + σ.length) : Hs G N H' σ (ρ'.drop m) L := by
  obtain ⟨F, fp, sb, r, n⟩ := h.ex
  have e1 : σ'.drop m = σ := by
    apply List.ext_getElem?
    intro i
    rw [List.getElem?_drop]
    by_cases hi : i < σ.length
    · have := h.pin (m + i) (List.mem_map.mpr ⟨i, List.mem_range.mpr hi, rfl⟩)
      rw [this]
      show (List.replicate m none ++ σ)[m + i]? = _
      rw [List.getElem?_append_right (by simp), List.length_replicate, Nat.add_sub_cancel_left]
    · rw [List.getElem?_eq_none (by omega), List.getElem?_eq_none (by omega)]
  have lr := h.len
  have e2 : σ'.zip ρ' = (σ'.take m).zip (ρ'.take m) ++ σ.zip (ρ'.drop m) := by
    rw [← e1, ← List.zip_append (by simp [lr]), List.take_append_drop, List.take_append_drop]
  rw [e2] at r
  obtain ⟨a, b, e, r1, r2⟩ := (RL.app _ _ _).mp r
  obtain ⟨a2, b2, e3, _, r3⟩ := (RL.app _ _ _).mp r2
  refine ⟨by rw [List.length_drop]; omega, ⟨F, a ++ b2, sb, (RL.app _ _ _).mpr ⟨a, b2, rfl, r1, r3⟩, ?_⟩, h.tb, h0.pin⟩
  rw [e, e3] at n
  exact n.sublist ((List.sublist_append_right a2 b2).append_left a)
/-- what the consumer is told -/
structure GMd (X : Cx) (G : Gx) (N : Pn) (pins : List (Addr × Obj)) (σ : L2.St) (m : Nat) (L : Stk) (tr : List (S × List S)) (en : Option (List S)) (Xg : Cx) (Ng : Pn) (a : Addr) (n : Nat) (s5 : Shared) : Prop where
  prog : Xg.prog = X.prog
  w : Xg.w = X.w
  os : AllBare s5.gens
  gen : s5.heap.IsGen a n
  isg : ∀ own L ρ s, Lv Xg G Ng own L ρ s → s.heap.IsGen a n
  begin : ∀ (own : List Addr) (s6 : Shared), (∀ b ∈ own, s5.heap.objs.size ≤ b ∧ ∃ o, s6.heap.get? b = some o ∧ ∀ v, o.data ≠ .cell v) → s6.os = s5.os → s6.gens = s5.gens → (∀ b o, s5.heap.get? b = some o → s6.heap.get? b = some o) →
    gSt Xg G Ng own L tr en X.A.in1 n 0 s6 ∧ OwnOk Xg own
  back : ∀ own ρg s, Lv Xg G Ng own L ρg s → ∃ H', Inv X pins σ H' s ∧ Hs G N H' σ (ρg.drop m) L
/-- the parts of a generator expression in its frame -/
def GPart (G : Gx) (X : Cx) (Ng : List Str) (m k : Nat) (scope : Scope) (target : Expr) (ifs : List Expr) (elt : Expr) (t : Tg) (c : M Bool) (f : M S) : Prop :=
  ∀ (A : Around) (s : Shared) (H : Hp) (C : Addr) (cl : List (Str × Addr)) (code : Value) (fp : List Addr) (pn : List (Addr × Obj)) (N' : Pn), Room k A → (∀ j ∈ N'.J, m ≤ j) →
    GX G N' (gCx X A Ng s H (genEnv scope cl C code builtinsNs X.env) fp pn) target t ∧ Ifs G N' (gCx X A Ng s H (genEnv scope cl C code builtinsNs X.env) fp pn) ifs c ∧ EX G N' (gCx X A Ng s H (genEnv scope cl C code builtinsNs X.env) fp pn) W0 elt f
theorem gen_make {q0 : Str} {c0 P : Addr} {wi : TI} {Q' : Value → Shared → Prop} {k : Nat} {R : Stk → List D → List S → Prop} (hr : Room (k + 1) X.A) (TB : LamX.TabB X.base X.mg c0 P) (hcode : X.env.code = .ref c0) (Sc : GSc X.env.scope scope) (hIn : InT G P (X.env.qual ++ "<genexpr>") q0)
    (hi : PI X target iter wi) (hs : ∀ v, genFold iter X.env v = pure v) (hgn : gnB scope (Ng.drop m) X.N = true) (hm : m ≤ Ng.length) (hl : ifs.length ≤ 1) (hp : GPart G X Ng m k scope target ifs elt t c f) (I : Inv X pins σ H s)
    (h : wi σ H fun J H1 => ∃ src items ρ L0, IterOk G (L0 ++ N.L) J src items ∧ Hs G (N.lk L0) H1 σ ρ (src ++ st) ∧ R src items ρ)
    (hQ : ∀ src items ρ L0 a n s5 Xg Np, R src items ρ → (∀ tr en, trL stp t c f items (List.replicate m .gone ++ ρ) = some (tr, en) → (∀ x ∈ tr, isV x.1 = true) → GMd X G (N.lk L0) pins σ m (src ++ st) tr en Xg Np a n s5) → Q' (.ref a) s5) :
    wpAny (model X.prog X.w) X.A (eval (.GeneratorExp elt [⟨target, iter, ifs, 0⟩] scope pos) X.env) Q' X.xe s := by
  have hfree : ∀ y ∈ scope.names, y.2 = .free → ∃ c, X.env.cells.lookup y.1 = some c := fun y hy e => I.ok.has _ (Sc.free y hy e)
  refine wpAny_GeneratorExp_make Sc.co (closure_ok hfree) Sc.cell Sc.dot Sc.kind (by have := hr.dp; omega) ?_ hs
  refine thn (hi.run pins s σ H _ I h) fun xv s1 h1 => thn h1 fun itv s2 h2 => ?_
  obtain ⟨it, fp, tn, J, H2, eit, I2, T, st2, f2, src, items, ρ, L0, io, hs2, hR⟩ := h2
  have hQ := fun src items ρ => hQ src items ρ L0
  have io : IterOk G (N.lk L0).L J src items := io
  generalize N.lk L0 = N at *
  subst eit
  obtain ⟨ps, hP, ht, hall⟩ := hs2.tb.at hIn
  have hPs : s2.heap.get? P = some { cls := .none, data := .fields ps } := I2.hok P _ hP
  have cd : PySem.W.CodeHd s2.heap c0 P := TB.code.keeps I2.bk
  refine ⟨I2.nolimit, ?_⟩
  -- from the table that may have grown
  have cont : ∀ (code : Value) (H4 : Hp) (s4 : Shared), Inv X pins σ H4 s4 → Hs G N H4 σ ρ (src ++ st) → tn 0 s4.heap → (∀ b ∈ fp, FpOk X pins H4 b) →
      wpAny (model X.prog X.w) X.A (builtinsFor X.env.globals X.env.builtins) (fun bi s₄ =>
        ∀ h', h'.Ns s₄.heap.objs.size (fun y => if y = ".0" then some (.ref it) else none) → Heap.SameBut s₄.heap.objs.size (s₄.heap.push { cls := .type "frame", data := .dict #[] }) h' →
          Q' (.ref h'.objs.size) { s₄ with
            gens := s₄.gens.push (.fresh (.compStart (.GeneratorExp elt [⟨target, iter, ifs, 0⟩] scope pos) 0 (.ref it) .none (genEnv scope (cloFrom X.env.cells scope.names []) s₄.heap.objs.size code bi X.env))),
            toks := s₄.toks + 1 + 1 + 1,
            heap := h'.push { cls := .type "generator", data := .fields #[.int s₄.gens.size 0, .str "<genexpr>" (s₄.toks + 1), .str (X.env.qual ++ "<genexpr>") (s₄.toks + 1 + 1)] } }) X.xe s4 := by
    intro code H4 s4 I4 hs4 st4 f4
    obtain ⟨bm, ob, e1, e2, e3, e4, e5, e6, e7, e8⟩ := TB.bm
    refine wpAny_builtinsFor (m := X.mg) (by rw [I4.ok.glob]; exact I4.mod.glob.keeps I4.bk) e1 e2 (I4.bk _ _ e5) e6 e7 e8 ?_
    intro h' hn' hs'
    have hsz : h'.objs.size = s4.heap.objs.size + 1 := by rw [hs'.1, Heap.size_push]
    have kp' : ∀ b o, s4.heap.get? b = some o → h'.get? b = some o := fun b o e => hs'.extBut b o (Nat.ne_of_lt (Heap.lt_size e)) (Heap.get?_push_of_some _ e)
    generalize hgo : ({ cls := .type "generator", data := .fields #[.int s4.gens.size 0, .str "<genexpr>" (s4.toks + 1), .str (X.env.qual ++ "<genexpr>") (s4.toks + 1 + 1)] } : Obj) = go
    have hgn2 : ∀ h : Heap, h.get? h'.objs.size = some go → h.IsGen h'.objs.size s4.gens.size := fun h e => ⟨go, _, _, e, by rw [← hgo], by rw [← hgo], by rw [← hgo]⟩
    have hfz : go.isFreed = false := by
      rw [← hgo]
      rfl
    have hgd : ∀ v, go.data ≠ .cell v := fun v z => by
      rw [← hgo] at z
      cases z
    have kp : ∀ b o, s4.heap.get? b = some o → (h'.push go).get? b = some o := fun b o e => Heap.get?_push_of_some _ (kp' b o e)
    have obs : ∀ b ∈ fp, FpOk X pins H4 b ∧ ∃ o, s4.heap.get? b = some o := fun b hb => ⟨f4 b hb, let ⟨o, e, _⟩ := T.obj _ _ st4 b hb; ⟨o, e⟩⟩
    have I5 := g_start (m := m) (Ng := Ng) (code := code) (A := gA X elt target iter ifs scope pos it (genEnv scope (cloFrom X.env.cells scope.names []) s4.heap.objs.size code builtinsNs X.env)) (h5 := h'.push go) (tk := s4.toks + 1 + 1 + 1)
      (g5 := s4.gens.push (.fresh (gStart elt target iter ifs scope pos it (genEnv scope (cloFrom X.env.cells scope.names []) s4.heap.objs.size code builtinsNs X.env)))) I4 Sc (gA_hd hr.hd) (gA_frames I4.ok.frames) obs hgn hm kp (hn'.push _) (Heap.get?_push_size _ hfz) (by omega) hgd (I4.bare.push rfl)
    have hs5 := hs4.genIn (m := m)
    refine hQ src items ρ _ s4.gens.size _ (gCx X (gA X elt target iter ifs scope pos it (genEnv scope (cloFrom X.env.cells scope.names []) s4.heap.objs.size code builtinsNs X.env)) Ng s4 H4 (genEnv scope (cloFrom X.env.cells scope.names []) s4.heap.objs.size code builtinsNs X.env) fp [(h'.objs.size, go)]) (gPin m σ N.L) hR fun tr en htr hV => ?_
    have hroom := gA_room (elt := elt) (target := target) (iter := iter) (ifs := ifs) (scope := scope) (pos := pos) (it := it) (ge := genEnv scope (cloFrom X.env.cells scope.names []) s4.heap.objs.size code builtinsNs X.env) hr
    obtain ⟨p1, p2, p3⟩ := hp _ s4 H4 s4.heap.objs.size (cloFrom X.env.cells scope.names []) code fp [(h'.objs.size, go)] (gPin m σ N.L) hroom fun j hj => gPin_ge hj
    have hsz5 : (h'.push go).objs.size = s4.heap.objs.size + 2 := by rw [Heap.size_push, hsz]
    have lt4 : s4.heap.objs.size < (h'.push go).objs.size := by omega
    have lt5 : h'.objs.size < (h'.push go).objs.size := by omega
    have lt6 : s4.heap.objs.size < h'.objs.size := by omega
    have hown : ∀ own : List Addr, (∀ b ∈ own, (h'.push go).objs.size ≤ b) → OwnOk (gCx X (gA X elt target iter ifs scope pos it (genEnv scope (cloFrom X.env.cells scope.names []) s4.heap.objs.size code builtinsNs X.env)) Ng s4 H4 (genEnv scope (cloFrom X.env.cells scope.names []) s4.heap.objs.size code builtinsNs X.env) fp [(h'.objs.size, go)]) own := fun own ho b hb => by
      have hb2 := ho b hb
      refine ⟨.inr ?_, ?_, fun x c e z => ?_, fun p hp z => ?_⟩
      · show s4.heap.objs.size ≤ b
        omega
      · exact Nat.ne_of_gt (Nat.lt_of_lt_of_le lt4 hb2)
      · obtain ⟨v, ob, ho, _⟩ := I5.cell x c e
        have h9 : c < (h'.push go).objs.size := Heap.lt_size ho
        rw [z] at h9
        exact absurd (Nat.lt_of_lt_of_le h9 hb2) (Nat.lt_irrefl _)
      · have hp2 : p = (h'.objs.size, go) := by
          have : p ∈ [(h'.objs.size, go)] := hp
          simpa using this
        rw [hp2] at z
        have z2 : h'.objs.size = b := z
        rw [← z2] at hb2
        exact absurd (Nat.lt_of_lt_of_le lt5 hb2) (Nat.lt_irrefl _)
    refine ⟨rfl, rfl, I5.bare, hgn2 _ (Heap.get?_push_size _ hfz), fun own L ρ' s' ⟨ps', σ', H', _, I', _⟩ => ?_, fun own s6 ho h6 g6 k6 => ?_, fun own ρg s' ⟨ps', σ', H', _, I', hs'⟩ => ?_⟩
    · exact hgn2 _ (I'.pin (h'.objs.size, go) (List.mem_append_left _ List.mem_cons_self)).1
    · have hO := hown own fun b hb => (ho b hb).1
      obtain ⟨ps6, hps6, I6⟩ := Inv.woken (own := []) (s' := s6) I5 ⟨fun b hb => by simp at hb, fun p hp => by simp at hp⟩ ownOk0 ⟨h6, by rw [g6]; exact I5.bare, fun b o _ e => k6 b o e, fun b hb => by simp at hb⟩
      have I7 : Inv (gCx X (gA X elt target iter ifs scope pos it (genEnv scope (cloFrom X.env.cells scope.names []) s4.heap.objs.size code builtinsNs X.env)) Ng s4 H4 (genEnv scope (cloFrom X.env.cells scope.names []) s4.heap.objs.size code builtinsNs X.env) fp [(h'.objs.size, go)]) (pinsAt own s6.heap) (List.replicate m none ++ σ) H4 s6 := I6.pins_of fun p hp => by
        obtain ⟨hb, e⟩ := of_pinsAt hp
        obtain ⟨hge, o, e', d⟩ := ho p.1 hb
        rw [e] at e'
        cases e'
        have hge2 : (h'.push go).objs.size ≤ p.1 := hge
        exact ⟨e, I5.hok.fresh hge2, (hO p.1 hb).2.1, I5.nofs hge2, d⟩
      have hP7 : PnOf own (pinsAt own s6.heap) := ⟨fun b hb => let ⟨_, o, e, _⟩ := ho b hb; ⟨o, mem_pinsAt hb e⟩, fun p hp => (of_pinsAt hp).1⟩
      have hL6 : Lvi (gCx X (gA X elt target iter ifs scope pos it (genEnv scope (cloFrom X.env.cells scope.names []) s4.heap.objs.size code builtinsNs X.env)) Ng s4 H4 (genEnv scope (cloFrom X.env.cells scope.names []) s4.heap.objs.size code builtinsNs X.env) fp [(h'.objs.size, go)]) G (gPin m σ N.L) own (src ++ st) fp tn 0 (List.replicate m .gone ++ ρ) s6 := by
        refine ⟨pinsAt own s6.heap, _, H4, hP7, I7, hs5, T.keep _ _ _ st4 fun b hb o e => k6 b o (kp b o e), fun b hb => ?_⟩
        obtain ⟨⟨q1, q2, q3, q4, q5, q6⟩, o, e⟩ := obs b hb
        have hlt := Heap.lt_size e
        refine ⟨q1, Nat.ne_of_lt hlt, fun hm => ?_, .inl hb, fun x c e => q5 x c (cl_mem I4.ok Sc e), fun p hp z => ?_⟩
        · rcases List.mem_cons.mp (I4.stkSub b hm) with z | z
          · exact q2 z
          · exact q3 z
        · rcases List.mem_append.mp hp with z2 | z2
          · have hp2 : p = (h'.objs.size, go) := by
              have : p ∈ [(h'.objs.size, go)] := z2
              simpa using this
            rw [hp2] at z
            have z3 : h'.objs.size = b := z
            have hlt2 : b < s4.heap.objs.size := hlt
            rw [← z3] at hlt2
            exact absurd (Nat.lt_trans hlt2 lt6) (Nat.lt_irrefl _)
          · have := (ho p.1 (of_pinsAt z2).1).1
            rw [z] at this
            have h9 : (h'.push go).objs.size ≤ b := this
            have hlt2 : b < s4.heap.objs.size := hlt
            exact absurd (Nat.lt_of_lt_of_le (Nat.lt_trans hlt2 lt4) h9) (Nat.lt_irrefl _)
      refine ⟨⟨by rw [g6]; exact I5.bare, fun x hx => absurd rfl hx, I7.nolimit, .fresh (gStart elt target iter ifs scope pos it (genEnv scope (cloFrom X.env.cells scope.names []) s4.heap.objs.size code builtinsNs X.env)), by rw [g6]; exact Array.getElem?_push_size .., fun _ s' z => ?_⟩, hO⟩
      rw [Nat.sub_zero]
      refine ⟨rfl, ?_⟩
      exact seg_begin (N := gPin m σ N.L) (X := gCx X (gA X elt target iter ifs scope pos it (genEnv scope (cloFrom X.env.cells scope.names []) s4.heap.objs.size code builtinsNs X.env)) Ng s4 H4 (genEnv scope (cloFrom X.env.cells scope.names []) s4.heap.objs.size code builtinsNs X.env) fp [(h'.objs.size, go)]) ⟨T, io, hO, rfl, rfl, Sc.co⟩ rfl hl p1 p2 p3 hV htr (hL6.woken hO z T.keep)
    · have un : Un (frs X.stack) fp H4 H' s4.heap s'.heap := I'.base
      have J' : Inv X pins σ H' s' := I4.call' (ch := fp) I'.os un I'.hok I'.bare fun b hb => ⟨(f4 b hb).2.2.2.1, (f4 b hb).2.1, (f4 b hb).2.2.2.2.1, (f4 b hb).2.2.2.2.2⟩
      refine ⟨H', J', Hs.genOut hs4 hs' ?_⟩
      have e1 := I'.len
      have e2 := gnB_len hgn
      rw [List.length_drop] at e2
      have e3 := I4.len
      have e4 : σ'.length = Ng.length := e1
      omega
  cases hf : codeAmong pos ps.toList with
  | none =>
    refine wpAny_genexprCodeX hcode (cd.code hPs ht) (cd.tab hPs) hf fun c' h' tk hx hge hlt hco' hrec htab' _ => ?_
    obtain ⟨o1, vs, f1, tf, fl, tg, inF, tx, tt, op, _, _, _, _, _, _, _, _, _, htr, _⟩ := hco'
    obtain ⟨c2, oc, vs2, t2, ec2, hoc, hdc, hvc⟩ := hrec
    cases ec2
    have nC : H2 c' = none := I2.hok.fresh hge
    have I4 := LamX.inv_table (t' := tk) (more := #[rawInt pos.line, rawInt pos.col, .ref c']) (h' := h') I2 hP (fun b o hb e => hx b o hb e) htab'.2 hge ⟨oc, vs2, t2, hoc, hdc, hvc⟩
    obtain ⟨hE, hT⟩ := hs2.tb.put (pos := pos) hIn hP nC
    exact cont _ _ _ I4 (hs2.grow ⟨hE, hT⟩) (T.keep _ _ _ st2 fun b hb o e => hx b o (fun z => by
      have := (f2 b hb).1
      rw [z, hP] at this
      cases this) e) fun b hb => ⟨by
        have n0 := (f2 b hb).1
        obtain ⟨o, eo, _⟩ := T.obj _ _ st2 b hb
        have ne1 : b ≠ c' := fun z => by
          have h9 : b < s2.heap.objs.size := Heap.lt_size eo
          rw [z] at h9
          exact absurd (Nat.lt_of_lt_of_le h9 hge) (Nat.lt_irrefl _)
        rw [upd_ne ne1, upd_ne fun z => by rw [z, hP] at n0; cases n0]
        exact n0, (f2 b hb).2⟩
  | some cv =>
    refine wpAny_genexprCode_hit hcode (cd.code hPs ht) hf ?_
    exact cont cv H2 s2 I2 hs2 st2 f2
end
end DL
/-! the data layer: any, all, sum of generator expressions -/
namespace DL
open PySem PySem.Spec PyProof.Rows L2 GenW
def inL (i : Int) : Bool := decide (-(2 ^ 63) ≤ i) && decide (i < 2 ^ 63)
def sumV : List (S × List S) → Int → Option Int
  | [], a => some a
  | (.d (.int i), _) :: r, a => if inL i && inL (a + i) then sumV r (a + i) else none
  | _ :: _, _ => none
def stAny : S → Bool
  | .d (.bl b) => b
  | _ => false
def stAll : S → Bool
  | .d (.bl b) => !b
  | _ => false
def isB : S → Bool
  | .d (.bl _) => true
  | _ => false
def finAny (tr : List (S × List S)) (en : Option (List S)) : Option S := if tr.all (fun x => isB x.1) then some (.d (.bl en.isNone)) else none
def finAll (tr : List (S × List S)) (en : Option (List S)) : Option S := if tr.all (fun x => isB x.1) then some (.d (.bl en.isSome)) else none
def finSum (tr : List (S × List S)) (en : Option (List S)) : Option S := if en.isSome then (sumV tr 0).map fun i => .d (.int i) else none
/-- a generator expression, consumed -/
def mGen (m : Nat) (as : List Arg) (io : List S → Option (List D)) (stp : S → Bool) (t : Tg) (c : M Bool) (f : M S) (fin : List (S × List S) → Option (List S) → Option S) : M S := mbind (mArgs as) fun avs ρ => match grab ρ avs with
  | none => .stuck
  | some p => match io p.1 with
    | none => .stuck
    | some items => match trL stp t c f items (List.replicate m .gone ++ p.2) with
      | none => .stuck
      | some q => match endR q.1 q.2, fin q.1 q.2 with
        | some ρ', some z => .ok z (lay (ρ'.drop m) avs p.1 p.1)
        | _, _ => .stuck
def mAny (m : Nat) (as : List Arg) (io : List S → Option (List D)) (t : Tg) (c : M Bool) (f : M S) : M S := mGen m as io stAny t c f finAny
def mAll (m : Nat) (as : List Arg) (io : List S → Option (List D)) (t : Tg) (c : M Bool) (f : M S) : M S := mGen m as io stAll t c f finAll
def mSum (m : Nat) (as : List Arg) (io : List S → Option (List D)) (t : Tg) (c : M Bool) (f : M S) : M S := mGen m as io (fun _ => false) t c f finSum
theorem trL_stp {stp : S → Bool} {t : Tg} {c : M Bool} {f : M S} : ∀ {items : List D} {ρ : List S} {tr : List (S × List S)} {en : Option (List S)}, trL stp t c f items ρ = some (tr, en) → (en = none → tr ≠ []) ∧ ∀ (j : Nat) (x : S × List S), tr[j]? = some x → stp x.1 = (en.isNone && j + 1 == tr.length)
  | [], ρ, tr, en, h => by
    simp only [trL, Option.some.injEq, Prod.mk.injEq] at h
    obtain ⟨h1, h2⟩ := h
    subst h1 h2
    exact And.intro (fun z => nomatch z) (fun j x e => by simp at e)
  | d :: xs, ρ, tr, en, h => by
    unfold trL at h
    split at h
    · cases h
    · split at h
      · exact trL_stp h
      · split at h
        · rename_i z ρ3 _
          split at h
          · rename_i hz
            cases h
            refine ⟨fun _ => by simp, fun j x e => ?_⟩
            cases j with
            | zero =>
              simp only [List.getElem?_cons_zero, Option.some.injEq] at e
              subst e
              simpa using hz
            | succ j => simp at e
          · rename_i hz
            simp only [Option.map_eq_some_iff] at h
            obtain ⟨q, h1, h2⟩ := h
            cases h2
            obtain ⟨i1, i2⟩ := trL_stp h1
            refine ⟨fun _ => by simp, fun j x e => ?_⟩
            cases j with
            | zero =>
              simp only [List.getElem?_cons_zero, Option.some.injEq] at e
              subst e
              have : stp z = false := by simpa using hz
              rw [this]
              cases hq : q.2 with
              | some _ => rfl
              | none =>
                have := i1 hq
                have : q.1.length ≠ 0 := fun z => this (List.length_eq_zero_iff.mp z)
                simp [this]
            | succ j =>
              have := i2 j x (by simpa using e)
              rw [this]
              simp
        · cases h
      · cases h
theorem quits_any {t : Tg} {c : M Bool} {f : M S} {items : List D} {ρ : List S} {tr : List (S × List S)} {en : Option (List S)} (h : trL stAny t c f items ρ = some (tr, en)) (hb : tr.all (fun x => isB x.1) = true) : Quits true tr en := by
  obtain ⟨h1, h2⟩ := trL_stp h
  refine ⟨h1, fun j x e => ?_⟩
  have hx := List.all_eq_true.mp hb x (List.mem_of_getElem? e)
  have hs := h2 j x e
  rw [← hs]
  obtain ⟨x1, x2⟩ := x
  cases x1 with
  | d y =>
    cases y with
    | bl b => cases b <;> rfl
    | _ => cases hx
  | _ => cases hx
theorem isB_isV {tr : List (S × List S)} (hb : tr.all (fun x => isB x.1) = true) : ∀ x ∈ tr, isV x.1 = true := fun x hx => by
  have := List.all_eq_true.mp hb x hx
  obtain ⟨x1, x2⟩ := x
  cases x1 with
  | d y =>
    cases y with
    | bl b => rfl
    | _ => cases this
  | _ => cases this
theorem sumV_isV : ∀ {tr : List (S × List S)} {a i : Int}, sumV tr a = some i → ∀ x ∈ tr, isV x.1 = true
  | [], _, _, _, x, hx => by simp at hx
  | (z, ρ) :: r, a, i, h, x, hx => by
    cases z with
    | d y =>
      cases y with
      | int k =>
        unfold sumV at h
        split at h
        · rcases List.mem_cons.mp hx with e | e
          · subst e
            rfl
          · exact sumV_isV h x e
        · cases h
      | _ => simp [sumV] at h
    | _ => simp [sumV] at h
section
variable {X : Cx} {G : Gx} {N : Pn} {own : List Addr} {L : Stk} {tr : List (S × List S)} {en : Option (List S)} {A : Around} {a : Addr} {n : Nat} {R : Result → Shared → Prop}
theorem Slp.trans {s s' s'' : Shared} (h : Slp own s s') (k : Slp own s' s'') : Slp own s s'' := ⟨k.os.trans h.os, k.bare, fun b o hb e => k.keep b o hb (h.keep b o hb e), k.own⟩
theorem gSt.slp {j : Nat} {s s' : Shared} {x : S × List S} (h : gSt X G N own L tr en A n j s) (hA : OwnOk X own) (hj : j ≠ 0) (hx : tr[j - 1]? = some x) (z : Slp own s s') (hg : s'.gens = s.gens) : gSt X G N own L tr en A n j s' := by
  obtain ⟨h1, h2, h3, gs, h4, h5⟩ := h
  exact ⟨z.bare, fun y hj hy => (h2 y hj hy).woken hA z, ((h2 x hj hx).woken hA z).nolimit, gs, by rw [hg]; exact h4, fun ho s'' z' => h5 ho s'' (z.trans z')⟩
theorem sum_walk {S0 : Addr} {ρ : List S} {tot : Int} (hh : A.handled = none) (hroom : A.in1.depth < recursionLimit) (hA : OwnOk X [S0]) (hG : ∀ ρ s, Lv X G N [S0] L ρ s → s.heap.IsGen a n) : ∀ (k j : Nat) (s : Shared) (acc : Int) (tA : Tok) (c : Nat), tr.length - j = k → j ≤ tr.length → s.heap.IsGen a n → gSt X G N [S0] L tr (some ρ) A.in1 n j s → sumV (tr.drop j) acc = some tot →
    s.heap.get? S0 = some { cls := .type "list", dict := none, data := .seq #[.int acc tA] c, slots := #[] } →
    (∀ s' t', Lv X G N [S0] L ρ s' → R (.ok (.ret (.int tot t'))) s') → codeAny (model X.prog X.w) A (.builtin "sum.loop" ⟨[.ref a, .ref S0, rawInt 0, rawInt 0], []⟩) R s := by
  intro k
  induction k with
  | zero =>
    intro j s acc tA c hk hj hg hst hv hS hR
    have hjn : j = tr.length := by omega
    subst hjn
    rw [List.drop_length] at hv
    simp only [sumV, Option.some.injEq] at hv
    subst hv
    refine codeAny_builtin F.entry_sum_loop ?_
    rw [Around.under_plainId F.plain_sum_loop _]
    show wpAny _ A.in1 (seqItems? (.ref S0) >>= _) _ _ s
    refine wpAny_bind (wpAny_seqItems hS rfl ?_)
    show wpAny _ A.in1 (tryCatch (pyNext (.ref a)) _ >>= _) _ _ s
    refine wpAny_bind (wpAny_tryCatch (gen_done hA hh hroom hg hst (fun b hb => ?_) fun s' hL => ?_))
    · rw [List.mem_singleton.mp hb]
      exact ⟨_, hS, fun v z => by cases z⟩
    · exact wpAny_pure (hR s' tA hL)
  | succ k ih =>
    intro j s acc tA c hk hj hg hst hv hS hR
    have hlt : j < tr.length := by omega
    have ex : tr[j]? = some tr[j] := List.getElem?_eq_getElem hlt
    rw [List.drop_eq_getElem_cons hlt] at hv
    refine codeAny_builtin F.entry_sum_loop ?_
    rw [Around.under_plainId F.plain_sum_loop _]
    show wpAny _ A.in1 (seqItems? (.ref S0) >>= _) _ _ s
    refine wpAny_bind (wpAny_seqItems hS rfl ?_)
    show wpAny _ A.in1 (tryCatch (pyNext (.ref a)) _ >>= _) _ _ s
    refine wpAny_bind (wpAny_tryCatch (gen_item hA hh hroom hg ex hst (fun b hb => by
      rw [List.mem_singleton.mp hb]
      exact ⟨_, hS, fun v z => by cases z⟩) fun v s' hvo hst' hO => ?_))
    have hL := hst'.2.1 _ (Nat.succ_ne_zero j) ex
    have hS' := (hO S0 (List.mem_singleton.mpr rfl)).trans hS
    obtain ⟨⟨z, ρj⟩, htj⟩ : ∃ q, tr[j] = q := ⟨_, rfl⟩
    rw [htj] at hv hvo
    cases z with
    | d y =>
      cases y with
      | int i =>
        obtain ⟨t, ev⟩ := hvo
        subst ev
        unfold sumV at hv
        split at hv
        · rename_i hin
          have hc : ((decide (-(2 ^ 63) ≤ i) && decide (i < 2 ^ 63)) && (decide (-(2 ^ 63) ≤ acc + i) && decide (acc + i < 2 ^ 63))) = true := hin
          show wpAny _ A.in1 (if (_ : Bool) = true then (mkInt (acc + i) >>= _) else _) _ _ _
          split
          · refine wpAny_bind (wpAny_mkInt ?_)
            show wpAny _ A.in1 (updateSeq S0 (fun _ => #[.int (acc + i) s'.toks]) >>= _) _ _ _
            refine wpAny_bind ?_
            refine wpAny_updateSeq hS' rfl (wpAny_pure ⟨plainId_quiet F.plain_sum_loop _, ?_⟩)
            have z : Slp [S0] s' { s' with toks := s'.toks + 1, heap := s'.heap.update S0 (Obj.mapSeq fun _ => #[.int (acc + i) s'.toks]) } := ⟨rfl, hst'.1, fun b o hb e => (Heap.get?_update_other _ _ (fun h => hb (by rw [← h]; exact List.mem_singleton.mpr rfl))).trans e, fun b hb => by
              rw [List.mem_singleton.mp hb]
              exact ⟨_, Heap.get?_update_self _ hS' rfl, fun v q => by cases q⟩⟩
            have hst2 := gSt.slp hst' hA (Nat.succ_ne_zero j) (by rw [Nat.add_sub_cancel]; exact ex) z rfl
            exact ih (j + 1) _ (acc + i) s'.toks _ (by omega) hlt (hG _ _ (hL.woken hA z)) hst2 hv (Heap.get?_update_self _ hS' rfl) hR
          · rename_i hneg
            exact absurd hc hneg
        · cases hv
      | _ => simp [sumV] at hv
    | _ => simp [sumV] at hv
end
section
variable {X : Cx} {G : Gx} {N : Pn} {W : WX} {own : List Addr} {elt iter target : Expr} {ifs : List Expr} {scope : Scope} {gpos pos p0 : Pos} {stp : S → Bool} {t : Tg} {c : M Bool} {f : M S} {es : List Expr} {as : List Arg}
  {pins : List (Addr × Obj)} {σ : L2.St} {ρ : List S} {st : Stk} {H : Hp} {s : Shared} {m : Nat} {Ng : List Str} {r : List V → Hp → (It → Hp → Prop) → Prop} {io : List S → Option (List D)} {fin : List (S × List S) → Option (List S) → Option S} {c0 P : Addr} {k : Nat} {Q : VK}
/-- what a rule for a consumed generator expression asks -/
structure GenH (X : Cx) (G : Gx) (N : Pn) (W : WX) (k m : Nat) (Ng : List Str) (c0 P : Addr) (scope : Scope) (target iter : Expr) (ifs : List Expr) (elt : Expr) (es : List Expr) (as : List Arg) (r : List V → Hp → (It → Hp → Prop) → Prop) (io : List S → Option (List D)) (t : Tg) (c : M Bool) (f : M S) : Prop where
  room : Room (k + 1) X.A
  tab : LamX.TabB X.base X.mg c0 P
  code : X.env.code = .ref c0
  sc : GSc X.env.scope scope
  q : ∃ q0, InT G P (X.env.qual ++ "<genexpr>") q0
  it : PI X target iter (fun σ H R => sAs X es σ H fun vs H1 => r vs H1 R)
  fold : ∀ v, genFold iter X.env v = pure v
  names : gnB scope (Ng.drop m) X.N = true
  le : m ≤ Ng.length
  one : ifs.length ≤ 1
  part : GPart G X Ng m k scope target ifs elt t c f
  args : AX G N X W es as
  its : ItS G r io
theorem GMd.unlk {L0 : List (Addr × Obj × HO)} {m : Nat} {L : Stk} {tr : List (S × List S)} {en : Option (List S)} {Xg : Cx} {Ng : Pn} {a : Addr} {n : Nat} {s5 : Shared} (g : GMd X G (N.lk L0) pins σ m L tr en Xg Ng a n s5) : GMd X G N pins σ m L tr en Xg Ng a n s5 :=
  { g with back := fun own ρg s h => let ⟨H', a, b⟩ := g.back own ρg s h; ⟨H', a, b.unlk⟩ }
theorem gen_core {Q' : Value → Shared → Prop} (g : GenH X G N W k m Ng c0 P scope target iter ifs elt es as r io t c f) (h : Hs G N H σ ρ st) (I : Inv X pins σ H s) (p : pst G N W σ st (fun z ρ' => ∀ v H', Hs G N H' σ ρ' ((some v, z) :: st) → Q v H') (mGen m as io stp t c f fin ρ))
    (hV : ∀ tr en z, fin tr en = some z → ∀ x ∈ tr, isV x.1 = true)
    (hQ : ∀ a n s5 Xg Np L tr en z ρ1 ρ2 items, fin tr en = some z → endR tr en = some ρ2 → trL stp t c f items ρ1 = some (tr, en) → GMd X G N pins σ m L tr en Xg Np a n s5 →
      (∀ own s', Lv Xg G Np own L ρ2 s' → ∀ v u x, z = .d x → (∀ F : Hp, RD G F x v) → RelV v u → EP X pins σ Q u s') → Q' (.ref a) s5) :
    wpAny (model X.prog X.w) X.A (eval (.GeneratorExp elt [⟨target, iter, ifs, 0⟩] scope gpos) X.env) Q' X.xe s := by
  refine gen_make (N := N) (st := st) (stp := stp) (R := fun src items ρ2 => ∃ avs vs xs, AVR σ avs vs ∧ vs.length = xs.length ∧ src = zs vs xs ∧
      pst G N W σ st (fun z ρ' => ∀ v H', Hs G N H' σ ρ' ((some v, z) :: st) → Q v H') (match trL stp t c f items (List.replicate m .gone ++ ρ2) with
      | none => (.stuck : Res S)
      | some q => match endR q.1 q.2, fin q.1 q.2 with
        | some ρ', some z => .ok z (lay (ρ'.drop m) avs xs xs)
        | _, _ => .stuck)) g.room g.tab g.code g.sc g.q.choose_spec g.it g.fold g.names g.le g.one g.part I ?_ ?_
  · unfold mGen at p
    refine g.args.bind h p fun avs ρ1 vs H1 r1 h1 p1 => ?_
    cases eg : grab ρ1 avs with
    | none =>
      rw [eg] at p1
      exact p1.elim
    | some q =>
      obtain ⟨xs, ρ2⟩ := q
      rw [eg] at p1
      simp only at p1
      obtain ⟨l, h2⟩ := grab_ok r1 h1 eg
      cases ei : io xs with
      | none =>
        rw [ei] at p1
        exact p1.elim
      | some items =>
        rw [ei] at p1
        exact g.its N σ ρ2 st H1 vs xs items _ l h2 ei fun J H2 L0 ok h3 => ⟨zs vs xs, items, ρ2, L0, ok, h3, avs, vs, xs, r1, l, rfl, p1⟩
  · rintro src items ρ1 L0 a n s5 Xg Np ⟨avs, vs, xs, r1, l, esrc, p1⟩ hmd
    subst esrc
    cases et : trL stp t c f items (List.replicate m .gone ++ ρ1) with
    | none =>
      rw [et] at p1
      exact p1.elim
    | some q =>
      obtain ⟨tr, en⟩ := q
      rw [et] at p1
      simp only at p1
      cases ee : endR tr en with
      | none =>
        rw [ee] at p1
        exact p1.elim
      | some ρ2 =>
        cases ef : fin tr en with
        | none =>
          rw [ee, ef] at p1
          exact p1.elim
        | some z =>
          rw [ee, ef] at p1
          have md := hmd tr en et (hV tr en z ef)
          refine hQ a n s5 Xg Np _ tr en z _ ρ2 items ef ee et md.unlk fun own s' hL v u x ez hx rv => ?_
          obtain ⟨H', J, h4⟩ := md.back own ρ2 s' hL
          subst ez
          refine ⟨v, H', J, rv, p1 v H' ?_⟩
          have h5 : Hs G N H' σ (ρ2.drop m) ((some v, .d x) :: (zs vs xs ++ st)) := h4.unlk.new hx
          exact lay_ok (xs := xs) r1 l.symm l.symm (h5.perm List.perm_middle.symm)
theorem boot_any : bootBuiltins "any" = some (.builtin "any") := by decide +kernel
theorem boot_sum : bootBuiltins "sum" = some (.builtin "sum") := by decide +kernel
theorem ex_any (g : GenH X G N W k m Ng c0 P scope target iter ifs elt es as r io t c f) (hgl : Gl X "any" := by rfl) (hm : X.mg "any" = none := by rfl)
    (he : starEach [.GeneratorExp elt [⟨target, iter, ifs, 0⟩] scope gpos] X.env = (false, eval (.GeneratorExp elt [⟨target, iter, ifs, 0⟩] scope gpos) X.env) :: starEach [] X.env := by rfl) :
    EX G N X W (.Call (.Name "any" p0) [.GeneratorExp elt [⟨target, iter, ifs, 0⟩] scope gpos] [] pos) (mAny m as io t c f) := fun σ ρ st H Q h p pins s I => by
  refine wpAny_Call_Name_kw (ld_blt I hgl hm boot_any ?_)
  refine PyProof.Rows.callWith_builtin1 ?_ he (by rfl)
  rw [he]
  show wpAny _ _ (spliced ((false, eval (.GeneratorExp elt [⟨target, iter, ifs, 0⟩] scope gpos) X.env) :: backTo pos (starEach [] X.env))) _ _ s
  refine Calls.spliced_cons (gen_core (fin := finAny) g h I p (fun tr en z e => ?_) fun a n s5 Xg Np L tr en z ρ1 ρ2 items ef ee et md back => ?_)
  · unfold finAny at e
    split at e
    · exact isB_isV ‹_›
    · cases e
  refine Calls.spliced_nil ?_
  unfold finAny at ef
  split at ef
  · rename_i hb
    cases ef
    refine call_function_tree F.kind_any F.plain_any F.entry_any (F.args_any1 _) ?_
    unfold Builtin.«any»
    refine wpAny_bind (m := oneArg "any" _) (wpAny_pure ?_)
    refine wpAny_bind (wpAny_pyIter_gen md.gen ?_)
    refine wpAny_pure ⟨plainId_quiet F.plain_any_loop _, ?_⟩
    have b0 := md.begin [] s5 (fun b hb => by simp at hb) rfl rfl fun _ _ e => e
    have hw := any_walk (A := X.A) (X := Xg) (R := fun r s' => ∃ b : Bool, r = .ok (.ret (.bool b)) ∧ EP X pins σ Q (.bool b) s') g.room.hd (by have := g.room.dp; show X.A.depth < _; omega) (fun ρ s h => md.isg _ _ _ _ h) (quits_any et hb) tr.length 0 s5 rfl (Nat.zero_le _) (fun e0 => by
      have := (quits_any et hb).1 e0
      exact List.length_pos_iff.mpr this) md.gen b0.1 fun s' ρ' e' hL => by
        rw [ee] at e'
        cases e'
        exact ⟨_, rfl, back [] s' hL (.bl en.isNone) (.bool en.isNone) (.bl en.isNone) rfl (fun _ => rfl) rfl⟩
    rw [md.prog, md.w] at hw
    refine codeAny_mono hw fun r s' ⟨b, er, q⟩ => ?_
    subst er
    exact q
  · cases ef
theorem ex_sum (g : GenH X G N W k m Ng c0 P scope target iter ifs elt es as r io t c f) (hgl : Gl X "sum" := by rfl) (hm : X.mg "sum" = none := by rfl)
    (he : starEach [.GeneratorExp elt [⟨target, iter, ifs, 0⟩] scope gpos] X.env = (false, eval (.GeneratorExp elt [⟨target, iter, ifs, 0⟩] scope gpos) X.env) :: starEach [] X.env := by rfl) :
    EX G N X W (.Call (.Name "sum" p0) [.GeneratorExp elt [⟨target, iter, ifs, 0⟩] scope gpos] [] pos) (mSum m as io t c f) := fun σ ρ st H Q h p pins s I => by
  refine wpAny_Call_Name_kw (ld_blt I hgl hm boot_sum ?_)
  refine PyProof.Rows.callWith_builtin1 ?_ he (by rfl)
  rw [he]
  show wpAny _ _ (spliced ((false, eval (.GeneratorExp elt [⟨target, iter, ifs, 0⟩] scope gpos) X.env) :: backTo pos (starEach [] X.env))) _ _ s
  refine Calls.spliced_cons (gen_core (fin := finSum) g h I p (fun tr en z e => ?_) fun a n s5 Xg Np L tr en z ρ1 ρ2 items ef ee et md back => ?_)
  · unfold finSum at e
    split at e
    · simp only [Option.map_eq_some_iff] at e
      obtain ⟨i, e1, _⟩ := e
      exact sumV_isV e1
    · cases e
  refine Calls.spliced_nil ?_
  unfold finSum at ef
  split at ef
  · rename_i hen
    simp only [Option.map_eq_some_iff] at ef
    obtain ⟨tot, hsum, ez⟩ := ef
    subst ez
    obtain ⟨ρ', een⟩ := Option.isSome_iff_exists.mp hen
    subst een
    cases ee
    refine call_function_tree F.kind_sum F.plain_sum F.entry_sum (F.args_sum1 _) ?_
    unfold Builtin.«sum»
    simp only [List.length_cons, List.length_nil]
    rw [if_neg (by decide)]
    refine wpAny_bind (wpAny_of_eq (show Builtin.Builtins.bindParams "sum" ["start"] 0 { } = pure [none] from rfl) ?_)
    refine wpAny_bind (wpAny_pyIter_gen md.gen ?_)
    refine wpAny_bind (wpAny_mkInt ?_)
    refine wpAny_bind (wpAny_pure ?_)
    simp only [List.forIn_cons, List.forIn_nil]
    refine wpAny_bind (wpAny_bind (wpAny_bind (wpAny_isInstance (T := "int") (b := false) (typeIs_int _ _ _) PySem.sub_int_str ?_)))
    simp only [Bool.false_eq_true, if_false]
    refine wpAny_pure (wpAny_bind (wpAny_bind (wpAny_isInstance (T := "int") (b := false) (typeIs_int _ _ _) PySem.sub_int_bytes ?_)))
    simp only [Bool.false_eq_true, if_false]
    refine wpAny_pure (wpAny_bind (wpAny_bind (wpAny_isInstance (T := "int") (b := false) (typeIs_int _ _ _) PySem.sub_int_bytearray ?_)))
    simp only [Bool.false_eq_true, if_false]
    refine wpAny_pure (wpAny_pure ?_)
    refine wpAny_bind (wpAny_newObj_type ?_)
    refine wpAny_pure ⟨plainId_quiet F.plain_sum_loop _, ?_⟩
    have b0 := md.begin [s5.heap.objs.size] { s5 with heap := s5.heap.push { cls := .type "list", dict := none, data := .seq #[.int 0 s5.toks] 0, slots := #[] }, toks := s5.toks + 1 } (fun b hb => by
      rw [List.mem_singleton.mp hb]
      exact ⟨Nat.le_refl _, _, Heap.get?_push_size _ rfl, fun v q => by cases q⟩) rfl rfl fun _ _ e => Heap.get?_push_of_some _ e
    have hw := sum_walk (A := X.A) (X := Xg) (R := fun r s' => ∃ u, r = .ok (.ret u) ∧ EP X pins σ Q u s') g.room.hd (by have := g.room.dp; show X.A.depth < _; omega) b0.2 (fun ρ s h => md.isg _ _ _ _ h) tr.length 0 _ 0 s5.toks 0 rfl (Nat.zero_le _) (md.gen.push _) b0.1 hsum (Heap.get?_push_size _ rfl) fun s' t' hL => ⟨_, rfl, back [s5.heap.objs.size] s' hL (.int tot) (.int tot t') (.int tot) rfl (fun _ => rfl) ⟨t', rfl⟩⟩
    rw [md.prog, md.w] at hw
    refine codeAny_mono hw fun r s' ⟨b, er, q⟩ => ?_
    subst er
    exact q
  · cases ef
end
end DL
/-! the data layer: a def whose code object is known; a lambda handed to a def that calls it in a try -/
namespace DL
open PySem PySem.Spec PyProof.Rows L2
/-- a def of the text: the function at f, its code object at c -/
structure FunC (K : PySem.W.Frag) (x qual : Str) (stm : Stmt) (f c : Addr) (fd : FuncData) : Prop where
  ex : ∃ (oc : Value) (od : Option Addr) (kV doc pm : Value) (an : Option Addr) (ct : Value) (osl : Array (Option Value)),
    fd = PySem.W.fnOf x qual (defArgs stm) (defBody stm) (defScope stm) .none kV doc pm an (.ref c) ct ∧ K.lookup f = some ⟨oc, od, .func fd, osl⟩ ∧ PySem.W.codeIn K (.ref c) qual = true
  kp : PySem.W.keepIn K (.ref f) = true
section
variable {G : Gx} {P : Program} {w : World} {K : PySem.W.Frag} {mg : Str → Option Value} {base : Heap} {x qual : Str} {stm : Stmt} {f c : Addr} {fd : FuncData} {Nn ps : List Str} {k : Nat} {J : List Nat} {g : B}
theorem FunC.binds (F : FunC K x qual stm f c fd)
    (h : ∀ (kV doc pm : Value) (an : Option Addr) (cdv ct : Value) (us : List Value), us.length = ps.length → bindArgs (PySem.W.fnOf x qual (defArgs stm) (defBody stm) (defScope stm) .none kV doc pm an cdv ct) ⟨us, []⟩ = pure (ps.zip us)) : Binds K fd ps [] := by
  obtain ⟨oc, od, kV, doc, pm, an, ct, osl, rfl, lk, hcd⟩ := F.ex
  exact .all (h kV doc pm an (.ref c) ct)
/-- THE RULE for a def of the text, its code object known -/
theorem fn_ownC (F : FunC K x qual stm f c fd) (S0 : FnScope Nn ps (defScope stm))
    (hb : ∀ (A : Around) (outer : List Env) (s : Shared) (H : Hp) (s0 : L2.St) (LL : List (Addr × Obj × HO)) (E : XK), Room k (A.deeper (envOfC qual (defScope stm) s.heap.objs.size f (.ref c))) →
      BX G ⟨J, s0, LL⟩ (cxOf (L2.CX P w) P w K mg base Nn qual (defScope stm) f (.ref c) A outer s H E) (fun cls d _ H => E cls d H) (defBody stm) g) :
    FnOk P w K mg base (L2.CX P w) (k + 1) f fd ps (spD G (fnOp ps.length Nn.length J g)) := by
  obtain ⟨oc, od, kV, doc, pm, an, ct, osl, rfl, lk, hcd⟩ := F.ex
  refine fn_of lk hcd S0 (fun vs H Q E h => ?_) (fun A outer s H vs Q E hr h => ?_)
  · obtain ⟨N, σ, ρ, st, xs, l, hs, p⟩ := h
    rw [l]
    unfold fnOp at p
    by_cases hx : xs.length = ps.length
    · exact hx
    · rw [if_neg hx] at p
      exact p.elim
  · obtain ⟨N, σ, ρ, st, xs, l, hs, p⟩ := h
    unfold fnOp at p
    by_cases hx : xs.length = ps.length
    · rw [if_pos hx] at p
      refine ⟨_, pss_sem, ?_⟩
      have h1 := frame_in (Nn := Nn) (J := J) l hs
      refine hb A outer s H (start Nn vs) N.L E hr _ _ _ _ _ h1 ?_
      rw [hx]
      cases hg : g (xs ++ List.replicate (Nn.length - ps.length) .gone) with
      | nx ρ1 =>
        rw [hg] at p
        intro σ1 H1 h2
        refine p.2 .non H1 ?_
        rw [outs_of l hx]
        exact frame_out (A := [(some .non, .d .non)]) hs (h2.new fun _ => rfl)
      | rt s1 ρ1 =>
        rw [hg] at p
        intro v σ1 H1 h2
        refine p.2 v H1 ?_
        rw [outs_of l hx]
        exact frame_out (A := [(some v, s1)]) hs h2
      | exc c q ρ1 =>
        rw [hg] at p
        intro cls d σ1 H1 ex h2
        refine p.2 cls d H1 ex ?_
        rw [outs_of l hx]
        exact frame_out (A := []) hs h2
      | bk ρ1 =>
        rw [hg] at p
        exact p.elim
      | ct ρ1 =>
        rw [hg] at p
        exact p.elim
      | stuck =>
        rw [hg] at p
        exact p.elim
    · rw [if_neg hx] at p
      exact p.elim
end
/-! ### told -/
/-- E told: its value, or its refusal's text -/
def mTold (tbl : List (Nat × Str)) (f : M S) : M S := fun ρ => match f ρ with
  | .ok s ρ' => .ok s ρ'
  | .exc c _ ρ' => match tbl.lookup c with
    | some r => .ok (.d (.str r)) ρ'
    | none => .stuck
  | .stuck => .stuck
section
variable {G : Gx} {N : Pn} {X : Cx} {pins : List (Addr × Obj)} {σ : L2.St} {H : Hp} {s : Shared}
/-- a lambda is made -/
theorem lam_makeT {c P : Addr} {q0 : Str} {params : Arguments} {body : Expr} {scope : Scope} {pos : Pos} {E : Value → Shared → Prop} {Q : Value → Shared → Prop} (I : Inv X pins σ H s) (TB : LamX.TabB X.base X.mg c P) (hcode : X.env.code = .ref c)
    (hIn : InT G P (X.env.qual ++ "<lambda>") q0) (hT : Tb G N H) (hdef : defaultsOf params X.env = ([], [])) (hfree : ∀ y ∈ scope.names, y.2 = .free → ∃ c, X.env.cells.lookup y.1 = some c)
    (h : ∀ (f c' : Addr) (q' : Str) (pm ctv : Value) (H1 : Hp) (s' : Shared), Inv X pins σ H1 s' → LamX.ExtN H H1 → Tb G N H1 →
      s'.heap.get? f = some (PySem.W.kla_obj "<lambda>" (X.env.qual ++ "<lambda>") params body scope (cloFrom X.env.cells scope.names []) pm c' ctv) → H1 f = none → f ∉ frs X.stack → (q0 = anyQ ∨ q' = X.env.qual ++ "<lambda>") → H1 c' = some (LamX.CodeO c' q') →
      (∃ ps, H1 P = some (.tbl ps) ∧ codeAmong pos ps.toList = some (.ref c')) → Q (.ref f) s') :
    wpAny (model X.prog X.w) X.A (eval (.Lambda params body scope pos) X.env) Q E s := by
  obtain ⟨ps, hP, ht, ha⟩ := hT.at hIn
  refine PySem.W.kla_eval hdef ?_
  have bP : s.heap.BuiltinsAt X.mg P := TB.bm.keeps I.bk
  have hP' : s.heap.get? P = some { cls := .none, data := .fields ps } := I.hok P _ hP
  have nofr : ∀ f, s.heap.objs.size ≤ f → f ∉ frs X.stack := fun f hf z => by
    rcases List.mem_cons.mp (I.stkSub _ z) with e | e
    · have h1 := I.lt
      rw [← e] at h1
      exact Nat.lt_irrefl _ (Nat.lt_of_lt_of_le h1 hf)
    · exact I.nofs hf e
  cases hc : codeAmong pos ps.toList with
  | none =>
    refine PySem.W.kla_makeFunction (mg := X.mg) (c := c) (P := P) (ps := ps) (closure_ok hfree) I.ok.glob (I.mod.glob.keeps I.bk) hcode (TB.code.keeps I.bk) hP' ht hc TB.gP bP fun c' ctv h' tk hx hge hlt hrec htb => ?_
    obtain ⟨c2, oc, vs, t, e2, hoc, hd, hv⟩ := hrec
    cases e2
    have hsz : s.heap.objs.size ≤ h'.objs.size := Nat.le_trans hge (Nat.le_of_lt hlt)
    have nC : H c' = none := I.hok.fresh hge
    have I1 := LamX.inv_table (t' := tk) (more := #[rawInt pos.line, rawInt pos.col, .ref c']) (h' := h'.push (PySem.W.kla_obj "<lambda>" (X.env.qual ++ "<lambda>") params body scope (cloFrom X.env.cells scope.names []) ((X.mg "__name__").getD .none) c' ctv)) I hP
      (fun b o hb e => Heap.get?_push_of_some _ (hx b o hb e)) (Heap.get?_push_of_some _ htb) hge ⟨oc, vs, t, Heap.get?_push_of_some _ hoc, hd, hv⟩
    obtain ⟨hE, hT1⟩ := hT.put (pos := pos) hIn hP nC
    refine h h'.objs.size c' _ ((X.mg "__name__").getD .none) ctv _ _ I1 hE hT1 (Heap.get?_push_size _ rfl) ?_ (nofr _ hsz) (.inr rfl) upd_same ⟨ps ++ #[rawInt pos.line, rawInt pos.col, .ref c'], by rw [upd_ne (ne_of_none hP nC), upd_same], by rw [show (ps ++ #[rawInt pos.line, rawInt pos.col, Value.ref c']).toList = ps.toList ++ [rawInt pos.line, rawInt pos.col, .ref c'] by simp]; exact PySem.codeAmong_snoc _ ht hc⟩
    have n1 : h'.objs.size ≠ c' := Nat.ne_of_gt hlt
    have n2 : h'.objs.size ≠ P := Nat.ne_of_gt (Nat.lt_of_lt_of_le (Heap.lt_size hP') hsz)
    rw [upd_ne n1, upd_ne n2]
    exact I.hok.fresh hsz
  | some cv =>
    obtain ⟨c', q', e, hq, hco⟩ := ha pos cv hc
    subst e
    refine PySem.W.kla_makeFunctionHit (mg := X.mg) (c := c) (P := P) (ps := ps) (closure_ok hfree) I.ok.glob (I.mod.glob.keeps I.bk) hcode (TB.code.keeps I.bk) hP' ht hc bP fun ctv h' tk hx hsz => ?_
    have I1 : Inv X pins σ H { s with heap := h'.push (PySem.W.kla_obj "<lambda>" (X.env.qual ++ "<lambda>") params body scope (cloFrom X.env.cells scope.names []) ((X.mg "__name__").getD .none) c' ctv), toks := tk } := I.kept fun b o e => Heap.get?_push_of_some _ (hx b o e)
    exact h h'.objs.size c' q' ((X.mg "__name__").getD .none) ctv H _ I1 (LamX.ExtN.refl H) hT (Heap.get?_push_size _ rfl) (I.hok.fresh hsz) (nofr _ hsz) hq hco ⟨ps, hP, hc⟩
end
end DL
/-! the data layer: operations -/
namespace DL
open PySem PySem.Spec PyProof.Rows L2
/-- the items of a list or a tuple -/
def seqS : S → Option (List D)
  | .l xs => some xs
  | .d (.lst xs) => some xs
  | .d (.tup xs) => some xs
  | .d (.kt xs) => some xs
  | _ => none
def lstS : S → Option (List D)
  | .l xs => some xs
  | .d (.lst xs) => some xs
  | _ => none
def tupS : S → Option (List D)
  | .d (.tup xs) => some xs
  | .d (.kt xs) => some xs
  | _ => none
section
variable {G : Gx} {N : Pn} {W : WX} {H H' : Hp} {σ : L2.St} {ρ : List S} {st : Stk}
/-- an owned or settled list: its items, settled, on the stack -/
theorem Hs.itemsL {v : V} {s : S} {xs : List D} (h : Hs G N H σ ρ ((some v, s) :: st)) (e : lstS s = some xs) : ∃ a vs, v = .ref a ∧ SqL G.K H a vs ∧ vs.length = xs.length ∧ Hs G N H σ ρ (zs vs (xs.map .d) ++ ((some v, s) :: st)) := by
  obtain ⟨F, fp, sb, ⟨fa, fr, ef, q, r⟩, n⟩ := h.ex
  have fin : ∀ (vs : List V), RDs G F xs vs → RF G F H s (some v) fa → Hs G N H σ ρ (zs vs (xs.map .d) ++ ((some v, s) :: st)) := fun vs q2 q => by
    refine ⟨h.len, ⟨F, fp, sb, ?_, n⟩, h.tb, h.pin⟩
    rw [List.append_assoc]
    exact (RL.app _ _ _).mpr ⟨[], fp, rfl, (RL.ds q2.len).mpr ⟨rfl, q2⟩, fa, fr, ef, q, r⟩
  cases s with
  | l ys =>
    cases e
    obtain ⟨a, vs, ev, efa, eH, eF, q2⟩ := id q
    cases ev
    exact ⟨a, vs, rfl, .of eH, q2.len, fin vs q2 q⟩
  | d x =>
    cases x with
    | lst ys =>
      cases e
      obtain ⟨_, w, ew, a, vs, ev, sq, q2⟩ := id q
      cases ew
      exact ⟨a, vs, ev, sqL_sub sb sq, q2.len, fin vs q2 q⟩
    | _ => cases e
  | _ => cases e
theorem Hs.itemsT {v : V} {s : S} {xs : List D} (h : Hs G N H σ ρ ((some v, s) :: st)) (e : tupS s = some xs) : ∃ a vs, v = .ref a ∧ SqT G.K H a vs ∧ vs.length = xs.length ∧ Hs G N H σ ρ (zs vs (xs.map .d) ++ ((some v, s) :: st)) := by
  obtain ⟨F, fp, sb, ⟨fa, fr, ef, q, r⟩, n⟩ := h.ex
  cases s with
  | d x =>
    cases x with
    | tup ys =>
      cases e
      obtain ⟨_, w, ew, a, vs, ev, sq, q2⟩ := id q
      cases ew
      refine ⟨a, vs, ev, sqT_sub sb (SqT.of sq), q2.len, h.len, ⟨F, fp, sb, ?_, n⟩, h.tb, h.pin⟩
      rw [List.append_assoc]
      exact (RL.app _ _ _).mpr ⟨[], fp, rfl, (RL.ds q2.len).mpr ⟨rfl, q2⟩, fa, fr, ef, q, r⟩
    | kt ys =>
      cases e
      obtain ⟨_, w, ew, a, ob, vs, ev, sq, q2⟩ := id q
      cases ew
      refine ⟨a, vs, ev, sqT_sub sb (.inl (.inr ⟨ob, sq.1⟩)), q2.len, h.len, ⟨F, fp, sb, ?_, n⟩, h.tb, h.pin⟩
      rw [List.append_assoc]
      exact (RL.app _ _ _).mpr ⟨[], fp, rfl, (RL.ds q2.len).mpr ⟨rfl, q2⟩, fa, fr, ef, q, r⟩
    | _ => cases e
  | _ => cases e
theorem seq_cases {s : S} {xs : List D} (e : seqS s = some xs) : lstS s = some xs ∨ tupS s = some xs := by
  cases s with
  | l ys => exact .inl e
  | d x =>
    cases x with
    | lst ys => exact .inl e
    | tup ys => exact .inr e
    | kt ys => exact .inr e
    | _ => cases e
  | _ => cases e
theorem Hs.items {v : V} {s : S} {xs : List D} (h : Hs G N H σ ρ ((some v, s) :: st)) (e : seqS s = some xs) : ∃ a vs, v = .ref a ∧ (SqL G.K H a vs ∨ SqT G.K H a vs) ∧ vs.length = xs.length ∧ Hs G N H σ ρ (zs vs (xs.map .d) ++ ((some v, s) :: st)) := by
  rcases seq_cases e with z | z
  · obtain ⟨a, vs, q1, q2, q3, q4⟩ := h.itemsL z
    exact ⟨a, vs, q1, .inl q2, q3, q4⟩
  · obtain ⟨a, vs, q1, q2, q3, q4⟩ := h.itemsT z
    exact ⟨a, vs, q1, .inr q2, q3, q4⟩
/-- one of several -/
theorem Hs.one {vs : List V} {xs : List S} : ∀ {i : Nat} {x : S}, (h : Hs G N H σ ρ (zs vs xs ++ st)) → vs.length = xs.length → xs[i]? = some x → ∃ w, vs[i]? = some w ∧ Hs G N H σ ρ ((some w, x) :: st) := by
  induction vs generalizing xs with
  | nil =>
    intro i x h l e
    have : xs = [] := List.length_eq_zero_iff.mp l.symm
    subst this
    simp at e
  | cons v vs ih =>
    intro i x h l e
    cases xs with
    | nil => simp at l
    | cons y ys =>
      cases i with
      | zero =>
        simp only [List.getElem?_cons_zero, Option.some.injEq] at e
        subst e
        refine ⟨v, rfl, ?_⟩
        have h2 : Hs G N H σ ρ (zs vs ys ++ ((some v, y) :: st)) := h.perm List.perm_middle.symm
        exact h2.drops
      | succ i =>
        obtain ⟨w, e1, h1⟩ := ih (i := i) (x := x) (Hs.drop h) (by simpa using l) (by simpa using e)
        exact ⟨w, by simpa using e1, h1⟩
/-- a new list, a new tuple of settled items -/
theorem Hs.newL {vs : List V} {xs : List D} {p : Addr} (h : Hs G N H σ ρ (zs vs (xs.map .d) ++ st)) (l : vs.length = xs.length) (hp : H p = none) : Hs G N (upd H p (.lst vs)) σ ρ ((some (.ref p), .l xs) :: st) := by
  obtain ⟨F, fp, sb, r, n⟩ := h.ex
  rw [List.append_assoc] at r
  obtain ⟨a, b, e, r1, r2⟩ := (RL.app _ _ _).mp r
  obtain ⟨ea, q⟩ := (RL.ds l).mp r1
  subst ea e
  have g : Grow G N H (upd H p (.lst vs)) := Grow.upd h.tb hp
  exact ⟨h.len, ⟨F, p :: fp, sb.grow g.1, ⟨[p], fp, rfl, ⟨p, vs, rfl, rfl, upd_same, sb.none hp, q⟩, RL.keep (Le.refl F) _ fp r2 (own_grow r2 g.1)⟩, List.nodup_cons.mpr ⟨fp_ne r2 hp, n⟩⟩, g.2, h.pin⟩
theorem Hs.newT {vs : List V} {xs : List D} {p : Addr} (h : Hs G N H σ ρ (zs vs (xs.map .d) ++ st)) (l : vs.length = xs.length) (hp : H p = none) : Hs G N (upd H p (.tup vs)) σ ρ ((some (.ref p), .d (.tup xs)) :: st) := by
  obtain ⟨F, fp, sb, r, n⟩ := h.ex
  rw [List.append_assoc] at r
  obtain ⟨a, b, e, r1, r2⟩ := (RL.app _ _ _).mp r
  obtain ⟨ea, q⟩ := (RL.ds l).mp r1
  subst ea e
  have g : Grow G N H (upd H p (.tup vs)) := Grow.upd h.tb hp
  have sg := sb.grow g.1
  have hF : F p = none := sb.none hp
  have le : Le F (upd F p (.tup vs)) := fun x o ex => by
    rw [upd_ne fun z => by rw [z, hF] at ex; cases ex]
    exact ex
  refine ⟨h.len, ⟨upd F p (.tup vs), fp, fun x o ex => ?_, ⟨[], fp, rfl, ⟨rfl, .ref p, rfl, p, vs, rfl, upd_same, RDs.le le _ _ q⟩, RL.keep le _ fp r2 fun x hx => ?_⟩, n⟩, g.2, h.pin⟩
  · by_cases hx : x = p
    · subst hx
      rw [upd_same] at ex
      cases ex
      exact And.intro (fun _ z => nomatch z) (.inl upd_same)
    · rw [upd_ne hx] at ex
      exact sg x o ex
  · have hne : x ≠ p := fun z => fp_ne r2 hp (by rw [← z]; exact hx)
    have k := own_grow r2 g.1 x hx
    exact ⟨k.1, by rw [upd_ne hne]; exact k.2⟩
theorem Hs.freezes : ∀ {vs : List V} {xs : List S} {ys : List D} {st : Stk}, Hs G N H σ ρ (zs vs xs ++ st) → vs.length = xs.length → S.frzs xs = some ys → Hs G N H σ ρ (zs vs (ys.map .d) ++ st) ∧ ys.length = xs.length
  | [], [], ys, st, h, _, e => by
    simp only [S.frzs, Option.some.injEq] at e
    subst e
    exact ⟨h, rfl⟩
  | v :: vs, x :: xs, ys, st, h, l, e => by
    unfold S.frzs at e
    split at e
    · rename_i y ys' e1 e2
      cases e
      have h1 : Hs G N H σ ρ ((some v, .d y) :: (zs vs xs ++ st)) := Hs.freeze h e1
      have h2 : Hs G N H σ ρ (zs vs xs ++ ((some v, .d y) :: st)) := h1.perm List.perm_middle.symm
      obtain ⟨h3, l3⟩ := Hs.freezes h2 (by simpa using l) e2
      exact ⟨h3.perm List.perm_middle, by simp [l3]⟩
    · cases e
  | [], _ :: _, _, _, _, l, _ => by simp at l
  | _ :: _, [], _, _, _, l, _ => by simp at l
/-- what has been read stays under what is new -/
theorem Hs.dup1 {vs : List V} {xs : List D} (h : Hs G N H σ ρ (zs vs (xs.map .d) ++ st)) (l : vs.length = xs.length) : Hs G N H σ ρ (zs vs (xs.map .d) ++ (zs vs (xs.map .d) ++ st)) := by
  obtain ⟨F, fp, sb, r, n⟩ := h.ex
  rw [List.append_assoc] at r
  obtain ⟨a, b, e, r1, r2⟩ := (RL.app _ _ _).mp r
  obtain ⟨ea, q⟩ := (RL.ds l).mp r1
  subst ea e
  refine ⟨h.len, ⟨F, fp, sb, ?_, n⟩, h.tb, h.pin⟩
  rw [List.append_assoc, List.append_assoc]
  exact (RL.app _ _ _).mpr ⟨[], fp, rfl, (RL.ds l).mpr ⟨rfl, q⟩, (RL.app _ _ _).mpr ⟨[], fp, rfl, (RL.ds l).mpr ⟨rfl, q⟩, r2⟩⟩
/-! ### a tuple, a list, written -/
def opTup : List S → ORes := fun xs => match S.frzs xs with
  | some ys => if ys.length ≤ 100000 then .ok (.d (.tup ys)) (ys.map .d) else .stuck
  | none => .stuck
theorem ops_tup : OpS G N W (rL fun vs H Q => vs.length ≤ sizeLine ∧ ∀ p, H p = none → Q (.ref p) (upd H p (.tup vs))) opTup := fun σ ρ st H vs xs Q l h p => by
  unfold opTup at p
  cases e : S.frzs xs with
  | none =>
    rw [e] at p
    exact p.elim
  | some ys =>
    rw [e] at p
    simp only at p
    by_cases hz : ys.length ≤ 100000
    · rw [if_pos hz] at p
      obtain ⟨h1, l1⟩ := h.freezes l e
      have l2 : vs.length = ys.length := by omega
      refine ⟨by rw [l2]; exact Nat.le_trans hz (by decide), fun a ha => p.2 _ _ ?_⟩
      exact (Hs.dup1 h1 l2).newT l2 ha
    · rw [if_neg hz] at p
      exact p.elim
def opLst : List S → ORes := fun xs => match S.frzs xs with
  | some ys => if ys.length ≤ 100000 then .ok (.l ys) (ys.map .d) else .stuck
  | none => .stuck
theorem ops_lst : OpS G N W (rL fun vs H Q => vs.length ≤ sizeLine ∧ ∀ p, H p = none → Q (.ref p) (upd H p (.lst vs))) opLst := fun σ ρ st H vs xs Q l h p => by
  unfold opLst at p
  cases e : S.frzs xs with
  | none =>
    rw [e] at p
    exact p.elim
  | some ys =>
    rw [e] at p
    simp only at p
    by_cases hz : ys.length ≤ 100000
    · rw [if_pos hz] at p
      obtain ⟨h1, l1⟩ := h.freezes l e
      have l2 : vs.length = ys.length := by omega
      refine ⟨by rw [l2]; exact Nat.le_trans hz (by decide), fun a ha => p.2 _ _ ?_⟩
      exact (Hs.dup1 h1 l2).newL l2 ha
    · rw [if_neg hz] at p
      exact p.elim
/-! ### ints -/
def opI (f : Int → Int → Option D) : List S → ORes
  | [.d (.int i), .d (.int j)] => match f i j with
    | some z => .ok (.d z) [.d (.int i), .d (.int j)]
    | none => .stuck
  | _ => .stuck
/-- one argument, two -/
theorem two {vs : List V} {x y : S} (l : vs.length = [x, y].length) (h : Hs G N H σ ρ (zs vs [x, y] ++ st)) : ∃ v w, vs = [v, w] ∧ Hs G N H σ ρ ((some v, x) :: (some w, y) :: st) ∧ Hs G N H σ ρ ((some w, y) :: (some v, x) :: st) := by
  match vs, l, h with
  | [v, w], _, h => exact ⟨v, w, rfl, h, h.perm (.swap _ _ _)⟩
theorem one {vs : List V} {x : S} (l : vs.length = [x].length) (h : Hs G N H σ ρ (zs vs [x] ++ st)) : ∃ v, vs = [v] ∧ Hs G N H σ ρ ((some v, x) :: st) := by
  match vs, l, h with
  | [v], _, h => exact ⟨v, rfl, h⟩
theorem ops_I {r : R2} {f : Int → Int → Option D} (hr : ∀ i j z H Q, f i j = some z → (∀ v, (∀ F : Hp, RD G F z v) → Q v H) → r (.int i) (.int j) H Q) : OpS G N W (r2L r) (opI f) := fun σ ρ st H vs xs Q l h p => by
  have go : ∀ i j, xs = [.d (.int i), .d (.int j)] → r2L r σ vs H Q := fun i j ex => by
    subst ex
    unfold opI at p
    simp only at p
    cases e : f i j with
    | none =>
      rw [e] at p
      exact p.elim
    | some z =>
      rw [e] at p
      obtain ⟨v, w, ev, h1, h2⟩ := two l h
      subst ev
      have e1 := h1.int
      have e2 := h2.int
      subst e1 e2
      exact hr i j z H Q e fun v hv => p.2 v H (h.new hv)
  match xs, p with
  | [.d (.int i), .d (.int j)], _ => exact go i j rfl
def fAdd (i j : Int) : Option D := some (.int (i + j))
def fSub (i j : Int) : Option D := some (.int (i - j))
def fMul (i j : Int) : Option D := if i.natAbs.log2 + j.natAbs.log2 < 1000000 then some (.int (i * j)) else none
def fDiv (i j : Int) : Option D := if 0 < j ∧ j.natAbs.log2 < 9000 then some (.int (i / j)) else none
def fMod (i j : Int) : Option D := if 0 < j then some (.int (i % j)) else none
def fPow (i j : Int) : Option D := if 0 ≤ j ∧ j ≤ 1000000 ∧ i.natAbs < 2 ^ 64 then some (.int (i ^ j.toNat)) else none
def fLt (i j : Int) : Option D := some (.bl (decide (i < j)))
def fLe (i j : Int) : Option D := some (.bl (decide (i ≤ j)))
def fGt (i j : Int) : Option D := some (.bl (decide (j < i)))
def fGe (i j : Int) : Option D := some (.bl (decide (j ≤ i)))
theorem os_I0 {g : Int → Int → V} {f : Int → Int → Option D} (hf : ∀ i j z, f i j = some z → ∀ F : Hp, RD G F z (g i j)) : OpS G N W (r2L (rI0 g)) (opI f) := ops_I fun i j z H Q e k => ⟨i, j, rfl, rfl, k _ (hf i j z e)⟩
theorem os_I {C : Int → Int → Prop} {g : Int → Int → V} {f : Int → Int → Option D} (hf : ∀ i j z, f i j = some z → C i j ∧ ∀ F : Hp, RD G F z (g i j)) : OpS G N W (r2L (rI C g)) (opI f) := ops_I fun i j z H Q e k => ⟨i, j, rfl, rfl, (hf i j z e).1, k _ (hf i j z e).2⟩
theorem os_add : OpS G N W (r2L (rI0 fun i j => .int (i + j))) (opI fAdd) := os_I0 fun i j z e F => by cases e; rfl
theorem os_sub : OpS G N W (r2L (rI0 fun i j => .int (i - j))) (opI fSub) := os_I0 fun i j z e F => by cases e; rfl
theorem os_mul : OpS G N W (r2L (rI CMulW fun i j => .int (i * j))) (opI fMul) := os_I fun i j z e => by
  unfold fMul at e
  split at e
  · cases e
    exact ⟨‹_›, fun _ => rfl⟩
  · cases e
theorem os_div : OpS G N W (r2L (rI CDivW fun i j => .int (i / j))) (opI fDiv) := os_I fun i j z e => by
  unfold fDiv at e
  split at e
  · cases e
    exact ⟨‹_›, fun _ => rfl⟩
  · cases e
theorem os_mod : OpS G N W (r2L (rI (fun _ j => 0 < j) fun i j => .int (i % j))) (opI fMod) := os_I fun i j z e => by
  unfold fMod at e
  split at e
  · cases e
    exact ⟨‹_›, fun _ => rfl⟩
  · cases e
theorem os_pow : OpS G N W (r2L (rI CPow fun i j => .int (i ^ j.toNat))) (opI fPow) := os_I fun i j z e => by
  unfold fPow at e
  split at e
  · cases e
    exact ⟨‹_›, fun _ => rfl⟩
  · cases e
theorem os_lt : OpS G N W (r2L (rI0 fun i j => .bl (decide (i < j)))) (opI fLt) := os_I0 fun i j z e F => by cases e; rfl
theorem os_gt : OpS G N W (r2L (rI0 fun i j => .bl (decide (j < i)))) (opI fGt) := os_I0 fun i j z e F => by cases e; rfl
theorem os_ge : OpS G N W (r2L (rI0 fun i j => .bl (decide (j ≤ i)))) (opI fGe) := os_I0 fun i j z e F => by cases e; rfl
/-! ### deep == and != -/
end
mutual
def dPy : D → Option PyData
  | .non => some .none
  | .bl b => some (.bool b)
  | .int i => some (.int i)
  | .str x => some (.str x)
  | .tup xs => (dPys xs).map .tuple
  | .lst xs => (dPys xs).map .list
  | _ => none
def dPys : List D → Option (List PyData)
  | [] => some []
  | x :: xs => match dPy x, dPys xs with
    | some d, some ds => some (d :: ds)
    | _, _ => none
end
section
variable {G : Gx} {N : Pn} {W : WX} {H H' : Hp} {σ : L2.St} {ρ : List S} {st : Stk}
mutual
theorem dp_of {F : Hp} (sb : Sub F H) : ∀ (x : D) (v : V) (d : PyData), RD G F x v → dPy x = some d → Dp G.K H v d
  | .non, v, d, q, e => by
    cases e
    have : v = .non := q
    subst this
    exact .non
  | .bl b, v, d, q, e => by
    cases e
    have : v = .bl b := q
    subst this
    exact .bl b
  | .int b, v, d, q, e => by
    cases e
    have : v = .int b := q
    subst this
    exact .int b
  | .str b, v, d, q, e => by
    cases e
    have : v = .str b := q
    subst this
    exact .str b
  | .tup xs, v, d, q, e => by
    simp only [dPy, Option.map_eq_some_iff] at e
    obtain ⟨ds, e1, e2⟩ := e
    subst e2
    obtain ⟨a, vs, ev, sq, q2⟩ := q
    subst ev
    exact .tup (sqT_sub sb (SqT.of sq)) (dps_of sb xs vs ds q2 e1)
  | .lst xs, v, d, q, e => by
    simp only [dPy, Option.map_eq_some_iff] at e
    obtain ⟨ds, e1, e2⟩ := e
    subst e2
    obtain ⟨a, vs, ev, sq, q2⟩ := q
    subst ev
    exact .lst (sqL_sub sb sq) (dps_of sb xs vs ds q2 e1)
  | .dic _ _, v, d, q, e => by simp [dPy] at e
  | .obj _ _, v, d, q, e => by simp [dPy] at e
  | .kt _, v, d, q, e => by simp [dPy] at e
theorem dps_of {F : Hp} (sb : Sub F H) : ∀ (xs : List D) (vs : List V) (ds : List PyData), RDs G F xs vs → dPys xs = some ds → DpAll G.K H vs ds
  | [], vs, ds, q, e => by
    simp only [dPys, Option.some.injEq] at e
    subst e
    have : vs = [] := q
    subst this
    exact .nil
  | x :: xs, vs, ds, q, e => by
    obtain ⟨v, r, ev, q1, q2⟩ := q
    subst ev
    unfold dPys at e
    split at e
    · rename_i d ds' e1 e2
      cases e
      exact .cons (dp_of sb x v d q1 e1) (dps_of sb xs r ds' q2 e2)
    · cases e
end
/-- what a holding is as data (an owned list of settled things is read in place) -/
def sPy : S → Option PyData
  | .d x => dPy x
  | .l xs => (dPys xs).map .list
  | _ => none
theorem Hs.dp {v : V} {s : S} {d : PyData} (h : Hs G N H σ ρ ((some v, s) :: st)) (e : sPy s = some d) : Dp G.K H v d := by
  obtain ⟨F, fp, sb, ⟨fa, fr, ef, q, r⟩, n⟩ := h.ex
  cases s with
  | d x =>
    obtain ⟨_, w, ew, q2⟩ := q
    cases ew
    exact dp_of sb x v d q2 e
  | l xs =>
    simp only [sPy, Option.map_eq_some_iff] at e
    obtain ⟨ds, e1, e2⟩ := e
    subst e2
    obtain ⟨a, vs, ev, _, eH, _, q2⟩ := q
    cases ev
    exact .lst (.of eH) (dps_of sb xs vs ds q2 e1)
  | _ => cases e
def opEq (neg : Bool) : List S → ORes
  | [x, y] => match sPy x, sPy y with
    | some d, some e => if SeqAt.shaped d = true ∧ SeqAt.shaped e = true then .ok (.d (.bl (if neg then !PyData.eqv d e else PyData.eqv d e))) [x, y] else .stuck
    | _, _ => .stuck
  | _ => .stuck
theorem os_eq : OpS G N W (r2L (rEqD G.K)) (opEq false) := fun σ ρ st H vs xs Q l h p => by
  match xs, p, h with
  | [x, y], p, h =>
    unfold opEq at p
    simp only at p
    cases e1 : sPy x with
    | none =>
      rw [e1] at p
      exact p.elim
    | some d =>
    cases e2 : sPy y with
    | none =>
      rw [e1, e2] at p
      exact p.elim
    | some e =>
      rw [e1, e2] at p
      simp only at p
      by_cases hs : SeqAt.shaped d = true ∧ SeqAt.shaped e = true
      · rw [if_pos hs] at p
        obtain ⟨v, w, ev, h1, h2⟩ := two l h
        subst ev
        exact ⟨d, e, h1.dp e1, h2.dp e2, hs.1, hs.2, p.2 _ H (h.new fun _ => rfl)⟩
      · rw [if_neg hs] at p
        exact p.elim
theorem os_ne : OpS G N W (r2L (rNeD G.K)) (opEq true) := fun σ ρ st H vs xs Q l h p => by
  match xs, p, h with
  | [x, y], p, h =>
    unfold opEq at p
    simp only at p
    cases e1 : sPy x with
    | none =>
      rw [e1] at p
      exact p.elim
    | some d =>
    cases e2 : sPy y with
    | none =>
      rw [e1, e2] at p
      exact p.elim
    | some e =>
      rw [e1, e2] at p
      simp only at p
      by_cases hs : SeqAt.shaped d = true ∧ SeqAt.shaped e = true
      · rw [if_pos hs] at p
        obtain ⟨v, w, ev, h1, h2⟩ := two l h
        subst ev
        exact ⟨d, e, h1.dp e1, h2.dp e2, hs.1, hs.2, p.2 _ H (h.new fun _ => rfl)⟩
      · rw [if_neg hs] at p
        exact p.elim
end
end DL
/-! the data layer: methods of builtin types; more operations -/
namespace DL
open PySem PySem.Spec PyProof.Rows L2
/-! ### o.m(..), o of a builtin type -/
def tyS : S → Option String
  | .l _ => some "list"
  | .ls _ => some "list"
  | .d (.lst _) => some "list"
  | .d (.str _) => some "str"
  | .m _ _ => some "dict"
  | _ => none
def tyA (ρ : List S) : List AV → Option String
  | [.s x] => tyS x
  | [.n i] => (ρ[i]?).bind tyS
  | _ => none
def mBm (T : String) (g : List S → ORes) (a : Arg) (as : List Arg) : M S := mbind (mArgs [a]) fun av ρ => if tyA ρ av = some T then mbind (mArgs as) (fun avs => mFin g (av ++ avs)) ρ else .stuck
def rBm (r : V → List V → Hp → VK → Prop) : L2.St → List V → Hp → VK → Prop := fun _ vs H Q => match vs with
  | x :: xs => r x xs H Q
  | [] => False
section
variable {G : Gx} {N : Pn} {X : Cx} {W : WX} {H H' : Hp} {σ : L2.St} {ρ ρ' : List S} {st st' : Stk} {o e : Expr} {es : List Expr} {as : List Arg}
theorem Hs.ty {v : Option V} {s : S} {T : String} (h : Hs G N H σ ρ ((v, s) :: st)) (e : tyS s = some T) : ∃ x, v = some x ∧ tyV G.K T x H := by
  obtain ⟨F, fp, sb, ⟨a, b, ef, q, r⟩, n⟩ := h.ex
  cases s with
  | l xs =>
    cases e
    obtain ⟨a, vs, ev, _, eH, _⟩ := q
    exact ⟨_, ev, .inl ⟨rfl, vs, .of eH⟩⟩
  | ls xs =>
    cases e
    obtain ⟨a, vs, r', ev, _, eH, _⟩ := q
    exact ⟨_, ev, .inl ⟨rfl, vs, .of eH⟩⟩
  | m ks vs =>
    cases e
    obtain ⟨a, ev, _, _, z⟩ := q
    refine ⟨_, ev, .inr (.inr (.inl ⟨rfl, ?_⟩))⟩
    rcases z with ⟨kk, ws, z, _⟩ | ⟨kk, ws, z, _⟩
    · exact .inl ⟨_, z⟩
    · exact .inr ⟨_, z⟩
  | d x =>
    obtain ⟨_, v', ev, q2⟩ := q
    cases x with
    | lst xs =>
      cases e
      obtain ⟨a, vs, e1, sq, _⟩ := q2
      subst e1
      exact ⟨_, ev, .inl ⟨rfl, vs, sqL_sub sb sq⟩⟩
    | str z =>
      cases e
      have : v' = .str z := q2
      subst this
      exact ⟨_, ev, rfl⟩
    | _ => cases e
  | _ => cases e
theorem recvT {av : List AV} {v : V} {T : String} (r : AVR σ av [v]) (h : Hs G N H σ ρ (stkA av [v] ++ st)) (e : tyA ρ av = some T) : tyV G.K T v H := by
  match av, r, h, e with
  | [.s x], _, h, e =>
    obtain ⟨a, e1, e2⟩ := Hs.ty (st := st) h e
    cases e1
    exact e2
  | [.n i], r, h, e =>
    obtain ⟨_, _, q, es, _⟩ := r
    cases q
    have e' : (ρ[i]?).bind tyS = some T := e
    cases ei : ρ[i]? with
    | none => rw [ei] at e'; cases e'
    | some s =>
      rw [ei] at e'
      obtain ⟨a, e1, e2⟩ := Hs.ty (h.pull ei es) e'
      cases e1
      exact e2
theorem bm_core {T : String} {ao : Arg} {g : List S → ORes} {r : V → List V → Hp → VK → Prop} {Q : VK} (hK : X.K = G.K) (hg : OpS G N W (rBm r) g) (ho : AX G N X W [o] [ao]) (ha : AX G N X W es as) (h : Hs G N H σ ρ st)
    (p : pst G N W σ st (fun z ρ' => ∀ v H', Hs G N H' σ ρ' ((some v, z) :: st) → Q v H') (mBm T g ao as ρ)) : sE X o σ H fun x H1 => tyV X.K T x H1 ∧ sAs X es σ H1 fun vs H2 => r x vs H2 Q := by
  have k1 : sAs X [o] σ H _ := ho.bind (R := fun vs H1 => ∀ x, vs = [x] → tyV X.K T x H1 ∧ sAs X es σ H1 fun vs H2 => r x vs H2 Q) h p (fun av ρ1 vs1 H1 r1 h1 p1 x ex => by
    subst ex
    by_cases hcl : tyA ρ1 av = some T
    · rw [if_pos hcl] at p1
      refine ⟨by rw [hK]; exact recvT r1 h1 hcl, ?_⟩
      refine AX.bind (st0 := st) ha h1 p1 (fun avs ρ2 vs H2 r2 h2 p2 => ?_) fun _ _ q => q.drops
      have r3 := AVR.app r1 r2
      exact fin_ok (avs := av ++ avs) (vs := x :: vs) r3 (by
        have e3 : stkA (av ++ avs) (x :: vs) = stkA av [x] ++ stkA avs vs := stkA_app (vs := [x]) (ws := vs) r1
        rw [e3]
        refine h2.perm ?_
        rw [← List.append_assoc]
        exact List.perm_append_comm.append_right st) p2 hg
    · rw [if_neg hcl] at p1
      exact p1.elim)
  exact sE.mono k1 fun v H' q => q v rfl
theorem ex_bm {T id : String} {name : Str} {apos cpos : Pos} {ao : Arg} {g : List S → ORes} {r : V → List V → Hp → VK → Prop} (hK : X.K = G.K) (pa : PlainAttrs T) (slot : Slot T name id) (hty : typeOf (.builtin id) = pure (.type "method_descriptor")) (hm : MtR X id r) (hg : OpS G N W (rBm r) g)
    (ho : AX G N X W [o] [ao]) (ha : AX G N X W (e :: es) as) (hp : PA X (e :: es) (sAs X (e :: es))) (hbase : attributeBase o name X.env (eval o X.env) = eval o X.env := by rfl)
    (hfew : ((backTo cpos (starEach (e :: es) X.env)).all (fun x => !x.1) && (backToKw cpos (keywordEach [] X.env)).all (fun x => x.1.isSome)
      && decide ((e :: es).length + ([] : List Keyword).length + (if ([] : List Keyword).isEmpty then 0 else 1) < 30)) = true := by rfl)
    (hline : (apos.endLine == cpos.line) = true := by rfl) (hs : starEach (e :: es) X.env = (false, eval e X.env) :: starEach es X.env := by rfl) (hplain : (backTo cpos (starEach es X.env)).any (·.1) = false := by rfl) :
    EX G N X W (.Call (.Attribute o name apos) (e :: es) [] cpos) (mBm T g ao as) := fun σ ρ st H Q h p =>
  sE_of (pe_bm pa slot hty hm pe_sem hp hbase hfew hline hs hplain) (bm_core hK hg ho ha h p)
end
section
variable {G : Gx} {N : Pn} {W : WX} {H H' : Hp} {σ : L2.St} {ρ : List S} {st : Stk}
/-! ### xs.append(x), x settled; xs.pop() -/
theorem Hs.pushD {y : V} {x : D} {p : Addr} {xs : List D} {vs : List V} (h : Hs G N H σ ρ ((some (.ref p), .l xs) :: (some y, .d x) :: st)) (e : H p = some (.lst vs)) : Hs G N (upd H p (.lst (vs ++ [y]))) σ ρ ((some (.ref p), .l (xs ++ [x])) :: (some y, .d x) :: st) := by
  obtain ⟨F, fp, sb, ⟨a1, b1, ef1, ⟨p', vs', ev, ea, eH, eF, q⟩, r⟩, n⟩ := h.ex
  cases ev
  rw [e] at eH
  cases eH
  subst ea ef1
  have hr := r
  obtain ⟨a2, b2, ef2, ⟨ea2, v, evy, qy⟩, r2⟩ := hr
  cases evy
  have hnp : p ∉ b1 := (List.nodup_cons.mp n).1
  have qq : RDs G F (xs ++ [x]) (vs ++ [y]) := by
    have : ∀ (xs : List D) (vs : List V), RDs G F xs vs → RDs G F (xs ++ [x]) (vs ++ [y]) := by
      intro xs
      induction xs with
      | nil =>
        intro vs q
        have : vs = [] := q
        subst this
        exact ⟨y, [], rfl, qy, rfl⟩
      | cons z xs ih =>
        rintro vs ⟨v, r, ev, q1, q2⟩
        subst ev
        exact ⟨v, r ++ [y], rfl, q1, ih r q2⟩
    exact this xs vs q
  exact ⟨h.len, ⟨F, [p] ++ b1, sub_upd sb eF, ⟨[p], b1, rfl, ⟨p, vs ++ [y], rfl, rfl, upd_same, eF, qq⟩, RL.keep (Le.refl F) _ b1 r (fr_upd r hnp)⟩, n⟩, tabs_upd h.tb e trivial, h.pin⟩
theorem Hs.lAt {v : V} {xs : List D} (h : Hs G N H σ ρ ((some v, .l xs) :: st)) : ∃ p vs, v = .ref p ∧ H p = some (.lst vs) ∧ vs.length = xs.length := by
  obtain ⟨F, fp, sb, ⟨a1, b1, ef1, ⟨p', vs', ev, ea, eH, eF, q⟩, r⟩, n⟩ := h.ex
  cases ev
  exact ⟨p', vs', rfl, eH, q.len⟩
def opApp : List S → ORes
  | [.l xs, s] => match s.frz with
    | some x => if xs.length < 100000 then .ok (.d .non) [.l (xs ++ [x]), .d x] else .stuck
    | none => .stuck
  | _ => .stuck
theorem os_app : OpS G N W (rBm rAppend) opApp := fun σ ρ st H vs xs Q l h p => by
  match xs, p, h, l with
  | [.l xs, s], p, h, l =>
    unfold opApp at p
    simp only at p
    cases e : s.frz with
    | none =>
      rw [e] at p
      exact p.elim
    | some x =>
      rw [e] at p
      simp only at p
      by_cases hz : xs.length < 100000
      · rw [if_pos hz] at p
        obtain ⟨v, w, ev, h1, h2⟩ := two l h
        subst ev
        have h3 : Hs G N H σ ρ ((some v, .l xs) :: (some w, .d x) :: st) := (h2.freeze e).perm (.swap _ _ _)
        obtain ⟨a, vs, ev, eH, l2⟩ := h3.lAt
        subst ev
        exact ⟨a, vs, w, rfl, rfl, eH, by rw [l2]; exact Nat.lt_of_lt_of_le hz (by decide), p.2 _ _ ((h3.pushD eH).new fun _ => rfl)⟩
      · rw [if_neg hz] at p
        exact p.elim
/-! ### len, abs, int, bool -/
def lenS : S → Option Nat
  | .d (.str z) => if z.length ≤ 100000 then some z.length else none
  | s => (seqS s).map List.length
theorem lenS_cases {s : S} {n : Nat} (h : lenS s = some n) : (∃ z, s = .d (.str z) ∧ z.length ≤ 100000 ∧ n = z.length) ∨ ∃ xs, seqS s = some xs ∧ n = xs.length := by
  have go : (seqS s).map List.length = some n → ∃ xs, seqS s = some xs ∧ n = xs.length := fun h => by
    simp only [Option.map_eq_some_iff] at h
    obtain ⟨xs, h1, h2⟩ := h
    exact ⟨xs, h1, h2.symm⟩
  cases s with
  | d x =>
    cases x with
    | str z =>
      have h' : (if z.length ≤ 100000 then some z.length else none) = some n := h
      by_cases hz : z.length ≤ 100000
      · rw [if_pos hz] at h'
        exact .inl ⟨z, rfl, hz, (Option.some.inj h').symm⟩
      · rw [if_neg hz] at h'
        cases h'
    | _ => exact .inr (go h)
  | _ => exact .inr (go h)
def opLen : List S → ORes
  | [s] => match lenS s with
    | some n => .ok (.d (.int n)) [s]
    | none => .stuck
  | _ => .stuck
theorem os_len : OpS G N W (rL fun xs H Q => ∃ x n, xs = [x] ∧ LenV G.K x H n ∧ Q (.int n) H) opLen := fun σ ρ st H vs xs Q l h p => by
  match xs, p, h, l with
  | [s], p, h, l =>
    unfold opLen at p
    simp only at p
    cases e : lenS s with
    | none =>
      rw [e] at p
      exact p.elim
    | some n =>
      rw [e] at p
      obtain ⟨v, ev, h1⟩ := one l h
      subst ev
      rcases lenS_cases e with ⟨z, es, hz, en⟩ | ⟨xs', es, en⟩
      · subst es en
        have e1 := h1.str
        subst e1
        exact ⟨.str z, z.length, rfl, ⟨Nat.le_trans hz (by decide), rfl⟩, p.2 _ H (h.new fun _ => rfl)⟩
      · subst en
        obtain ⟨a, ws, e1, e2, e3, _⟩ := h1.items es
        subst e1
        refine ⟨.ref a, xs'.length, rfl, ?_, p.2 _ H (h.new fun _ => rfl)⟩
        rcases e2 with z | z
        · exact .inl ⟨ws, z, e3.symm⟩
        · exact .inr ⟨ws, z, e3.symm⟩
/-- a function of ints -/
def opF1 (f : Int → Option D) : List S → ORes
  | [.d (.int i)] => match f i with
    | some z => .ok (.d z) [.d (.int i)]
    | none => .stuck
  | _ => .stuck
theorem os_F1 {r : List V → Hp → VK → Prop} {f : Int → Option D} (hr : ∀ i z H Q, f i = some z → (∀ v, (∀ F : Hp, RD G F z v) → Q v H) → r [.int i] H Q) : OpS G N W (rL r) (opF1 f) := fun σ ρ st H vs xs Q l h p => by
  match xs, p, h, l with
  | [.d (.int i)], p, h, l =>
    unfold opF1 at p
    simp only at p
    cases e : f i with
    | none =>
      rw [e] at p
      exact p.elim
    | some z =>
      rw [e] at p
      obtain ⟨v, ev, h1⟩ := one l h
      subst ev
      have e1 := h1.int
      subst e1
      exact hr i z H Q e fun v hv => p.2 v H (h.new hv)
theorem os_F2 {r : List V → Hp → VK → Prop} {f : Int → Int → Option D} (hr : ∀ i j z H Q, f i j = some z → (∀ v, (∀ F : Hp, RD G F z v) → Q v H) → r [.int i, .int j] H Q) : OpS G N W (rL r) (opI f) := fun σ ρ st H vs xs Q l h p => by
  match xs, p, h, l with
  | [.d (.int i), .d (.int j)], p, h, l =>
    unfold opI at p
    simp only at p
    cases e : f i j with
    | none =>
      rw [e] at p
      exact p.elim
    | some z =>
      rw [e] at p
      obtain ⟨v, w, ev, h1, h2⟩ := two l h
      subst ev
      have e1 := h1.int
      have e2 := h2.int
      subst e1 e2
      exact hr i j z H Q e fun v hv => p.2 v H (h.new hv)
def fAbs (i : Int) : Option D := some (.int (if i < 0 then -i else i))
def fMax (i j : Int) : Option D := some (.int (if j > i then j else i))
def fMin (i j : Int) : Option D := some (.int (if j < i then j else i))
theorem os_abs : OpS G N W (rL fun xs H Q => ∃ i, xs = [.int i] ∧ Q (.int (if i < 0 then -i else i)) H) (opF1 fAbs) := os_F1 fun i z H Q e k => by
  cases e
  exact ⟨i, rfl, k _ fun _ => rfl⟩
theorem os_min2 : OpS G N W (rL fun xs H Q => ∃ i j, xs = [.int i, .int j] ∧ Q (.int (if j < i then j else i)) H) (opI fMin) := os_F2 fun i j z H Q e k => by
  cases e
  exact ⟨i, j, rfl, k _ fun _ => rfl⟩
def opInt : List S → ORes
  | [.d (.int i)] => .ok (.d (.int i)) [.d (.int i)]
  | [.d (.bl b)] => .ok (.d (.int (if b then 1 else 0))) [.d (.bl b)]
  | _ => .stuck
theorem os_int : OpS G N W (rL fun xs H Q => (∃ i, xs = [.int i] ∧ Q (.int i) H) ∨ ∃ k, xs = [.bl k] ∧ Q (.int (if k then 1 else 0)) H) opInt := fun σ ρ st H vs xs Q l h p => by
  match xs, p, h, l with
  | [.d (.int i)], p, h, l =>
    obtain ⟨v, ev, h1⟩ := one l h
    subst ev
    have e1 := h1.int
    subst e1
    exact .inl ⟨i, rfl, p.2 _ H (h.new fun _ => rfl)⟩
  | [.d (.bl b)], p, h, l =>
    obtain ⟨v, ev, h1⟩ := one l h
    subst ev
    have e1 := h1.bl
    subst e1
    exact .inr ⟨b, rfl, p.2 _ H (h.new fun _ => rfl)⟩
/-! ### x[i] -/
def ixS : S → Int → Option D
  | .d (.str z), i => if z.length ≤ 100000 then (atI z.cps.toList i).map fun c => .str ⟨#[c]⟩ else none
  | s, i => (seqS s).bind fun xs => atI xs i
theorem ixS_cases {s : S} {i : Int} {x : D} (h : ixS s i = some x) : (∃ z c, s = .d (.str z) ∧ z.length ≤ 100000 ∧ atI z.cps.toList i = some c ∧ x = .str ⟨#[c]⟩) ∨ ∃ xs, seqS s = some xs ∧ atI xs i = some x := by
  have go : ((seqS s).bind fun xs => atI xs i) = some x → ∃ xs, seqS s = some xs ∧ atI xs i = some x := fun h => by
    simp only [Option.bind_eq_some_iff] at h
    exact h
  cases s with
  | d y =>
    cases y with
    | str z =>
      have h' : (if z.length ≤ 100000 then (atI z.cps.toList i).map fun c => D.str ⟨#[c]⟩ else none) = some x := h
      by_cases hz : z.length ≤ 100000
      · rw [if_pos hz] at h'
        simp only [Option.map_eq_some_iff] at h'
        obtain ⟨c, h1, h2⟩ := h'
        exact .inl ⟨z, c, rfl, hz, h1, h2.symm⟩
      · rw [if_neg hz] at h'
        cases h'
    | _ => exact .inr (go h)
  | _ => exact .inr (go h)
def opIx : List S → ORes
  | [s, .d (.int i)] => match ixS s i with
    | some x => .ok (.d x) [s, .d (.int i)]
    | none => .stuck
  | _ => .stuck
theorem atI_map {α β : Type} {xs : List α} {ys : List β} (l : xs.length = ys.length) {i : Int} {x : α} (h : atI xs i = some x) : ∃ j : Nat, xs[j]? = some x ∧ atI ys i = ys[j]? := by
  unfold atI at h ⊢
  rw [← l]
  cases e : ixN xs.length i with
  | none =>
    rw [e] at h
    cases h
  | some j =>
    rw [e] at h
    exact ⟨j, h, rfl⟩
theorem os_ix : OpS G N W (r2L (rIx G.K)) opIx := fun σ ρ st H vs xs Q l h p => by
  match xs, p, h, l with
  | [s, .d (.int i)], p, h, l =>
    unfold opIx at p
    simp only at p
    cases e : ixS s i with
    | none =>
      rw [e] at p
      exact p.elim
    | some x =>
      rw [e] at p
      obtain ⟨v, w, ev, h1, h2⟩ := two l h
      subst ev
      have e2 := h2.int
      subst e2
      rcases ixS_cases e with ⟨z, c, es, hz, ec, ex⟩ | ⟨xs', es, ex⟩
      · subst es ex
        have e1 := h1.str
        subst e1
        exact .inr (.inr ⟨z, i, c, rfl, rfl, Nat.le_trans hz (by decide), ec, p.2 _ H (h.new fun _ => rfl)⟩)
      · obtain ⟨a, ws, e1, sq, l3, h4⟩ := h1.items es
        subst e1
        obtain ⟨j, ej, ew⟩ := atI_map (ys := ws) l3.symm ex
        obtain ⟨u, eu, h5⟩ := h4.one (i := j) (x := .d x) (by simpa using l3) (by simp [ej])
        have hq := p.2 u H h5
        rcases sq with z | z
        · exact .inl ⟨a, ws, i, u, rfl, rfl, z, ew.trans eu, hq⟩
        · exact .inr (.inl ⟨a, ws, i, u, rfl, rfl, z, ew.trans eu, hq⟩)
end
end DL
/-! the data layer: what is walked -/
namespace DL
open PySem PySem.Spec PyProof.Rows L2
def ioL : List S → Option (List D)
  | [s] => lstS s
  | _ => none
def ioT : List S → Option (List D)
  | [s] => tupS s
  | _ => none
def signs (z : Str) : List D := z.cps.toList.map fun c => .str ⟨#[c]⟩
def ioS : List S → Option (List D)
  | [.d (.str z)] => some (signs z)
  | _ => none
/-- a list, a tuple or a text -/
def ioA (xs : List S) : Option (List D) := match ioL xs with
  | some r => some r
  | none => match ioT xs with
    | some r => some r
    | none => ioS xs
def b62 (i : Int) : Bool := decide (-(2 ^ 62) ≤ i) && decide (i < 2 ^ 62)
def rngD (lo : Int) (n : Nat) : List D := (List.range n).map fun (k : Nat) => .int (lo + (k : Int))
def ioR1 : List S → Option (List D)
  | [.d (.int j)] => if b62 j then some (rngD 0 j.toNat) else none
  | _ => none
def ioR2 : List S → Option (List D)
  | [.d (.int i), .d (.int j)] => if b62 i && b62 j then some (rngD i (j - i).toNat) else none
  | _ => none
def ioR3 : List S → Option (List D)
  | [.d (.int i), .d (.int j), .d (.int c)] => if decide (c ≠ 0) && decide (c.natAbs < 1073741824) && Builtin.Range.small i j c && decide (0 ≤ Builtin.Range.rangeSize i j c) then some ((List.range (Builtin.Range.rangeSize i j c).toNat).map fun (k : Nat) => .int (i + (k : Int) * c)) else none
  | _ => none
def ioEn : List S → Option (List D)
  | [s] => (lstS s).map fun xs => xs.mapIdx fun i x => .tup [.int (i : Nat), x]
  | _ => none
def ioZ : List S → Option (List D)
  | [s, u] => match lstS s, lstS u with
    | some xs, some ys => some ((xs.zip ys).map fun p => .tup [p.1, p.2])
    | _, _ => none
  | _ => none
def ioRv : List S → Option (List D)
  | [s] => (lstS s).map List.reverse
  | _ => none
def ioRvT : List S → Option (List D)
  | [s] => (tupS s).map List.reverse
  | _ => none
def ioRvA (xs : List S) : Option (List D) := match ioRv xs with
  | some r => some r
  | none => ioRvT xs
section
variable {G : Gx} {N : Pn} {W : WX} {H H' : Hp} {σ : L2.St} {ρ : List S} {st : Stk} {LL : List (Addr × Obj × HO)}
theorem iter_l {a : Addr} {s : S} {xs : List D} (e : lstS s = some xs) : IterOk G LL (Itl G.K a) (zs [.ref a] [s]) xs := by
  refine ⟨fun H => ∃ vs, SqL G.K H a vs ∧ vs.length = xs.length, fun i H x H' => H' = H ∧ ∀ vs, SqL G.K H a vs → vs[i]? = some x, ⟨fun i H hi ⟨vs, q, l⟩ => ⟨vs, vs[i], q, by simp [l, hi]⟩, fun H ⟨vs, q, l⟩ => ⟨vs, q, by omega⟩, fun i H x H' hi _ y => y⟩, fun N σ ρ st H _ h => ?_, fun N σ ρ st i x H H' _ hi h y => ?_⟩
  · obtain ⟨a', vs, ea, q, l, _⟩ := Hs.itemsL h e
    cases ea
    exact ⟨vs, q, l⟩
  · obtain ⟨a', vs, ea, q, l, h2⟩ := Hs.itemsL h e
    cases ea
    obtain ⟨eH, y⟩ := y
    subst eH
    obtain ⟨w, ew, h3⟩ := h2.one (i := i) (x := .d xs[i]) (by simpa using l) (by simp [hi])
    have := y vs q
    rw [ew] at this
    cases this
    exact ⟨xs[i], by simp [hi], h3⟩
theorem iter_t {a : Addr} {s : S} {xs : List D} (e : tupS s = some xs) : IterOk G LL (Itt G.K a) (zs [.ref a] [s]) xs := by
  refine ⟨fun H => ∃ vs, SqT G.K H a vs ∧ vs.length = xs.length, fun i H x H' => H' = H ∧ ∀ vs, SqT G.K H a vs → vs[i]? = some x, ⟨fun i H hi ⟨vs, q, l⟩ => ⟨vs, vs[i], q, by simp [l, hi]⟩, fun H ⟨vs, q, l⟩ => ⟨vs, q, by omega⟩, fun i H x H' hi _ y => y⟩, fun N σ ρ st H _ h => ?_, fun N σ ρ st i x H H' _ hi h y => ?_⟩
  · obtain ⟨a', vs, ea, q, l, _⟩ := Hs.itemsT h e
    cases ea
    exact ⟨vs, q, l⟩
  · obtain ⟨a', vs, ea, q, l, h2⟩ := Hs.itemsT h e
    cases ea
    obtain ⟨eH, y⟩ := y
    subst eH
    obtain ⟨w, ew, h3⟩ := h2.one (i := i) (x := .d xs[i]) (by simpa using l) (by simp [hi])
    have := y vs q
    rw [ew] at this
    cases this
    exact ⟨xs[i], by simp [hi], h3⟩
theorem iter_fn {J : It} {src : Stk} {items : List D} {f : Nat → V} (w : Walk J items.length (fun _ => True) (YFn f)) (hf : ∀ i d, items[i]? = some d → ∀ F : Hp, RD G F d (f i)) : IterOk G LL J src items := by
  refine ⟨_, _, w, fun _ _ _ _ _ _ _ => trivial, fun N σ ρ st i x H H' _ hi h y => ?_⟩
  obtain ⟨eH, ex⟩ := y
  subst eH ex
  exact ⟨items[i], by simp [hi], h.new (hf i _ (by simp [hi]))⟩
theorem iter_s {z : Str} {v : V} : IterOk G LL (Its z) (zs [v] [.d (.str z)]) (signs z) := by
  have lz : (signs z).length = z.cps.size := by simp [signs]
  refine ⟨fun _ => True, fun i H v H' => H' = H ∧ ∃ c, z.cps[i]? = some c ∧ v = .str ⟨#[c]⟩, by rw [lz]; exact walk_str, fun _ _ _ _ _ _ _ => trivial, fun N σ ρ st i x H H' _ hi h y => ?_⟩
  obtain ⟨eH, c, ec, ex⟩ := y
  subst eH ex
  refine ⟨.str ⟨#[c]⟩, ?_, h.new fun _ => rfl⟩
  unfold signs
  rw [List.getElem?_map, Array.getElem?_toList, ec]
  rfl
/-- new pairs -/
theorem Hs.pair {x y : V} {d e : D} {T : Addr} (h : Hs G N H σ ρ ((some x, .d d) :: (some y, .d e) :: st)) (hT : H T = none) : Hs G N (upd H T (.tup [x, y])) σ ρ ((some (.ref T), .d (.tup [d, e])) :: st) :=
  Hs.newT (vs := [x, y]) (xs := [d, e]) h rfl hT
theorem iter_en {a : Addr} {s : S} {xs : List D} (e : lstS s = some xs) : IterOk G LL (Ite G.K a) (zs [.ref a] [s]) (xs.mapIdx fun i x => .tup [.int (i : Nat), x]) := by
  refine ⟨fun H => ∃ vs, SqL G.K H a vs ∧ vs.length = xs.length, fun i H v H' => ∃ T x, v = .ref T ∧ H T = none ∧ H' = upd H T (.tup [.int (i : Nat), x]) ∧ ∀ vs, SqL G.K H a vs → vs[i]? = some x, ⟨fun i H hi ⟨vs, q, l⟩ => ⟨vs, vs[i]'(by simpa [l] using hi), q, by
    have : i < vs.length := by simpa [l] using hi
    simp [this]⟩, fun H ⟨vs, q, l⟩ => ⟨vs, q, by simp [l]⟩, fun i H x H' hi _ y => y⟩, fun N σ ρ st H _ h => ?_, fun N σ ρ st i x H H' _ hi h y => ?_⟩
  · obtain ⟨a', vs, ea, q, l, _⟩ := Hs.itemsL h e
    cases ea
    exact ⟨vs, q, l⟩
  · obtain ⟨a', vs, ea, q, l, h2⟩ := Hs.itemsL h e
    cases ea
    obtain ⟨T, z, ex, hT, eH, y⟩ := y
    subst eH ex
    have hi' : i < xs.length := by simpa using hi
    obtain ⟨w, ew, h3⟩ := h2.one (i := i) (x := .d xs[i]) (by simpa using l) (by simp [hi'])
    have := y vs q
    rw [ew] at this
    cases this
    have h4 : Hs G N H σ ρ ((some (.int (i : Nat)), .d (.int (i : Nat))) :: (some z, .d xs[i]) :: (zs [.ref a] [s] ++ st)) := Hs.new h3 fun _ => rfl
    exact ⟨.tup [.int (i : Nat), xs[i]], by simp [hi'], h4.pair hT⟩
/-! ### readings of iterables -/
/-- a list, a tuple, a text -/
def rA (K : PySem.W.Frag) : List V → Hp → (It → Hp → Prop) → Prop := fun vs H R => (∃ a, vs = [.ref a] ∧ (∃ xs, SqL K H a xs) ∧ R (Itl K a) H) ∨ (∃ a, vs = [.ref a] ∧ (∃ xs, SqT K H a xs) ∧ R (Itt K a) H) ∨ ∃ z, vs = [.str z] ∧ R (Its z) H
theorem ioA_one {xs : List S} {r : List D} (h : ioA xs = some r) : ∃ s, xs = [s] := by
  match xs with
  | [s] => exact ⟨s, rfl⟩
  | [] => cases h
  | a :: b :: l =>
    have e : ioA (a :: b :: l) = none := by
      show ioS (a :: b :: l) = none
      unfold ioS
      split
      · rename_i heq
        cases heq
      · rfl
    rw [e] at h
    cases h
theorem str_of {s : S} {r : List D} (h : ioS [s] = some r) : ∃ z, s = .d (.str z) ∧ r = signs z := by
  match s, h with
  | .d (.str z), h => exact ⟨z, rfl, (Option.some.inj h).symm⟩
theorem it_a : ItS G (rA G.K) ioA := fun N σ ρ st H vs xs items R l h e k => by
  obtain ⟨s, es⟩ := ioA_one e
  subst es
  unfold ioA at e
  · skip
    obtain ⟨v, ev, h1⟩ := one l h
    subst ev
    cases e1 : lstS s with
    | some ys =>
      have e' : ioL [s] = some ys := e1
      rw [e'] at e
      cases e
      obtain ⟨a, ws, ea, q, _, _⟩ := h1.itemsL e1
      subst ea
      exact .inl ⟨a, rfl, ⟨ws, q⟩, k _ H [] (iter_l e1) h⟩
    | none =>
      have e' : ioL [s] = none := e1
      rw [e'] at e
      simp only at e
      cases e2 : tupS s with
      | some ys =>
        have e'' : ioT [s] = some ys := e2
        rw [e''] at e
        cases e
        obtain ⟨a, ws, ea, q, _, _⟩ := h1.itemsT e2
        subst ea
        exact .inr (.inl ⟨a, rfl, ⟨ws, q⟩, k _ H [] (iter_t e2) h⟩)
      | none =>
        have e'' : ioT [s] = none := e2
        rw [e''] at e
        simp only at e
        obtain ⟨z, ez, er⟩ := str_of e
        subst ez er
        have e3 := h1.str
        subst e3
        exact .inr (.inr ⟨z, rfl, k _ H [] iter_s h⟩)
theorem pi_a {X : Cx} {tg l : Expr} : PI X tg l (fun σ H R => sAs X [l] σ H fun vs H1 => rA X.K vs H1 R) := by
  refine ⟨fun pins s σ H R I h => ?_⟩
  refine thn (h pins s I) fun v s1 ⟨x, H1, I1, r1, q1⟩ => ?_
  have q1 : rA X.K [x] H1 R := q1
  have fresh : ∀ b ∈ [s1.heap.objs.size], FpOk X pins H1 b := fun b hb => by
    have e : b = s1.heap.objs.size := by simpa using hb
    subst e
    exact I1.fpOk (Nat.le_refl _) (I1.hok.fresh (Nat.le_refl _))
  rcases q1 with ⟨a, e, ⟨xs, hq⟩, q⟩ | ⟨a, e, ⟨xs, hq⟩, q⟩ | ⟨z, e, q⟩
  · cases e
    obtain rfl : v = Value.ref a := r1
    obtain ⟨its, rv, p, hz⟩ := I1.list hq
    exact wpAny_pyIter_list p.isList ⟨s1.heap.objs.size, [s1.heap.objs.size], _, _, H1, rfl, I1.kept (t' := s1.toks) fun b o e => Heap.get?_push_of_some _ e, turn_list a _, ⟨_, Heap.get?_push_size _ rfl, rfl, rfl⟩, fresh, q⟩
  · cases e
    obtain rfl : v = Value.ref a := r1
    obtain ⟨its, rv, p, hz⟩ := I1.tuple hq
    exact wpAny_pyIter_tuple (show s1.heap.IsTuple a its.toArray from p) ⟨s1.heap.objs.size, [s1.heap.objs.size], _, _, H1, rfl, I1.kept (t' := s1.toks) fun b o e => Heap.get?_push_of_some _ e, turn_tuple a _, ⟨_, Heap.get?_push_size _ rfl, rfl, rfl⟩, fresh, q⟩
  · cases e
    obtain ⟨t, rfl⟩ := r1
    cases ha : z.cps.all (· < 128)
    · exact wpAny_pyIter_wide ha (pi_one (tk := s1.toks) I1 _ (turn_str _ z t "str_iterator" (.inr rfl)) ⟨_, Heap.get?_push_size _ rfl, rfl, rfl⟩ q)
    · exact wpAny_pyIter_ascii ha (pi_one (tk := s1.toks) I1 _ (turn_str _ z t "str_ascii_iterator" (.inl rfl)) ⟨_, Heap.get?_push_size _ rfl, rfl, rfl⟩ q)
def rR1 : List V → Hp → (It → Hp → Prop) → Prop := fun vs H R => ∃ j : Int, vs = [.int j] ∧ -(2 ^ 62) ≤ j ∧ j < 2 ^ 62 ∧ R (Itr 0 j.toNat) H
def rEn (K : PySem.W.Frag) : List V → Hp → (It → Hp → Prop) → Prop := fun vs H R => ∃ a xs, vs = [.ref a] ∧ SqL K H a xs ∧ R (Ite K a) H
theorem rng_at {lo : Int} {n i : Nat} {d : D} (h : (rngD lo n)[i]? = some d) : d = .int (lo + (i : Int)) := by
  unfold rngD at h
  rw [List.getElem?_map] at h
  cases e : (List.range n)[i]? with
  | none =>
    rw [e] at h
    cases h
  | some k =>
    rw [e] at h
    obtain ⟨hk, e2⟩ := List.getElem?_eq_some_iff.mp e
    rw [List.getElem_range] at e2
    subst e2
    exact (Option.some.inj h).symm
theorem rng_len {lo : Int} {n : Nat} : (rngD lo n).length = n := by simp [rngD]
theorem b62_of {i : Int} (h : b62 i = true) : -(2 ^ 62) ≤ i ∧ i < 2 ^ 62 := by simpa [b62] using h
theorem it_r1 : ItS G rR1 ioR1 := fun N σ ρ st H vs xs items R l h e k => by
  match xs, e, h, l, k with
  | [.d (.int j)], e, h, l, k =>
    obtain ⟨v, ev, h1⟩ := one l h
    subst ev
    have e1 := h1.int
    subst e1
    unfold ioR1 at e
    simp only at e
    by_cases hb : b62 j = true
    · rw [if_pos hb] at e
      cases e
      refine ⟨j, rfl, (b62_of hb).1, (b62_of hb).2, k _ H [] (iter_fn (f := fun i => .int (0 + (i : Int))) (by rw [rng_len]; exact walk_range) fun i d ed F => ?_) h⟩
      rw [rng_at ed]
      rfl
    · rw [if_neg hb] at e
      cases e
theorem it_en : ItS G (rEn G.K) ioEn := fun N σ ρ st H vs xs items R l h e k => by
  match xs, e, h, l, k with
  | [s], e, h, l, k =>
    obtain ⟨v, ev, h1⟩ := one l h
    subst ev
    simp only [ioEn, Option.map_eq_some_iff] at e
    obtain ⟨ys, e1, e2⟩ := e
    subst e2
    obtain ⟨a, ws, ea, q, _, _⟩ := h1.itemsL e1
    subst ea
    exact ⟨a, ws, rfl, q, k _ H [] (iter_en e1) h⟩
end
end DL
/-! the data layer: the head's defs; more operations and statements -/
namespace DL
open PySem PySem.Spec PyProof.Rows L2
/-- a def that the head tells, its code object known -/
theorem funC_of {fa : List He.Fa} {fn : List He.DefD} {ts : List He.Tab} {tf : List He.Defn} {ex : PySem.W.Frag → Bool} {w : World} {h : Heap} {K : PySem.W.Frag} (c : He.SaysX fa fn ts tf ex w h K) {d : He.DefD} (hd : d ∈ fn) (stm : Stmt) (e1 : d.params = defArgs stm := by rfl) (e2 : d.body = defBody stm := by rfl) (e3 : d.scope = defScope stm := by rfl) (e4 : d.dfl = [] := by rfl)
    (e5 : d.kwd = [] := by rfl) (cd : He.SaysD fa fn K) : ∃ fd, FunC K d.name d.qual stm (He.fAd K d.at_) (He.codeOf K d.at_) fd := by
  obtain ⟨fd, F⟩ := cd.defs hd
  obtain ⟨oc, od, dV, kV, doc, pm, an, cdv, ct, osl, efd, lk, hcd, hD, hK⟩ := F.ex
  obtain ⟨cc, ec⟩ := He.codeIn_ref hcd
  subst ec
  have eD : dV = .none := by
    rcases hD with ⟨_, z⟩ | ⟨z, _⟩
    · exact z
    · exact absurd (by unfold He.DefD.dvs; rw [e4]; rfl) z
  subst eD efd
  have eC : He.codeOf K d.at_ = cc := He.codeOf_eq lk rfl
  rw [eC]
  refine ⟨_, ⟨⟨oc, od, kV, doc, pm, an, ct, osl, ?_, lk, hcd⟩, F.kp⟩⟩
  rw [e1, e2, e3]
section
variable {G : Gx} {N : Pn} {X : Cx} {W : WX} {H H' : Hp} {σ : L2.St} {ρ ρ' : List S} {st : Stk} {En : Ends} {e a b : Expr} {es : List Expr} {as : List Arg} {pos : Pos} {f fa fb fc : M S}
/-! ### either of two operations -/
def opOr (g h : List S → ORes) : List S → ORes := fun xs => match g xs with
  | .stuck => h xs
  | r => r
theorem os_or2 {r r' : R2} {g h : List S → ORes} (a : OpS G N W (r2L r) g) (b : OpS G N W (r2L r') h) : OpS G N W (r2L fun x y H Q => r x y H Q ∨ r' x y H Q) (opOr g h) := fun σ ρ st H vs xs Q l hs p => by
  have key : r2L r σ vs H Q ∨ r2L r' σ vs H Q := by
    unfold opOr at p
    cases hg : g xs with
    | stuck =>
      rw [hg] at p
      exact .inr (b σ ρ st H vs xs Q l hs p)
    | ok z outs =>
      rw [hg] at p
      exact .inl (a σ ρ st H vs xs Q l hs (by rw [hg]; exact p))
    | exc c q outs =>
      rw [hg] at p
      exact .inl (a σ ρ st H vs xs Q l hs (by rw [hg]; exact p))
  match vs, key with
  | [x, y], key => exact key
  | [], key => exact key.elim id id
  | [_], key => exact key.elim id id
  | _ :: _ :: _ :: _, key => exact key.elim id id
/-! ### list(x), tuple(x) -/
def opList : List S → ORes
  | [s] => match seqS s with
    | some xs => .ok (.l xs) [s]
    | none => .stuck
  | _ => .stuck
theorem os_list : OpS G N W (rL fun xs H Q => ∃ p ys, xs = [.ref p] ∧ (SqL G.K H p ys ∨ SqT G.K H p ys) ∧ ∀ l, H l = none → Q (.ref l) (upd H l (.lst ys))) opList := fun σ ρ st H vs xs Q l h p => by
  match xs, p, h, l with
  | [s], p, h, l =>
    unfold opList at p
    simp only at p
    cases e : seqS s with
    | none =>
      rw [e] at p
      exact p.elim
    | some xs' =>
      rw [e] at p
      obtain ⟨v, ev, h1⟩ := one l h
      subst ev
      obtain ⟨a, ws, e1, sq, l3, h4⟩ := h1.items e
      subst e1
      exact ⟨a, ws, rfl, sq, fun q hq => p.2 _ _ (h4.newL l3 hq)⟩
def tup1S : S → Option (List D)
  | .d (.tup xs) => some xs
  | _ => none
def opTuple : List S → ORes
  | [s] => match lstS s with
    | some xs => .ok (.d (.tup xs)) [s]
    | none => match tup1S s with
      | some xs => .ok (.d (.tup xs)) [s]
      | none => .stuck
  | _ => .stuck
theorem os_tuple : OpS G N W (rL fun xs H Q => ∃ p ys, xs = [.ref p] ∧ ((SqL G.K H p ys ∧ ∀ l, H l = none → Q (.ref l) (upd H l (.tup ys))) ∨ (SqT G.K H p ys ∧ Q (.ref p) H))) opTuple := fun σ ρ st H vs xs Q l h p => by
  match xs, p, h, l with
  | [s], p, h, l =>
    unfold opTuple at p
    simp only at p
    obtain ⟨v, ev, h1⟩ := one l h
    subst ev
    cases e : lstS s with
    | some xs' =>
      rw [e] at p
      obtain ⟨a, ws, e1, sq, l3, h4⟩ := h1.itemsL e
      subst e1
      exact ⟨a, ws, rfl, .inl ⟨sq, fun q hq => p.2 _ _ (h4.newT l3 hq)⟩⟩
    | none =>
      rw [e] at p
      simp only at p
      cases e2 : tup1S s with
      | none =>
        rw [e2] at p
        exact p.elim
      | some xs' =>
        rw [e2] at p
        have es : s = .d (.tup xs') := by
          cases s with
          | d x =>
            cases x with
            | tup ys =>
              cases e2
              rfl
            | _ => cases e2
          | _ => cases e2
        subst es
        obtain ⟨a, ws, e1, sq, l3, _⟩ := h1.itemsT (xs := xs') rfl
        subst e1
        exact ⟨a, ws, rfl, .inr ⟨sq, p.2 _ _ h1.dup⟩⟩
/-! ### list + list, both owned -/
theorem zs_app {vs ws : List V} {xs ys : List S} (l : vs.length = xs.length) : zs (vs ++ ws) (xs ++ ys) = zs vs xs ++ zs ws ys := by
  unfold zs
  rw [List.map_append, List.zip_append (by simp [l])]
def opCat : List S → ORes
  | [.l xs, .l ys] => if xs.length + ys.length ≤ 100000 then .ok (.l (xs ++ ys)) [.l xs, .l ys] else .stuck
  | _ => .stuck
/-! ### xs[i] = v, an owned list, v settled -/
theorem RDs.set {F : Hp} : ∀ {xs : List D} {vs : List V} {j : Nat} {x : D} {v : V}, RDs G F xs vs → RD G F x v → RDs G F (xs.set j x) (vs.set j v)
  | [], vs, j, x, v, q, _ => by
    have : vs = [] := q
    subst this
    exact rfl
  | y :: xs, _, 0, x, v, ⟨w, r, ev, q1, q2⟩, q => by
    subst ev
    exact ⟨v, r, rfl, q, q2⟩
  | y :: xs, _, j + 1, x, v, ⟨w, r, ev, q1, q2⟩, q => by
    subst ev
    exact ⟨w, r.set j v, rfl, q1, RDs.set q2 q⟩
def opSetL : List S → ORes
  | [s, .l xs, .d (.int i)] => match s.frz, ixN xs.length i with
    | some x, some j => .ok (.d .non) [.d x, .l (xs.set j x), .d (.int i)]
    | _, _ => .stuck
  | _ => .stuck
theorem os_setL : OpS G N W (rSet rSetL) opSetL := fun σ ρ st H vs xs Q l h p => by
  match xs, p, h, l with
  | [s, .l xs, .d (.int i)], p, h, l =>
    unfold opSetL at p
    simp only at p
    cases e1 : s.frz with
    | none =>
      rw [e1] at p
      exact p.elim
    | some x =>
    cases e2 : ixN xs.length i with
    | none =>
      rw [e1, e2] at p
      exact p.elim
    | some j =>
      rw [e1, e2] at p
      match vs, l, h with
      | [v, o, k], l, h =>
        have h1 : Hs G N H σ ρ ((some v, .d x) :: (some o, .l xs) :: (some k, .d (.int i)) :: st) := Hs.freeze h e1
        have h2 : Hs G N H σ ρ ((some o, .l xs) :: (some v, .d x) :: (some k, .d (.int i)) :: st) := h1.perm (.swap _ _ _)
        have h3 : Hs G N H σ ρ ((some k, .d (.int i)) :: (some o, .l xs) :: (some v, .d x) :: st) := h2.perm (((List.Perm.swap _ _ _).cons _).trans (.swap _ _ _))
        have ek := h3.int
        subst ek
        obtain ⟨F, fp, sb, ⟨a1, b1, ef1, ⟨p', vs', ev, ea, eH, eF, q⟩, r⟩, n⟩ := h2.ex
        cases ev
        subst ea ef1
        obtain ⟨a2, b2, ef2, ⟨ea2, w, ew, qx⟩, r2⟩ := id r
        cases ew
        refine ⟨p', vs', i, j, rfl, rfl, eH, by rw [q.len]; exact e2, p.2 .non _ ?_⟩
        have hnp : p' ∉ b1 := (List.nodup_cons.mp n).1
        have h4 : Hs G N (upd H p' (.lst (vs'.set j v))) σ ρ ((some (.ref p'), .l (xs.set j x)) :: (some v, .d x) :: (some (.int i), .d (.int i)) :: st) :=
          ⟨h2.len, ⟨F, [p'] ++ b1, sub_upd sb eF, ⟨[p'], b1, rfl, ⟨p', vs'.set j v, rfl, rfl, upd_same, eF, RDs.set q qx⟩, RL.keep (Le.refl F) _ b1 r (fr_upd r hnp)⟩, n⟩, tabs_upd h2.tb eH trivial, h2.pin⟩
        exact (h4.perm (.swap _ _ _)).new fun _ => rfl
/-! ### a value to a tuple of targets -/
def bAsgT (t : Tg) (f : M S) : B := bdo f fun s ρ => match asgT t s ρ with
  | some ρ' => .nx ρ'
  | none => .stuck
/-! ### slices -/
/-- a part of a slice: an int, or none -/
def mPart : Option (M S) → M (Option Int)
  | none => mpure none
  | some f => mbind f fun s => match s with
    | .d (.int i) => mpure (some i)
    | _ => mstuck
def cutD (xs : List D) (lo hi : Option Int) : List D := (xs.drop (HT.sIx xs.length 0 lo)).take (HT.sIx xs.length xs.length hi - HT.sIx xs.length 0 lo)
end
end DL
/-! the data layer: slices, max and min of data -/
namespace DL
open PySem PySem.Spec PyProof.Rows L2
theorem RDs.dropN {G : Gx} {F : Hp} : ∀ (n : Nat) {xs : List D} {vs : List V}, RDs G F xs vs → RDs G F (xs.drop n) (vs.drop n)
  | 0, _, _, h => h
  | n + 1, [], vs, h => by
    have : vs = [] := h
    subst this
    exact rfl
  | n + 1, x :: xs, _, ⟨v, r, e, _, q⟩ => by
    subst e
    exact RDs.dropN n q
theorem RDs.takeN {G : Gx} {F : Hp} : ∀ (n : Nat) {xs : List D} {vs : List V}, RDs G F xs vs → RDs G F (xs.take n) (vs.take n)
  | 0, _, _, _ => rfl
  | n + 1, [], vs, h => by
    have : vs = [] := h
    subst this
    exact rfl
  | n + 1, x :: xs, _, ⟨v, r, e, q1, q⟩ => by
    subst e
    exact ⟨v, r.take n, rfl, q1, RDs.takeN n q⟩
section
variable {G : Gx} {N : Pn} {X : Cx} {W : WX} {H H' : Hp} {σ : L2.St} {ρ ρ' : List S} {st : Stk} {e a b : Expr} {pos p2 : Pos} {f : M S}
/-- other data of the same values -/
theorem Hs.resee {vs ws : List V} {xs ys : List D} (l : vs.length = xs.length) (l2 : ws.length = ys.length) (h : Hs G N H σ ρ (zs vs (xs.map .d) ++ st)) (k : ∀ F : Hp, RDs G F xs vs → RDs G F ys ws) : Hs G N H σ ρ (zs ws (ys.map .d) ++ st) := by
  obtain ⟨F, fp, sb, r, n⟩ := h.ex
  rw [List.append_assoc] at r
  obtain ⟨a, b, e, r1, r2⟩ := (RL.app _ _ _).mp r
  obtain ⟨ea, q⟩ := (RL.ds l).mp r1
  refine ⟨h.len, ⟨F, fp, sb, ?_, n⟩, h.tb, h.pin⟩
  rw [List.append_assoc]
  exact (RL.app _ _ _).mpr ⟨a, b, e, (RL.ds l2).mpr ⟨ea, k F q⟩, r2⟩
def slD (lo hi : Option Int) : S → Option S
  | .l xs => some (.l (cutD xs lo hi))
  | .d (.lst xs) => some (.l (cutD xs lo hi))
  | .d (.tup xs) => some (.d (.tup (cutD xs lo hi)))
  | _ => none
def mSlice (f : M S) (lo hi : Option (M S)) : M S := mbind f fun s => mbind (mPart lo) fun i => mbind (mPart hi) fun j => match slD i j s with
  | some z => mpure z
  | none => mstuck
/-- a bound of a slice -/
inductive PtX (G : Gx) (N : Pn) (X : Cx) (W : WX) : Option Expr → Option (M S) → Prop
  | none : PtX G N X W none none
  | some {e : Expr} {f : M S} : EX G N X W e f → PtX G N X W (some e) (some f)
def sPt (X : Cx) : Option Expr → TO
  | none => tNoPart
  | some e => tPart (sE X e)
theorem po_sem {X : Cx} : ∀ {o : Option Expr}, PO X o (sPt X o)
  | none => po_none
  | some _ => po_some pe_sem
theorem pt_run {o : Option Expr} {m : Option (M S)} (h : PtX G N X W o m) (hs : Hs G N H σ ρ st) {st0 : Stk} {β : Type} {K : β → List S → Prop} {g : Option Int → M β} {R : Option Int → Hp → Prop} (p : pst G N W σ st0 K (mbind (mPart m) g ρ))
    (k : ∀ o ρ1 H1, Hs G N H1 σ ρ1 st → pst G N W σ st0 K (g o ρ1) → R o H1) (d : ∀ H ρ, Hs G N H σ ρ st → Hs G N H σ ρ st0) : sPt X o σ H R := by
  cases h with
  | none => exact k none ρ H hs p
  | some he =>
    rename_i e f
    have p' : pst G N W σ st0 K (mbind f (fun s => mbind (match s with
      | .d (.int i) => mpure (some i)
      | _ => mstuck) g) ρ) := by
      have e1 : mbind (mPart (some f)) g ρ = mbind f (fun s => mbind (match s with
        | .d (.int i) => mpure (some i)
        | _ => mstuck) g) ρ := by
        show mbind (mbind f _) g ρ = _
        unfold mbind
        cases f ρ <;> rfl
      rw [e1] at p
      exact p
    refine he.bind hs p' (fun s ρ1 v H1 h1 p1 => ?_) d
    have go : ∀ i, s = .d (.int i) → ∃ i, v = .int i ∧ R (some i) H1 := fun i es => by
      subst es
      exact ⟨i, h1.int, k (some i) ρ1 H1 h1.drop p1⟩
    match s, go, p1 with
    | .d (.int i), go, _ => exact go i rfl
theorem cut_len {vs : List V} {xs : List D} (l : vs.length = xs.length) (lo hi : Option Int) : (cutV vs lo hi).length = (cutD xs lo hi).length := by
  unfold cutV cutD
  rw [List.length_take, List.length_take, List.length_drop, List.length_drop, l]
theorem cut_rds {vs : List V} {xs : List D} (l : vs.length = xs.length) (lo hi : Option Int) (F : Hp) (q : RDs G F xs vs) : RDs G F (cutD xs lo hi) (cutV vs lo hi) := by
  unfold cutV cutD
  rw [l]
  exact RDs.takeN _ (RDs.dropN _ q)
theorem ex_sl {lo hi : Option Expr} {ml mh : Option (M S)} (hK : X.K = G.K) (he : EX G N X W e f) (hl : PtX G N X W lo ml) (hh : PtX G N X W hi mh) : EX G N X W (.Subscript e (.Slice lo hi none p2) pos) (mSlice f ml mh) := fun σ ρ st H Q h p => by
  refine sE_of (pe_slice (SlR.or sl_list sl_tupA) pe_sem po_sem po_sem) ?_
  refine he.bind h p fun s ρ1 v H1 h1 p1 => ?_
  refine pt_run hl h1 p1 (fun i ρ2 H2 h2 p2 => ?_) fun _ _ q => q.drop
  refine pt_run hh h2 p2 (fun j ρ3 H3 h3 p3 => ?_) fun _ _ q => q.drop
  cases es : slD i j s with
  | none =>
    rw [es] at p3
    exact p3.elim
  | some z =>
    rw [es] at p3
    have p3' : ∀ v H', Hs G N H' σ ρ3 ((some v, z) :: st) → Q v H' := p3
    have goL : ∀ xs, lstS s = some xs → z = .l (cutD xs i j) → rSlL X.K v i j H3 Q ∨ rSlA X.K v i j H3 Q := fun xs e1 ez => by
      subst ez
      obtain ⟨a, ws, ea, sq, l3, h4⟩ := h3.itemsL e1
      subst ea
      refine .inl ⟨a, ws, rfl, by rw [hK]; exact sq, fun q hq => p3' _ _ ?_⟩
      exact ((Hs.resee l3 (cut_len l3 i j) h4 fun F q => cut_rds l3 i j F q).newL (cut_len l3 i j) hq).perm (.swap _ _ _) |>.drop
    have goT : ∀ xs, s = .d (.tup xs) → z = .d (.tup (cutD xs i j)) → rSlL X.K v i j H3 Q ∨ rSlA X.K v i j H3 Q := fun xs e1 ez => by
      subst ez e1
      obtain ⟨a, ws, ea, sq, l3, h4⟩ := h3.itemsT (xs := xs) rfl
      subst ea
      refine .inr ⟨a, ws, rfl, by rw [hK]; exact sq, fun hw => p3' _ _ ?_, fun _ q hq => p3' _ _ ?_⟩
      · have e2 : cutD xs i j = xs := by
          unfold cutD
          rw [l3] at hw
          rw [hw.1, hw.2, List.drop_zero, Nat.sub_zero, List.take_length]
        rw [e2]
        exact h3
      · exact ((Hs.resee l3 (cut_len l3 i j) h4 fun F q => cut_rds l3 i j F q).newT (cut_len l3 i j) hq).perm (.swap _ _ _) |>.drop
    match s, es, goL, goT with
    | .l xs, es, goL, _ =>
      cases es
      exact goL xs rfl rfl
    | .d (.lst xs), es, goL, _ =>
      cases es
      exact goL xs rfl rfl
    | .d (.tup xs), es, _, goT =>
      cases es
      exact goT xs rfl rfl
end
end DL
/-! the data layer: max and min of data -/
namespace DL
open PySem PySem.Spec PyProof.Rows L2 PySem.W
mutual
theorem dPy_inj : ∀ (x y : D) (d : PyData), dPy x = some d → dPy y = some d → x = y
  | .non, y, d, h, k => by
    cases h
    cases y with
    | non => rfl
    | tup ys => simp [dPy] at k
    | lst ys => simp [dPy] at k
    | _ => simp [dPy] at k
  | .bl b, y, d, h, k => by
    cases h
    cases y with
    | bl c => simpa [dPy] using k.symm
    | tup ys => simp [dPy] at k
    | lst ys => simp [dPy] at k
    | _ => simp [dPy] at k
  | .int b, y, d, h, k => by
    cases h
    cases y with
    | int c => simpa [dPy] using k.symm
    | tup ys => simp [dPy] at k
    | lst ys => simp [dPy] at k
    | _ => simp [dPy] at k
  | .str b, y, d, h, k => by
    cases h
    cases y with
    | str c => simpa [dPy] using k.symm
    | tup ys => simp [dPy] at k
    | lst ys => simp [dPy] at k
    | _ => simp [dPy] at k
  | .tup xs, y, d, h, k => by
    simp only [dPy, Option.map_eq_some_iff] at h
    obtain ⟨ds, h1, h2⟩ := h
    subst h2
    cases y with
    | tup ys =>
      simp only [dPy, Option.map_eq_some_iff] at k
      obtain ⟨es, k1, k2⟩ := k
      cases k2
      rw [dPys_inj xs ys ds h1 k1]
    | lst ys => simp [dPy] at k
    | _ => simp [dPy] at k
  | .lst xs, y, d, h, k => by
    simp only [dPy, Option.map_eq_some_iff] at h
    obtain ⟨ds, h1, h2⟩ := h
    subst h2
    cases y with
    | lst ys =>
      simp only [dPy, Option.map_eq_some_iff] at k
      obtain ⟨es, k1, k2⟩ := k
      cases k2
      rw [dPys_inj xs ys ds h1 k1]
    | tup ys => simp [dPy] at k
    | _ => simp [dPy] at k
  | .dic _ _, y, d, h, k => by simp [dPy] at h
  | .obj _ _, y, d, h, k => by simp [dPy] at h
  | .kt _, y, d, h, k => by simp [dPy] at h
theorem dPys_inj : ∀ (xs ys : List D) (ds : List PyData), dPys xs = some ds → dPys ys = some ds → xs = ys
  | [], ys, ds, h, k => by
    simp only [dPys, Option.some.injEq] at h
    subst h
    cases ys with
    | nil => rfl
    | cons y ys =>
      unfold dPys at k
      split at k <;> cases k
  | x :: xs, ys, ds, h, k => by
    unfold dPys at h
    split at h
    · rename_i d ds' e1 e2
      cases h
      cases ys with
      | nil => simp [dPys] at k
      | cons y ys =>
        unfold dPys at k
        split at k
        · rename_i d' ds'' e3 e4
          cases k
          rw [dPy_inj x y d e1 e3, dPys_inj xs ys ds' e2 e4]
        · cases k
    · cases h
end
def py (x : D) : PyData := (dPy x).getD .none
theorem dPys_at : ∀ {xs : List D} {ds : List PyData}, dPys xs = some ds → ds.length = xs.length ∧ ∀ (i : Nat) (x : D), xs[i]? = some x → ∃ d, dPy x = some d ∧ ds[i]? = some d
  | [], ds, h => by
    simp only [dPys, Option.some.injEq] at h
    subst h
    exact ⟨rfl, fun i x e => by simp at e⟩
  | x :: xs, ds, h => by
    unfold dPys at h
    split at h
    · rename_i d ds' e1 e2
      cases h
      obtain ⟨l, k⟩ := dPys_at e2
      refine ⟨by simp [l], fun i y e => ?_⟩
      cases i with
      | zero =>
        cases e
        exact ⟨d, e1, rfl⟩
      | succ i => exact k i y (by simpa using e)
    · cases h
/-- the greatest, the least of data -/
def bestD (lt : PyData → PyData → Bool) (x : D) (xs : List D) : D := xs.foldl (fun a y => if lt (py a) (py y) then y else a) x
theorem best_py {lt : PyData → PyData → Bool} : ∀ {xs : List D} {x : D} {d : PyData} {ds : List PyData}, dPy x = some d → dPys xs = some ds → dPy (bestD lt x xs) = some (ds.foldl (fun a y => if lt a y then y else a) d)
  | [], x, d, ds, h, k => by
    simp only [dPys, Option.some.injEq] at k
    subst k
    exact h
  | y :: ys, x, d, ds, h, k => by
    unfold dPys at k
    split at k
    · rename_i e es e1 e2
      cases k
      have hp : py x = d := by unfold py; rw [h]; rfl
      have hq : py y = e := by unfold py; rw [e1]; rfl
      show dPy (bestD lt (if lt (py x) (py y) then y else x) ys) = _
      rw [hp, hq]
      refine best_py (d := if lt d e then e else d) ?_ e2
      split
      · exact e1
      · exact h
    · cases k
def alikeB (ds : List PyData) : Bool := ds.all fun x => ds.all (fun y => alike x y) && (match x with
  | .none => false
  | _ => true)
theorem alike_of {ds : List PyData} (h : alikeB ds = true) : AlikeAll ds := by
  unfold alikeB at h
  simp only [List.all_eq_true, Bool.and_eq_true] at h
  refine ⟨fun x hx y hy => (h x hx).1 y hy, fun x hx z => ?_⟩
  have := (h x hx).2
  rw [z] at this
  cases this
def rMx (K : PySem.W.Frag) (best : PyData → List PyData → PyData) : List V → Hp → VK → Prop := fun vs H Q => ∃ a ws d ds, vs = [.ref a] ∧ (SqL K H a ws ∨ SqT K H a ws) ∧ DpAll K H ws (d :: ds) ∧ AlikeAll (d :: ds) ∧ PyData.depthAll (d :: ds) ≤ 64 ∧
  ∀ (i : Nat) w, ws[i]? = some w → (d :: ds)[i]? = some (best d ds) → Q w H
section
variable {X : Cx}
theorem Vals.getV : ∀ {xs : List V} {us : List Value} {i : Nat} {u : Value}, Vals xs us → us[i]? = some u → ∃ x, xs[i]? = some x ∧ RelV x u
  | _, _, _, _, .nil, e => by simp at e
  | _, _, 0, _, .cons r _, e => by
    cases e
    exact ⟨_, rfl, r⟩
  | _, _, i + 1, u, .cons _ t, e => Vals.getV (i := i) t (by simpa using e)
theorem readsAll_ix {h : Heap} : ∀ {us : List Value} {ds : List PyData} {as : List Addr}, ReadsAll h us ds as → ∀ (i : Nat) (u : Value), us[i]? = some u → ∃ d bs, ds[i]? = some d ∧ Reads h u d bs
  | _, _, _, .nil, i, u, e => by simp at e
  | _, _, _, .cons r rs, 0, u, e => by
    cases e
    exact ⟨_, _, rfl, r⟩
  | _, _, _, .cons r rs, i + 1, u, e => readsAll_ix rs i u (by simpa using e)
theorem cr_mn (hc : X.calm = true) (hu : X.A.units + 66 < cLine) : CallR X (.builtin "min") (rMx X.K minD) := by
  intro pins s σ H xs us Q I r h
  obtain ⟨a, ws, d, ds, rfl, sq, hd, ha, hz, q⟩ := h
  rw [Vals.ref1 r]
  have fin : ∀ (its : List Value), Vals ws its → ∀ as, ReadsAll s.heap its (d :: ds) as → ∀ (i : Nat) v h' tk bs, its.toArray[i]? = some v → Reads h' v (minD d ds) bs → (∀ b o, s.heap.get? b = some o → h'.get? b = some o) → EP X pins σ Q v { s with heap := h', toks := tk } := fun its rv as hr i v h' tk bs hv hm hk => by
    have hv' : its[i]? = some v := by simpa using hv
    obtain ⟨w, ew, rw_⟩ := Vals.getV rv hv'
    obtain ⟨di, bs2, e1, e2⟩ := readsAll_ix hr i v hv'
    have e3 := (Reads.unique (reads_keeps hk e2) _ _ hm).1
    rw [e3] at e1
    exact ⟨w, H, I.kept hk, rw_, q i w ew e1⟩
  rcases sq with hs | hs
  · obtain ⟨its, rv, p, _⟩ := I.list hs
    obtain ⟨as, hr⟩ := Dp.readsAll I (d :: ds) ws its hd rv
    exact min_list_data (I.ok.hd hc) p.isList (by simpa using hr) ha (by omega) (fin its rv as hr)
  · obtain ⟨its, rv, p, _⟩ := I.tuple hs
    obtain ⟨as, hr⟩ := Dp.readsAll I (d :: ds) ws its hd rv
    exact min_tuple_data (I.ok.hd hc) (show s.heap.IsTuple a its.toArray from p) (by simpa using hr) ha (by omega) (fin its rv as hr)
end
section
variable {G : Gx} {N : Pn} {W : WX} {H : Hp} {σ : L2.St} {ρ : List S} {st : Stk}
theorem RDs.dps {F : Hp} (sb : Sub F H) {xs : List D} {vs : List V} {ds : List PyData} (q : RDs G F xs vs) (e : dPys xs = some ds) : DpAll G.K H vs ds := dps_of sb xs vs ds q e
def opBest (lt : PyData → PyData → Bool) : List S → ORes
  | [s] => match seqS s with
    | some (x :: xs) => match dPys (x :: xs) with
      | some ds => if alikeB ds && decide (PyData.depthAll ds ≤ 64) then .ok (.d (bestD lt x xs)) [s] else .stuck
      | none => .stuck
    | _ => .stuck
  | _ => .stuck
theorem os_best {lt : PyData → PyData → Bool} {best : PyData → List PyData → PyData} (hb : ∀ d ds, best d ds = ds.foldl (fun a y => if lt a y then y else a) d) : OpS G N W (rL (rMx G.K best)) (opBest lt) := fun σ ρ st H vs xs Q l h p => by
  match xs, p, h, l with
  | [s], p, h, l =>
    unfold opBest at p
    simp only at p
    obtain ⟨v, ev, h1⟩ := one l h
    subst ev
    cases e : seqS s with
    | none =>
      rw [e] at p
      exact p.elim
    | some ys =>
    cases ys with
    | nil =>
      rw [e] at p
      exact p.elim
    | cons x xs' =>
      rw [e] at p
      simp only at p
      cases e2 : dPys (x :: xs') with
      | none =>
        rw [e2] at p
        exact p.elim
      | some dd =>
        rw [e2] at p
        simp only at p
        by_cases hc : (alikeB dd && decide (PyData.depthAll dd ≤ 64)) = true
        · rw [if_pos hc] at p
          simp only [Bool.and_eq_true, decide_eq_true_eq] at hc
          obtain ⟨a, ws, ea, sq, l3, h4⟩ := h1.items e
          subst ea
          obtain ⟨F, fp, sb, r, n⟩ := h4.ex
          rw [List.append_assoc] at r
          obtain ⟨x1, x2, _, r1, _⟩ := (RL.app _ _ _).mp r
          have q := ((RL.ds l3).mp r1).2
          have hda := q.dps sb e2
          cases dd with
          | nil =>
            have := (dPys_at e2).1
            simp at this
          | cons d ds =>
            refine ⟨a, ws, d, ds, rfl, sq, hda, alike_of hc.1, hc.2, fun i w ew ei => ?_⟩
            have hi : i < (x :: xs').length := by
              rw [← l3]
              exact (List.getElem?_eq_some_iff.mp ew).1
            obtain ⟨di, e3, e4⟩ := (dPys_at e2).2 i (x :: xs')[i] (by simp [hi])
            rw [ei] at e4
            have hx : dPy x = some d ∧ dPys xs' = some ds := by
              unfold dPys at e2
              split at e2
              · rename_i d' ds' z1 z2
                cases e2
                exact ⟨z1, z2⟩
              · cases e2
            have e5 := best_py (lt := lt) hx.1 hx.2
            rw [← hb, Option.some.inj e4] at e5
            have e6 := dPy_inj _ _ _ e3 e5
            obtain ⟨w', ew', h6⟩ := h4.one (i := i) (x := .d (x :: xs')[i]) (by simpa using l3) (by
              rw [List.getElem?_map, List.getElem?_eq_getElem hi]
              rfl)
            rw [ew] at ew'
            cases ew'
            rw [e6] at h6
            exact p.2 w H h6
        · rw [if_neg hc] at p
          exact p.elim
def opMin : List S → ORes := opBest fun a y => dataLt y a
theorem os_min : OpS G N W (rL (rMx G.K minD)) opMin := os_best fun _ _ => rfl
end
end DL
/-! the data layer: for over an owned list of owned things -/
namespace DL
open PySem PySem.Spec PyProof.Rows L2
def forO (i : Nat) (body : B) : List S → B
  | [], ρ => .nx ρ
  | s :: r, ρ => if i < ρ.length then (match body (ρ.set i s) with
    | .nx ρ2 => forO i body r ρ2
    | .ct ρ2 => forO i body r ρ2
    | .bk ρ2 => .nx ρ2
    | z => z) else .stuck
def bForO (f : M S) (i : Nat) (body : B) : B := bdo f fun s ρ => match s with
  | .ls xs => forO i body xs ρ
  | .l xs => forO i body (xs.map .d) ρ
  | _ => .stuck
section
variable {G : Gx} {N : Pn} {X : Cx} {W : WX} {H H' : Hp} {σ : L2.St} {ρ ρ' : List S} {st : Stk} {En : Ends} {e : Expr} {pos : Pos} {f : M S} {g : B}
theorem RFl.split {F : Hp} : ∀ {A : List S} {s : S} {R : List S} {os : List (Option V)} {fp : List Addr}, RFl G F H (A ++ s :: R) os fp → ∃ o a b c, os[A.length]? = some o ∧ fp = a ++ (b ++ c) ∧ RF G F H s o b ∧ RFl G F H (A ++ .gone :: R) os (a ++ c)
  | [], s, R, _, _, ⟨o, os', a, b, e1, e2, q1, q2⟩ => by
    subst e1 e2
    exact ⟨o, [], a, b, rfl, rfl, q1, o, os', [], b, rfl, rfl, rfl, q2⟩
  | x :: A, s, R, _, _, ⟨o, os', a, b, e1, e2, q1, q2⟩ => by
    subst e1 e2
    obtain ⟨o2, a2, b2, c2, h1, h2, h3, h4⟩ := RFl.split q2
    subst h2
    exact ⟨o2, a ++ a2, b2, c2, by simpa using h1, by rw [List.append_assoc], h3, o, os', a, a2 ++ c2, rfl, by rw [List.append_assoc], q1, h4⟩
theorem Hs.take1 {o : Option V} {A : List S} {s : S} {R : List S} (h : Hs G N H σ ρ ((o, .ls (A ++ s :: R)) :: st)) : ∃ a vs, o = some (.ref a) ∧ H a = some (.lst vs) ∧ vs.length = A.length + 1 + R.length ∧ ∃ v, vs[A.length]? = some v ∧ Hs G N H σ ρ ((some v, s) :: (o, .ls (A ++ .gone :: R)) :: st) := by
  obtain ⟨F, fp, sb, ⟨x1, x2, ef, ⟨a, vs, r, eo, er, eH, eF, q⟩, q2⟩, n⟩ := h.ex
  subst er ef
  have l := RFl.len q
  rw [List.length_map] at l
  obtain ⟨o2, p1, p2, p3, h1, h2, h3, h4⟩ := RFl.split q
  rw [List.getElem?_map] at h1
  cases ev : vs[A.length]? with
  | none =>
    rw [ev] at h1
    cases h1
  | some v =>
    rw [ev] at h1
    cases h1
    subst h2
    refine ⟨a, vs, eo, eH, by rw [l]; simp; omega, v, ev, h.len, ⟨F, p2 ++ ((a :: (p1 ++ p3)) ++ x2), sb, ⟨p2, _, rfl, h3, a :: (p1 ++ p3), x2, rfl, ⟨a, vs, p1 ++ p3, eo, rfl, eH, eF, h4⟩, q2⟩, ?_⟩, h.tb, h.pin⟩
    have pp : (a :: (p1 ++ (p2 ++ p3)) ++ x2).Perm (p2 ++ ((a :: (p1 ++ p3)) ++ x2)) := by
      have e5 : p2 ++ ((a :: (p1 ++ p3)) ++ x2) = (p2 ++ a :: (p1 ++ p3)) ++ x2 := (List.append_assoc ..).symm
      rw [e5]
      refine List.Perm.append_right x2 ?_
      refine List.Perm.trans ?_ List.perm_middle.symm
      refine List.Perm.cons _ ?_
      rw [← List.append_assoc, ← List.append_assoc]
      exact List.perm_append_comm.append_right p3
    exact (pp.nodup_iff).mp n
theorem Hs.toLs {o : Option V} {xs : List D} (h : Hs G N H σ ρ ((o, .l xs) :: st)) : Hs G N H σ ρ ((o, .ls (xs.map .d)) :: st) := by
  obtain ⟨F, fp, sb, ⟨a, b, ef, ⟨p, vs, ev, er, e3, e4, q⟩, r⟩, n⟩ := h.ex
  have key : ∀ (xs : List D) (vs : List V), RDs G F xs vs → RFl G F H (xs.map .d) (vs.map some) [] := by
    intro xs
    induction xs with
    | nil =>
      intro vs q
      have : vs = [] := q
      subst this
      exact ⟨rfl, rfl⟩
    | cons x xs ih =>
      rintro vs ⟨v, r, ev, q1, q2⟩
      subst ev
      exact ⟨some v, r.map some, [], [], rfl, rfl, ⟨rfl, v, rfl, q1⟩, ih r q2⟩
  subst er
  exact ⟨h.len, ⟨F, fp, sb, ⟨_, b, ef, ⟨p, vs, [], ev, rfl, e3, e4, key xs vs q⟩, r⟩, n⟩, h.tb, h.pin⟩
theorem Hs.lsAt {o : Option V} {xs : List S} (h : Hs G N H σ ρ ((o, .ls xs) :: st)) : ∃ a vs, o = some (.ref a) ∧ H a = some (.lst vs) ∧ vs.length = xs.length := by
  obtain ⟨F, fp, sb, ⟨x1, x2, ef, ⟨a, vs, r, eo, er, eH, eF, q⟩, q2⟩, n⟩ := h.ex
  have l := RFl.len q
  rw [List.length_map] at l
  exact ⟨a, vs, eo, eH, l⟩
theorem forO_core {tg : Expr} {ss : List Stmt} {i : Nat} {a : Addr} {xs : List S} (hg : GX G N X tg (.n i)) (hb : BX G N X W ss g) (h : Hs G N H σ ρ ((some (.ref a), .ls xs) :: st)) (p : fps G N W st En (forO i g xs ρ)) :
    ∃ Wt : Nat → Nat → L2.St → Hp → Prop, (∃ m, Wt 0 m σ H) ∧ ∀ k m σ H, Wt k m σ H →
      ((Itl G.K a).stop k H ∧ En.nx σ H) ∨ ((Itl G.K a).go k H ∧ ∃ Nt : L2.St → Hp → Prop, (∀ σ' H', Nt σ' H' → ∃ m', m' < m ∧ Wt (k + 1) m' σ' H') ∧ ∀ x H', (Itl G.K a).yld k H x H' → sG X tg x σ H' fun σ2 H2 => sB X ss { En with nx := Nt, ct := Nt, bk := En.nx } σ2 H2) := by
  refine ⟨fun k m σ H => m = xs.length - k ∧ k ≤ xs.length ∧ ∃ ρ, Hs G N H σ ρ ((some (.ref a), .ls (List.replicate k .gone ++ xs.drop k)) :: st) ∧ fps G N W st En (forO i g (xs.drop k) ρ), ⟨xs.length, by simp, Nat.zero_le _, ρ, h, p⟩, ?_⟩
  rintro k m σ1 H1 ⟨rfl, hk, ρ1, h1, p1⟩
  by_cases hlt : k < xs.length
  · have ed : xs.drop k = xs[k] :: xs.drop (k + 1) := List.drop_eq_getElem_cons hlt
    rw [ed] at h1 p1
    obtain ⟨a', vs, ea, eH, lv, v, ev, h2⟩ := h1.take1
    cases ea
    rw [List.length_replicate] at ev
    refine .inr ⟨⟨vs, v, .of eH, ev⟩, fun σ' H' => ∃ ρ', Hs G N H' σ' ρ' ((some (.ref a), .ls (List.replicate (k + 1) .gone ++ xs.drop (k + 1))) :: st) ∧ fps G N W st En (forO i g (xs.drop (k + 1)) ρ'), fun σ' H' q => ⟨xs.length - (k + 1), by omega, rfl, hlt, q⟩, fun x H' y => ?_⟩
    obtain ⟨eHH, yy⟩ := y
    subst eHH
    have e3 := yy vs (.of eH)
    rw [ev] at e3
    cases e3
    have h3 : Hs G N H' σ1 ρ1 ((some v, xs[k]) :: (some (.ref a), .ls (List.replicate (k + 1) .gone ++ xs.drop (k + 1))) :: st) := by
      have e4 : List.replicate k S.gone ++ S.gone :: xs.drop (k + 1) = List.replicate (k + 1) S.gone ++ xs.drop (k + 1) := by
        rw [List.replicate_succ', List.append_assoc]
        rfl
      rw [e4] at h2
      exact h2
    unfold forO at p1
    by_cases hi : i < ρ1.length
    · rw [if_pos hi] at p1
      refine hg σ1 ρ1 (ρ1.set i xs[k]) _ H' v xs[k] _ h3 (by unfold asgT; rw [if_pos hi]) fun σ2 H2 h4 => ?_
      refine hb σ2 _ _ H2 _ h4 ?_
      cases hbd : g (ρ1.set i xs[k]) with
      | nx ρ3 =>
        rw [hbd] at p1
        exact fun σ' H' h' => ⟨ρ3, h', p1⟩
      | ct ρ3 =>
        rw [hbd] at p1
        exact fun σ' H' h' => ⟨ρ3, h', p1⟩
      | bk ρ3 =>
        rw [hbd] at p1
        exact fun σ' H' h' => p1 σ' H' h'.drop
      | rt s ρ3 =>
        rw [hbd] at p1
        exact (fps.drops (A := [(some (.ref a), .ls (List.replicate (k + 1) .gone ++ xs.drop (k + 1)))]) p1 : fps G N W _ En (.rt s ρ3))
      | exc c q ρ3 =>
        rw [hbd] at p1
        exact (fps.drops (A := [(some (.ref a), .ls (List.replicate (k + 1) .gone ++ xs.drop (k + 1)))]) p1 : fps G N W _ En (.exc c q ρ3))
      | stuck =>
        rw [hbd] at p1
        exact p1.elim
    · rw [if_neg hi] at p1
      exact p1.elim
  · have ek : k = xs.length := by omega
    subst ek
    rw [List.drop_length] at h1 p1
    obtain ⟨a', vs, ea, eH, lv⟩ := h1.lsAt
    cases ea
    refine .inl ⟨⟨vs, .of eH, ?_⟩, p1 σ1 H1 h1.drop⟩
    rw [lv]
    simp
theorem sx_forO {tg iter : Expr} {ss : List Stmt} {i : Nat} (hK : X.K = G.K) (hp : PassesOwn (model X.prog X.w) X.A X.env X.xe) (hc : X.calm = true) (he : EX G N X W iter f) (hg : GX G N X tg (.n i)) (hb : BX G N X W ss g) (hs : ∀ x, foldedSetIterable iter X.env x = pure x := by intro _; rfl) :
    SX G N X W (.For tg iter ss [] pos) (bForO f i g) := fun σ ρ st H D h p => by
  refine sS_of (ps_for hp hc (pi_list pe_sem) pg_sem pss_sem hs) ?_
  refine he.bdo h p fun s ρ1 v H1 h1 p1 => ?_
  have go : ∀ xs, Hs G N H1 σ ρ1 ((some v, .ls xs) :: st) → fps G N W st D (forO i g xs ρ1) → ∃ a, v = .ref a ∧ (∃ xs, SqL X.K H1 a xs) ∧ ∃ Wt : Nat → Nat → L2.St → Hp → Prop, (∃ m, Wt 0 m σ H1) ∧ ∀ k m σ H, Wt k m σ H →
      ((Itl X.K a).stop k H ∧ D.nx σ H) ∨ ((Itl X.K a).go k H ∧ ∃ Nt : L2.St → Hp → Prop, (∀ σ' H', Nt σ' H' → ∃ m', m' < m ∧ Wt (k + 1) m' σ' H') ∧ ∀ x H', (Itl X.K a).yld k H x H' → sG X tg x σ H' fun σ2 H2 => sB X ss { D with nx := Nt, ct := Nt, bk := D.nx } σ2 H2) := fun xs h2 p2 => by
    obtain ⟨a, vs, ea, eH, lv⟩ := h2.lsAt
    cases ea
    rw [hK]
    exact ⟨a, rfl, ⟨vs, .of eH⟩, forO_core hg hb h2 p2⟩
  cases s with
  | ls xs => exact go xs h1 p1
  | l xs => exact go _ h1.toLs p1
  | _ => exact p1.elim
end
end DL
/-! the data layer: what the head tells, packed -/
namespace DL
open PySem PySem.Spec PyProof.Rows L2
/-- the defs whose code tables may grow, with the names of what stands in them -/
abbrev TQ := List (He.Defn × Str)
def tabL (K : PySem.W.Frag) (tq : TQ) : List (Addr × Str) := tq.map fun p => ((He.cT K p.1).2, p.2)
def tabX (tq : TQ) (K : PySem.W.Frag) : Bool := decide ((tq.map fun p => (He.cT K p.1).2).Nodup)
/-- classes that are made have no __eq__ of their own -/
def eqX (fa : List He.Fa) (K : PySem.W.Frag) : Bool := fa.all fun f => match f with
  | .mkr x => He.eqO (PySem.W.findIn K (.ref (He.ga K x)) "__eq__") (some (some (.builtin "object.__eq__"))) && He.eqO (PySem.W.findIn K (.ref (He.ga K x)) "__ne__") (some (some (.builtin "object.__ne__")))
  | _ => true
/-- a text's words, parted by blanks -/
def wrds : List Nat → List Nat → List (List Nat)
  | acc, [] => [acc.reverse]
  | acc, c :: cs => if c = 32 then acc.reverse :: wrds [] cs else wrds (c :: acc) cs
def txtV : Value → Option Str
  | .str x _ => some x
  | _ => none
/-- a constant of the module: a tuple of texts -/
def conB (K : PySem.W.Frag) (a : Addr) (ss : List Str) : Bool := match K.lookup a with
  | some ⟨.type c, none, .seq its _, _⟩ => decide (c = "tuple") && (decide (its.size ≤ sizeLine) && decide (its.toList.map txtV = ss.map some))
  | _ => false
/-- what a fact free with blanks tells: the constant's name, its texts -/
def conOf (z : Str) : Option (Str × List Str) := match wrds [] z.cps.toList with
  | x :: y :: r => some (⟨x.toArray⟩, (y :: r).map fun w => ⟨w.toArray⟩)
  | _ => none
def conX (fa : List He.Fa) (K : PySem.W.Frag) : Bool := fa.all fun f => match f with
  | .free z => (match conOf z with
    | some p => conB K (He.ga K p.1) p.2
    | none => true)
  | _ => true
def tabE (fa : List He.Fa) (tq : TQ) (K : PySem.W.Frag) : Bool := tabX tq K && (eqX fa K && conX fa K)
theorem tab_u {K : PySem.W.Frag} : ∀ {l : TQ}, (l.map fun p => (He.cT K p.1).2).Nodup → ∀ {p : He.Defn × Str}, p ∈ l → ∀ q ∈ tabL K l, q.1 = (He.cT K p.1).2 → q.2 = p.2
  | [], _, p, hp, _, _, _ => by simp at hp
  | x :: l, n, p, hp, q, hq, e => by
    have n' := List.nodup_cons.mp (show ((He.cT K x.1).2 :: l.map fun p => (He.cT K p.1).2).Nodup from n)
    have hq' : q = ((He.cT K x.1).2, x.2) ∨ q ∈ tabL K l := List.mem_cons.mp hq
    rcases hq' with h1 | h1
    · subst h1
      rcases List.mem_cons.mp hp with h2 | h2
      · rw [h2]
      · exact absurd (List.mem_map.mpr ⟨p, h2, e.symm⟩) n'.1
    · rcases List.mem_cons.mp hp with h2 | h2
      · obtain ⟨y, hy, ey⟩ := List.mem_map.mp h1
        subst ey
        rw [h2] at e
        exact absurd (List.mem_map.mpr ⟨y, hy, e⟩) n'.1
      · exact tab_u n'.2 h2 q h1 e
/-- the facts of a law's program -/
structure En (fa : List He.Fa) (fn : List He.DefD) (tq : TQ) (w : World) (K : PySem.W.Frag) (mg : Str → Option Value) (base : Heap) : Prop where
  c : ∃ h, He.SaysX fa fn [] (tq.map (·.1)) (tabE fa tq) w h K ∧ K.In h ∧ h.Ns mainGlobals mg
  t : ∀ p ∈ tq, LamX.TabB base mg (He.cT K p.1).1 (He.cT K p.1).2
section
variable {fa : List He.Fa} {fn : List He.DefD} {tq : TQ} {w : World} {K : PySem.W.Frag} {mg : Str → Option Value} {base : Heap}
theorem En.fact (E : En fa fn tq w K mg base) {f : He.Fa} (h : f ∈ fa) : f.ok K = true := let ⟨_, c, _, _⟩ := E.c; c.t.d.facts h
theorem En.glo (E : En fa fn tq w K mg base) (x : Str) (h : He.Fa.glo x ∈ fa) : mg x = some (.ref (He.ga K x)) := let ⟨_, _, X, G⟩ := E.c; He.glo_ok X G (E.fact h)
theorem En.free (E : En fa fn tq w K mg base) (x : Str) (h : He.Fa.free x ∈ fa) : mg x = none := let ⟨_, _, X, G⟩ := E.c; He.free_ok X G (E.fact h)
theorem En.def_ (E : En fa fn tq w K mg base) {d : He.DefD} (hd : d ∈ fn) (stm : Stmt) (e1 : d.params = defArgs stm := by rfl) (e2 : d.body = defBody stm := by rfl) (e3 : d.scope = defScope stm := by rfl) (e4 : d.dfl = [] := by rfl) (e5 : d.kwd = [] := by rfl) :
    ∃ fd, FunC K d.name d.qual stm (He.fAd K d.at_) (He.codeOf K d.at_) fd := let ⟨_, c, _, _⟩ := E.c; funC_of c hd stm e1 e2 e3 e4 e5 c.t.d
theorem En.tabU (E : En fa fn tq w K mg base) {p : He.Defn × Str} (hp : p ∈ tq) : ∀ q ∈ tabL K tq, q.1 = (He.cT K p.1).2 → q.2 = p.2 := let ⟨_, c, _, _⟩ := E.c; tab_u (of_decide_eq_true (He.ba c.more).1) hp
theorem En.tabM {p : He.Defn × Str} (hp : p ∈ tq) : ((He.cT K p.1).2, p.2) ∈ tabL K tq := List.mem_map.mpr ⟨p, hp, rfl⟩
theorem En.calX (E : En fa fn tq w K mg base) {G : Gx} {c : Nat} (x : Str) (hc : G.cl c = He.ga K x) (h1 : He.Fa.glo x ∈ fa) (h2 : He.Fa.exc x ∈ fa) : CalX K mg G x c := by
  obtain ⟨a, b, d, e⟩ := He.exc_ok (E.fact h2)
  exact ⟨by rw [hc]; exact a, by rw [hc]; exact E.glo x h1, by rw [hc]; exact b, by rw [hc]; exact d, by rw [hc]; exact e⟩
/-- a def, its promise put together -/
theorem En.calF {P : Program} (E : En fa fn tq w K mg base) {G : Gx} {k : Nat} {x : Str} {d : He.DefD} {fd : FuncData} {ps : List Str} {op : List S → ORes} {stm : Stmt} (F : FunC K x x stm (He.fAd K (x, none)) (He.codeOf K (x, none)) fd) (h : FnOk P w K mg base (L2.CX P w) k (He.fAd K (x, none)) fd ps (spD G op)) (hg : He.Fa.glo x ∈ fa) (hb : Binds K fd ps []) : CalF P w K mg base G k x op :=
  ⟨⟨_, fd, ps, h, E.glo x hg, F.kp, hb⟩⟩
theorem En.calM {P : Program} (E : En fa fn tq w K mg base) {G : Gx} {k c : Nat} {C m qual : Str} {fd : FuncData} {ps : List Str} {op : List S → ORes} {stm : Stmt} (F : FunC K m qual stm (He.fAd K (C, some m)) (He.codeOf K (C, some m)) fd) (h : FnOk P w K mg base (L2.CX P w) k (He.fAd K (C, some m)) fd ps (spD G op)) (hc : G.cl c = He.ga K C) (h1 : He.Fa.meth C m ∈ fa) (h2 : He.Fa.cls C ∈ fa) (hb : Binds K fd ps [])
    (no : ∀ f ∈ G.fn c, f ≠ m) : CalM P w K mg base G k m c op := by
  refine ⟨⟨_, fd, ps, h, ?_, ?_, hb⟩, fun vs => ?_⟩
  · rw [hc]
    exact He.meth_ok (E.fact h1)
  · rw [hc]
    exact He.cls_ok (E.fact h2)
  · have : ∀ (ns : List Str) (vs : List V), (∀ f ∈ ns, f ≠ m) → (ns.zip vs).lookup m = none := by
      intro ns
      induction ns with
      | nil => intro vs _; rfl
      | cons n ns ih =>
        intro vs hn
        cases vs with
        | nil => rfl
        | cons v vs =>
          show ((n, v) :: ns.zip vs).lookup m = none
          rw [List.lookup_cons]
          have : (m == n) = false := by
            cases e : m == n with
            | false => rfl
            | true => exact absurd (beq_iff_eq.mp e).symm (hn n List.mem_cons_self)
          rw [this]
          exact ih vs fun f hf => hn f (List.mem_cons_of_mem _ hf)
    exact this _ vs no
theorem En.calC {P : Program} (E : En fa fn tq w K mg base) {G : Gx} {k c : Nat} {C qual : Str} {fd : FuncData} {ps : List Str} {op : List S → ORes} {stm : Stmt} (F : FunC K "__init__" qual stm (He.fAd K (C, some "__init__")) (He.codeOf K (C, some "__init__")) fd) (h : FnOk P w K mg base (L2.CX P w) k (He.fAd K (C, some "__init__")) fd ps (spD G op)) (hc : G.cl c = He.ga K C) (h1 : He.Fa.glo C ∈ fa) (h2 : He.Fa.mkr C ∈ fa) (hb : Binds K fd ps []) : CalC P w K mg base G k C c op := by
  refine ⟨⟨_, fd, ps, h, by rw [hc]; exact E.glo C h1, ?_, hb⟩⟩
  rw [hc]
  exact He.mkr_ok (E.fact h2)
theorem En.cOk (E : En fa fn tq w K mg base) {G : Gx} {c : Nat} {C : Str} (hc : G.cl c = He.ga K C) (h2 : He.Fa.cls C ∈ fa) (hn : ∀ f ∈ G.fn c, He.Fa.noat C f ∈ fa) (nd : (G.fn c).Nodup) (few : (G.fn c).length < 1000) : COk K G c :=
  ⟨by rw [hc]; exact He.cls_ok (E.fact h2), fun f hf => by rw [hc]; exact He.noat_ok (E.fact (hn f hf)), nd, few⟩
end
end DL
/-! the data layer: small helps for printed derivations -/
namespace DL
open PySem PySem.Spec PyProof.Rows L2
theorem Room.u64 {k : Nat} {A : Around} (r : Room k A) : A.units + 64 < cLine := by have := r.un; omega
theorem Room.u65 {k : Nat} {A : Around} (r : Room k A) : A.units + 65 < cLine := by have := r.un; omega
theorem Room.u66 {k : Nat} {A : Around} (r : Room k A) : A.units + 66 < cLine := by have := r.un; omega
section
variable {G : Gx} {N : Pn} {X : Cx} {W : WX} {H H' : Hp} {σ : L2.St} {ρ : List S} {st : Stk} {es : List Expr} {as : List Arg}
theorem ax_s (i : Nat) {x : Str} {pos : Pos} (hr : AX G N X W es as) (hN : X.N[i]? = some x := by rfl) (hv : Vis X.env.scope x := by first | exact Or.inl rfl | exact Or.inr (Or.inl rfl) | exact Or.inr (Or.inr rfl)) (hd : (x == ("__debug__" : Str)) = false := by decide) (hcd : (x == ("__classdict__" : Str)) = false := by decide) :
    AX G N X W (.Name x pos :: es) (.b i :: as) := ax_b hr hN hv hd hcd
/-! ### a field -/
/-- the k-th field of the c-th class; an owned object's field is settled in place -/
def opFld (c k : Nat) : List S → ORes
  | [.o c' fs] => if c' = c then (match fs[k]? with
    | some s => match s.frz with
      | some x => .ok (.d x) [.o c (fs.set k (.d x))]
      | none => .stuck
    | none => .stuck) else .stuck
  | [.d (.obj c' xs)] => if c' = c then (match xs[k]? with
    | some x => .ok (.d x) [.d (.obj c' xs)]
    | none => .stuck) else .stuck
  | [.fo c' fs] => if c' = c then (match fs[k]? with
    | some (.d x) => .ok (.d x) [.fo c' fs]
    | _ => .stuck) else .stuck
  | _ => .stuck
theorem RFl.atD {F : Hp} : ∀ {xs : List S} {os : List (Option V)} {fp : List Addr} {k : Nat} {x : D}, RFl G F H xs os fp → xs[k]? = some (.d x) → ∃ v, os[k]? = some (some v) ∧ RD G F x v
  | [], _, _, _, _, _, h => by simp at h
  | y :: xs, _, _, 0, x, ⟨o, os', a, b, e1, e2, q, _⟩, h => by
    cases h
    subst e1
    obtain ⟨_, v, ev, r⟩ := q
    exact ⟨v, by rw [ev]; rfl, r⟩
  | y :: xs, _, _, k + 1, x, ⟨o, os', a, b, e1, e2, _, q⟩, h => by
    subst e1
    exact RFl.atD (k := k) q (by simpa using h)
/-- a settled field of a frozen object -/
theorem Hs.fldD {o : Option V} {c k : Nat} {fs : List S} {x : D} (h : Hs G N H σ ρ ((o, .fo c fs) :: st)) (e : fs[k]? = some (.d x)) :
    ∃ a ob dx vs v, o = some (.ref a) ∧ H a = some (.frz ob (.ins (G.cl c) dx ((G.fn c).zip vs))) ∧ vs[k]? = some v ∧ Hs G N H σ ρ ((some v, .d x) :: (o, .fo c fs) :: st) := by
  obtain ⟨F, fp, sb, ⟨x1, x2, ef, q0, q2⟩, n⟩ := h.ex
  obtain ⟨a, ob, dx, vs, r, eo, er, eH, eF, lf, q⟩ := id q0
  obtain ⟨v, ev, rv⟩ := RFl.atD q e
  rw [List.getElem?_map, Option.map_eq_some_iff] at ev
  obtain ⟨v', ev, e2⟩ := ev
  cases e2
  exact ⟨a, ob, dx, vs, v, eo, eH, ev, h.len, ⟨F, fp, sb, ⟨[], fp, rfl, ⟨rfl, v, rfl, rv⟩, x1, x2, ef, q0, q2⟩, n⟩, h.tb, h.pin⟩
theorem zip_look : ∀ {ns : List Str} {vs : List V} {k : Nat} {f : Str} {v : V}, ns.Nodup → ns[k]? = some f → vs[k]? = some v → (ns.zip vs).lookup f = some v
  | [], _, _, _, _, _, h, _ => by simp at h
  | n :: ns, [], _, _, _, _, _, h => by simp at h
  | n :: ns, w :: vs, 0, f, v, _, h, h2 => by
    cases h
    cases h2
    show ((n, w) :: ns.zip vs).lookup n = some w
    rw [List.lookup_cons, beq_self_eq_true]
  | n :: ns, w :: vs, k + 1, f, v, nd, h, h2 => by
    have h' : ns[k]? = some f := by simpa using h
    show ((n, w) :: ns.zip vs).lookup f = some v
    rw [List.lookup_cons]
    have : (f == n) = false := by
      cases e : f == n with
      | false => rfl
      | true =>
        have := beq_iff_eq.mp e
        subst this
        exact absurd (List.mem_of_getElem? h') (List.nodup_cons.mp nd).1
    rw [this]
    exact zip_look (List.nodup_cons.mp nd).2 h' (by simpa using h2)
theorem Hs.freezeFld {o : Option V} {c k : Nat} {fs : List S} {s : S} {x : D} (h : Hs G N H σ ρ ((o, .o c fs) :: st)) (e : fs[k]? = some s) (ex : s.frz = some x) :
    ∃ a dx vs v, o = some (.ref a) ∧ H a = some (.ins (G.cl c) dx ((G.fn c).zip vs)) ∧ vs[k]? = some v ∧ Hs G N H σ ρ ((some v, .d x) :: (o, .o c (fs.set k (.d x))) :: st) := by
  obtain ⟨F, fp, sb, ⟨x1, x2, ef, ⟨a, dx, vs, r, eo, er, eH, eF, lf, q⟩, q2⟩, n⟩ := h.ex
  subst er ef
  have hk := (List.getElem?_eq_some_iff.mp e).1
  have es : fs = fs.take k ++ s :: fs.drop (k + 1) := by
    have h1 : fs.drop k = s :: fs.drop (k + 1) := by
      rw [List.drop_eq_getElem_cons hk]
      congr 1
      exact (List.getElem?_eq_some_iff.mp e).2
    rw [← h1, List.take_append_drop]
  rw [es] at q
  obtain ⟨o2, p1, p2, p3, h1, h2, h3, h4⟩ := RFl.split q
  have lk : (fs.take k).length = k := by rw [List.length_take]; omega
  rw [lk, List.getElem?_map] at h1
  cases ev : vs[k]? with
  | none =>
    rw [ev] at h1
    cases h1
  | some v =>
    rw [ev] at h1
    cases h1
    subst h2
    have hn2 : (p2 ++ ((a :: (p1 ++ p3)) ++ x2)).Nodup := by
      have pp : (a :: (p1 ++ (p2 ++ p3)) ++ x2).Perm (p2 ++ ((a :: (p1 ++ p3)) ++ x2)) := by
        have e5 : p2 ++ ((a :: (p1 ++ p3)) ++ x2) = (p2 ++ a :: (p1 ++ p3)) ++ x2 := (List.append_assoc ..).symm
        rw [e5]
        refine List.Perm.append_right x2 ?_
        refine List.Perm.trans ?_ List.perm_middle.symm
        refine List.Perm.cons _ ?_
        rw [← List.append_assoc, ← List.append_assoc]
        exact List.perm_append_comm.append_right p3
      exact (pp.nodup_iff).mp n
    have hA : Hs G N H σ ρ ((some v, s) :: (o, .o c (fs.take k ++ .gone :: fs.drop (k + 1))) :: st) := ⟨h.len, ⟨F, p2 ++ ((a :: (p1 ++ p3)) ++ x2), sb, ⟨p2, _, rfl, h3, a :: (p1 ++ p3), x2, rfl, ⟨a, dx, vs, p1 ++ p3, eo, rfl, eH, eF, lf, h4⟩, q2⟩, hn2⟩, h.tb, h.pin⟩
    have hB := hA.freeze ex
    refine ⟨a, dx, vs, v, eo, eH, ev, ?_⟩
    obtain ⟨F2, fq, sb2, ⟨y1, y2, ef2, ⟨ey, w, ew, qx⟩, y3, y4, ef3, ⟨a2, dx2, vs2, r2, eo2, er2, eH2, eF2, lf2, q3⟩, q4⟩, n2⟩ := hB.ex
    cases ew
    subst ey
    rw [eo] at eo2
    cases eo2
    rw [eH] at eH2
    have key : ∀ (A R : List S) (os : List (Option V)) (fp : List Addr), RFl G F2 H (A ++ .gone :: R) os fp → os[A.length]? = some (some v) → RFl G F2 H (A ++ .d x :: R) os fp := by
      intro A
      induction A with
      | nil =>
        rintro R os fp ⟨o', os', b1, b2, e1, e2, e3, e4⟩ e5
        subst e1
        cases e5
        exact ⟨some v, os', b1, b2, rfl, e2, ⟨e3, v, rfl, qx⟩, e4⟩
      | cons z A ih =>
        rintro R os fp ⟨o', os', b1, b2, e1, e2, e3, e4⟩ e5
        subst e1
        exact ⟨o', os', b1, b2, rfl, e2, e3, ih R os' b2 e4 (by simpa using e5)⟩
    have l2 := RFl.len q3
    have l1 := RFl.len q
    have e6 : vs2 = vs := by
      have z := HO.ins.inj (Option.some.inj eH2)
      have z3 := z.2.2
      have la : vs.length = fs.length := by
        rw [List.length_map] at l1
        rw [l1, ← es]
      have lb : vs2.length = fs.length := by
        rw [List.length_map] at l2
        rw [l2]
        simp
        omega
      have fin : ∀ (ns : List Str) (xs ys : List V), xs.length ≤ ns.length → ys.length ≤ ns.length → xs.length = ys.length → ns.zip xs = ns.zip ys → xs = ys := by
        intro ns
        induction ns with
        | nil =>
          intro xs ys h1 h2 _ _
          have a1 : xs = [] := List.length_eq_zero_iff.mp (by simpa using h1)
          have a2 : ys = [] := List.length_eq_zero_iff.mp (by simpa using h2)
          rw [a1, a2]
        | cons n ns ih =>
          intro xs ys h1 h2 h3 h4
          cases xs with
          | nil =>
            cases ys with
            | nil => rfl
            | cons y ys => simp at h3
          | cons x xs =>
            cases ys with
            | nil => simp at h3
            | cons y ys =>
              simp only [List.zip_cons_cons, List.cons.injEq, Prod.mk.injEq, true_and] at h4
              rw [h4.1, ih xs ys (by simpa using h1) (by simpa using h2) (by simpa using h3) h4.2]
      exact (fin _ _ _ lf lf2 (by omega) z3).symm
    subst e6
    have q5 := key (fs.take k) (fs.drop (k + 1)) (vs2.map some) r2 q3 (by rw [lk, List.getElem?_map, ev]; rfl)
    have e7 : fs.take k ++ .d x :: fs.drop (k + 1) = fs.set k (.d x) := (List.set_eq_take_append_cons_drop ..).trans (if_pos hk) |>.symm
    rw [e7] at q5
    exact ⟨hB.len, ⟨F2, fq, sb2, ⟨[], y2, ef2, ⟨rfl, v, rfl, qx⟩, y3, y4, ef3, ⟨a, dx2, vs2, r2, eo, er2, by rw [eH]; exact eH2, eF2, lf2, q5⟩, q4⟩, n2⟩, hB.tb, hB.pin⟩
theorem RDs.at_ {F : Hp} : ∀ {xs : List D} {vs : List V} {i : Nat} {x : D}, RDs G F xs vs → xs[i]? = some x → ∃ v, vs[i]? = some v ∧ RD G F x v
  | [], _, _, _, _, h => by simp at h
  | y :: xs, _, 0, x, ⟨v, r, ev, q, _⟩, h => by
    cases h
    subst ev
    exact ⟨v, rfl, q⟩
  | y :: xs, _, i + 1, x, ⟨v, r, ev, _, q⟩, h => by
    subst ev
    exact RDs.at_ (i := i) q (by simpa using h)
def rFld (K : PySem.W.Frag) (x : Str) : V → Hp → VK → Prop := fun v H Q => ∃ a C dx fs w, v = .ref a ∧ Rd H a (.ins C dx fs) ∧ Cls K C ∧ NoAttr K C x ∧ fs.lookup x = some w ∧ Q w H
theorem os_fld {c k : Nat} {x : Str} (C : COk G.K G c) (ex : (G.fn c)[k]? = some x) : OpS G N W (r1L (rFld G.K x)) (opFld c k) := fun σ ρ st H vs xs Q l h p => by
  have hx : x ∈ G.fn c := List.mem_of_getElem? ex
  match xs, p, h, l with
  | [.o c' fs], p, h, l =>
    unfold opFld at p
    simp only at p
    by_cases hc : c' = c
    · rw [if_pos hc] at p
      subst hc
      cases e : fs[k]? with
      | none =>
        rw [e] at p
        exact p.elim
      | some s =>
        rw [e] at p
        simp only at p
        cases e2 : s.frz with
        | none =>
          rw [e2] at p
          exact p.elim
        | some y =>
          rw [e2] at p
          obtain ⟨v, ev, h1⟩ := one l h
          subst ev
          obtain ⟨a, dx, vs, w, eo, eH, ew, h2⟩ := h1.freezeFld e e2
          cases eo
          exact ⟨a, _, dx, _, w, rfl, .inl eH, C.cls, C.no x hx, zip_look C.nd ex ew, p.2 w H h2⟩
    · rw [if_neg hc] at p
      exact p.elim
  | [.d (.obj c' ys)], pp, hh, ll =>
    unfold opFld at pp
    simp only at pp
    by_cases hc : c' = c
    · rw [if_pos hc] at pp
      subst hc
      cases e : ys[k]? with
      | none =>
        rw [e] at pp
        exact pp.elim
      | some y =>
        rw [e] at pp
        obtain ⟨v, ev, h1⟩ := one ll hh
        subst ev
        obtain ⟨F, fp, sb, ⟨x1, x2, ef, ⟨ex1, v', ev', a, dx, vs, e1, e3, e4, q⟩, q2⟩, n⟩ := h1.ex
        cases ev'
        subst e1 ex1
        obtain ⟨w, ew, qw⟩ := RDs.at_ q e
        have eH : H a = some (.ins (G.cl c') dx ((G.fn c').zip vs)) := by
          rcases (sb _ _ e3).2 with z | ⟨z | z, _⟩
          · exact z
          · obtain ⟨_, z⟩ := z
            cases z
          · obtain ⟨_, z⟩ := z
            cases z
        refine ⟨a, _, dx, _, w, rfl, .inl eH, C.cls, C.no x hx, zip_look C.nd ex ew, pp.2 w H ⟨h1.len, ⟨F, fp, sb, ?_, n⟩, h1.tb, h1.pin⟩⟩
        exact ⟨[], fp, rfl, ⟨rfl, w, rfl, qw⟩, [], x2, ef, ⟨rfl, _, rfl, a, dx, vs, rfl, e3, e4, q⟩, q2⟩
    · rw [if_neg hc] at pp
      exact pp.elim
  | [.fo c' fs], pp, hh, ll =>
    unfold opFld at pp
    simp only at pp
    by_cases hc : c' = c
    · rw [if_pos hc] at pp
      subst hc
      cases e : fs[k]? with
      | none =>
        rw [e] at pp
        exact pp.elim
      | some s =>
        rw [e] at pp
        cases s with
        | d y =>
          obtain ⟨v, ev, h1⟩ := one ll hh
          subst ev
          obtain ⟨a, ob, dx, vs, w, eo, eH, ew, h2⟩ := h1.fldD e
          cases eo
          exact ⟨a, _, dx, _, w, rfl, .inr ⟨ob, eH⟩, C.cls, C.no x hx, zip_look C.nd ex ew, pp.2 w H h2⟩
        | _ => exact pp.elim
    · rw [if_neg hc] at pp
      exact pp.elim
end
end DL
/-! the data layer: minus, index, reversed -/
namespace DL
open PySem PySem.Spec PyProof.Rows L2
section
variable {G : Gx} {N : Pn} {X : Cx} {W : WX} {H H' : Hp} {σ : L2.St} {ρ : List S} {st : Stk} {es : List Expr} {as : List Arg}
def faEq : He.Fa → He.Fa → Bool
  | .glo x, .glo y => x == y
  | .free x, .free y => x == y
  | .cls x, .cls y => x == y
  | .noat x f, .noat y g => x == y && f == g
  | .meth x f, .meth y g => x == y && f == g
  | .mkr x, .mkr y => x == y
  | .exc x, .exc y => x == y
  | .exm x f a, .exm y g b => x == y && (f == g && a == b)
  | _, _ => false
theorem faEq_ok {a b : He.Fa} (h : faEq a b = true) : a = b := by
  unfold faEq at h
  split at h <;> simp only [Bool.and_eq_true, beq_iff_eq, Bool.false_eq_true] at h
  all_goals first
    | (subst h; rfl)
    | (obtain ⟨h1, h2⟩ := h; subst h1 h2; rfl)
    | (obtain ⟨h1, h2, h3⟩ := h; subst h1 h2 h3; rfl)
theorem fa_in {l : List He.Fa} {f : He.Fa} (h : l.any (faEq f) = true) : f ∈ l := by
  obtain ⟨g, hg, e⟩ := List.any_eq_true.mp h
  rw [faEq_ok e]
  exact hg
/-- a product where one factor is short -/
def fMulS (i j : Int) : Option D := if (-(2 ^ 64) < i ∧ i < 2 ^ 64) ∨ (-(2 ^ 64) < j ∧ j < 2 ^ 64) then some (.int (i * j)) else none
theorem os_mulS : OpS G N W (r2L (rI CMul fun i j => .int (i * j))) (opI fMulS) := os_I fun i j z e => by
  unfold fMulS at e
  split at e
  · rename_i h
    cases e
    exact ⟨h, fun _ => rfl⟩
  · cases e
def opNeg : List S → ORes
  | [.d (.int i)] => .ok (.d (.int (-i))) [.d (.int i)]
  | _ => .stuck
def opI3 (f : Int → Int → Int → Int) : List S → ORes
  | [.d (.int i), .d (.int j), .d (.int k)] => .ok (.d (.int (f i j k))) [.d (.int i), .d (.int j), .d (.int k)]
  | _ => .stuck
end
end DL
/-! the data layer: a, b = x, y through a tuple (a name is captured) -/
namespace DL
open PySem PySem.Spec PyProof.Rows L2
section
variable {G : Gx} {N : Pn} {X : Cx} {W : WX} {H H' : Hp} {σ : L2.St} {ρ : List S} {st : Stk} {es tgs : List Expr} {as : List Arg} {pos : Pos}
theorem Hs.garb {vs : List V} {q : Addr} (h : Hs G N H σ ρ st) (hq : H q = none) : Hs G N (upd H q (.tup vs)) σ ρ st := by
  obtain ⟨F, fp, sb, r, n⟩ := h.ex
  have g : Grow G N H (upd H q (.tup vs)) := Grow.upd h.tb hq
  exact ⟨h.len, ⟨F, fp, sb.grow g.1, RL.keep (Le.refl F) _ fp r fun x hx => own_grow r g.1 x hx, n⟩, g.2, h.pin⟩
def PX (G : Gx) (N : Pn) (X : Cx) (ts : List Expr) (is : List Nat) : Prop := ∀ (σ0 σ : L2.St) (ρ ρ' : List S) (st : Stk) (H : Hp) (vs : List V) (avs : List AV) (Q : L2.St → Hp → Prop), AVR σ0 avs vs → Hs G N H σ ρ (stkA avs vs ++ st) → setAll is avs ρ = some ρ' → (∀ σ' H', Hs G N H' σ' ρ' st → Q σ' H') → sGs X ts vs σ H Q
theorem px_nil : PX G N X [] [] := fun σ0 σ ρ ρ' st H vs avs Q r h e k => by
  cases avs with
  | nil =>
    have ev : vs = [] := r
    subst ev
    cases e
    exact gsx_nil σ ρ ρ st H [] [] Q rfl h rfl k
  | cons a avs => simp [setAll] at e
theorem px_cons {x : Expr} {i : Nat} {is : List Nat} (h1 : GX G N X x (.n i)) (h2 : PX G N X tgs is) (hs : (assignEach (x :: tgs) X.env).map (·.2) = assign x X.env :: (assignEach tgs X.env).map (·.2) := by rfl) : PX G N X (x :: tgs) (i :: is) := fun σ0 σ ρ ρ' st H vs avs Q r h e k => by
  match avs, r, e, h with
  | .s z :: avs, r, e, h =>
    obtain ⟨v, ws, ev, r'⟩ := r
    subst ev
    unfold setAll at e
    split at e
    · rename_i hl
      refine sGs_of (pgs_cons pg_sem pgs_sem hs) ⟨v, ws, rfl, ?_⟩
      exact h1 σ ρ (ρ.set i z) (stkA avs ws ++ st) H v z _ h (by unfold asgT; rw [if_pos hl]) fun σ1 H1 k1 => h2 σ0 σ1 _ ρ' st H1 ws avs Q r' k1 e k
    · cases e
  | [], _, e, _ => simp [setAll] at e
  | .n _ :: _, _, e, _ => simp [setAll] at e
theorem setAll_len : ∀ {is : List Nat} {avs : List AV} {vs : List V} {ρ ρ' : List S} {σ : L2.St}, AVR σ avs vs → setAll is avs ρ = some ρ' → vs.length = is.length
  | [], [], _, _, _, _, r, _ => by
    cases r
    rfl
  | i :: is, .s x :: avs, _, ρ, ρ', σ, ⟨v, ws, ev, r⟩, e => by
    subst ev
    unfold setAll at e
    split at e
    · simp [setAll_len r e]
    · cases e
  | [], _ :: _, _, _, _, _, _, e => by simp [setAll] at e
  | _ :: _, [], _, _, _, _, _, e => by simp [setAll] at e
  | _ :: _, .n _ :: _, _, _, _, _, _, e => by simp [setAll] at e
theorem sx_parT {is : List Nat} {kt k2 : Nat} {pt pt2 : Pos} (ha : AX G N X W es as) (hp : PA X es (sAs X es)) (hK : X.K = G.K) (hc : X.calm = true) (hg : PX G N X tgs is) (hl : is.length < 100 := by decide) (hn : (assignEach tgs X.env).length = is.length := by rfl) (hst : (assignEach tgs X.env).findIdx? (·.1) = none := by rfl)
    (hs : swapsWithSole [.Tuple tgs kt pt] (.Tuple es k2 pt2) pos.line X.env = pure false := by rfl) (hw : swappedStores [.Tuple tgs kt pt] (.Tuple es k2 pt2) X.env = pure none := by rfl)
    (h1 : (assignEach [.Tuple tgs kt pt] X.env).map (·.2) = [assign (.Tuple tgs kt pt) X.env] := by rfl) : SX G N X W (.Assign [.Tuple tgs kt pt] (.Tuple es k2 pt2) pos) (bPar is as) := fun σ ρ st H D h pp =>
  sS_of (ps_asg pe_sem pg_sem hs hw h1) (sE_of (pe_tup hp) (ha.bdo h pp fun avs ρ1 vs H1 r1 h2 p1 => by
    cases e : setAll is avs ρ1 with
    | none =>
      rw [e] at p1
      exact p1.elim
    | some ρ2 =>
      rw [e] at p1
      have l := setAll_len r1 e
      have hz : vs.length ≤ sizeLine := by
        rw [l]
        exact Nat.le_trans (Nat.le_of_lt hl) (by decide)
      refine ⟨hz, fun p hp => sG_of (pg_tup hc pgs_sem hn hst) ⟨p, vs, rfl, .of upd_same, l, ?_⟩⟩
      exact hg _ σ ρ1 ρ2 st _ vs avs _ r1 (h2.garb hp) e fun σ' H' h' => p1 σ' H' h'))
end
end DL
/-! the data layer: the start of a law -/
namespace DL
open PySem PySem.Spec PyProof.Rows L2
section
variable {G : Gx} {H : Hp} {a : Addr}
theorem rds_ints {F : Hp} : ∀ (ns : List Int), RDs G F (ns.map D.int) (ns.map V.int)
  | [] => rfl
  | n :: ns => ⟨_, _, rfl, rfl, rds_ints ns⟩
theorem start_ok {ns : List Int} (t : TabQs G.T H) (q : SqL G.K H a (ns.map V.int)) : Hs G ⟨[], [], []⟩ H [] [] [(some (.ref a), .d (.lst (ns.map D.int)))] := by
  have mk : ∀ F : Hp, Sub F H → SqL G.K F a (ns.map V.int) → Hs G ⟨[], [], []⟩ H [] [] [(some (.ref a), .d (.lst (ns.map D.int)))] := fun F sb q' =>
    ⟨rfl, ⟨F, [], sb, ⟨[], [], rfl, ⟨rfl, _, rfl, a, _, rfl, q', rds_ints ns⟩, rfl⟩, .nil⟩, ⟨⟨t, fun p hp => nomatch hp⟩, fun p hp => nomatch hp⟩, fun j hj => nomatch hj⟩
  rcases q with (q | ⟨ob, q⟩) | q
  · refine mk (upd (fun _ => none) a (.lst (ns.map V.int))) (fun b o e => ?_) (.inl (.inl upd_same))
    by_cases hb : b = a
    · subst hb
      rw [upd_same] at e
      cases e
      exact And.intro (fun _ z => nomatch z) (.inl q)
    · rw [upd_ne hb] at e
      cases e
  · refine mk (upd (fun _ => none) a (.frz ob (.lst (ns.map V.int)))) (fun b o e => ?_) (.inl (.inr ⟨ob, upd_same⟩))
    by_cases hb : b = a
    · subst hb
      rw [upd_same] at e
      cases e
      exact And.intro (fun _ z => nomatch z) (.inl q)
    · rw [upd_ne hb] at e
      cases e
  · exact mk (fun _ => none) (fun b o e => nomatch e) (.inr q)
theorem tb_start {L : List (Addr × Str)} (h : ∀ p ∈ L, H p.1 = some (.tbl #[])) : TabQs L H := fun p hp => by
  refine ⟨#[], h p hp, ?_, fun pos cv e => ?_⟩
  · first | exact trivial | exact .nil | exact True.intro | simp [TriplesOk]
  · first | exact nomatch e | (simp [codeAmong] at e)
end
end DL
/-! the data layer: sum and sorted of lists and tuples, pop, an item changed -/
namespace DL
open PySem PySem.Spec PyProof.Rows L2 PySem.W
/-! ### sum -/
def intsD : List D → Option (List Int)
  | [] => some []
  | .int i :: r => (intsD r).map (i :: ·)
  | _ :: _ => none
def opSum : List S → ORes
  | [s] => match (seqS s).bind intsD with
    | some ns => .ok (.d (.int ns.sum)) [s]
    | none => .stuck
  | _ => .stuck
/-! ### sorted -/
section
variable {prog : Program} {w : World} {A : Around} {E : Value → Shared → Prop} {s : Shared}
theorem srt_gather {l : Addr} {vs : List Value} {Q : List Value → Shared → Prop} (hz : vs.length ≤ sizeLine) (ht : s.heap.IsTuple l vs.toArray)
    (k : Q vs { s with heap := (s.heap.push (seqObj "list" #[] 0)).update s.heap.objs.size (Obj.mapSeq (· ++ vs.toArray)) }) : wpAny (model prog w) A (collect (.ref l)) Q E s := by
  obtain ⟨ob, g1, g2, n, g3⟩ := id ht
  unfold collect
  refine wpAny_bind (wpAny_runValue (codeAny_builtin entry_proto_collect' ?_)); show wpAny _ _ (do again (.builtin "list.__iadd__" ⟨[← newList [], .ref l], []⟩)) _ _ s
  refine wpAny_bind (wpAny_newList (wpAny_pure ⟨Code.quiet_builtin _ (by decide +kernel), codeAny_builtin entry_list_iadd' ?_⟩)); show wpAny _ _ (Builtin.List.listExtendWith (.ref s.heap.objs.size) (.ref l) (.ref s.heap.objs.size)) _ _ { s with heap := s.heap.push (seqObj "list" #[] 0) }
  unfold Builtin.List.listExtendWith
  have g4 : (s.heap.push (seqObj "list" #[] 0)).get? l = some ob := Heap.get?_push_of_some _ g1
  refine wpAny_bind (wpAny_typeOf (T := "tuple") ⟨ob, g4, g2⟩ ?_)
  have g5 : (Value.type "tuple" == Value.type "tuple") = true := by rfl
  rw [if_pos (by rw [g5]; simp)]
  refine wpAny_bind (listItems_at g4 g3 ?_)
  refine wpAny_bind (listItems_at (n := 0) (xs := #[]) (Heap.get?_push_size _ rfl) rfl ?_); rw [if_neg (by simp)]
  refine wpAny_bind (listUpdate_at (n := 0) (xs := #[]) (Heap.get?_push_size _ rfl) rfl ?_ (Nat.zero_le _) (by show (#[] ++ vs.toArray).size ≤ sizeLine + 1; simp only [Array.size_append, List.size_toArray, List.length_nil]; omega)); refine wpAny_pure ?_
  show wpAny (model prog w) A (do let o ← load s.heap.objs.size; match o.data with
      | .seq xs _ => pure xs.toList
      | _ => unsupported "internal:collect") Q E { s with heap := (s.heap.push (seqObj "list" #[] 0)).update s.heap.objs.size (Obj.mapSeq (· ++ vs.toArray)) }
  refine wpAny_bind (wpAny_load (get?_update_seq (Heap.get?_push_size _ rfl) _) ?_); show wpAny _ _ (pure ((#[] : Array Value) ++ vs.toArray).toList) Q E _
  refine wpAny_pure ?_
  simpa using k
/-- a list or a tuple -/
def SeqIs (h : Heap) (l : Addr) (vs : List Value) : Prop := h.IsList l vs.toArray ∨ h.IsTuple l vs.toArray
theorem srt_run {l : Addr} {vs : List Value} {kw : List (Str × Value)} {Q : Value → Shared → Prop} (hl : SeqIs s.heap l vs) (hL : vs.length ≤ sizeLine) (a1 : argsOk "sorted" ⟨[.ref l], kw⟩) (a2 : ∀ y, argsOk "list.sort" ⟨[.ref y], kw⟩)
    (run : ∀ Z : Value → Shared → Prop, wpAny (model prog w) A.in1.in1 (Builtin.«list.sort» ⟨[.ref (s.heap.objs.size + 1)], kw⟩) (fun f s' => f = .done (.ret .none) ∧ Q (.ref (s.heap.objs.size + 1)) s') Z { s with heap := copyHeap s.heap vs }) :
    wpAny (model prog w) A (call (.builtin "sorted") [.ref l] kw) Q E s := by
  rcases hl with hl | hl
  · exact sorted_of_sort hl hL a1 a2 run
  · refine PyProof.Rows.call_function_entry_kw kind_sorted plain_sorted entry_sorted a1 ?_; unfold Builtin.«sorted»
    refine wpAny_bind (m := checkCount "sorted" 1 1 _) (wpAny_pure ?_); refine wpAny_bind (srt_gather hL hl ?_)
    refine wpAny_bind (wpAny_newList ?_ hL)
    have sz : ((s.heap.push (seqObj "list" #[] 0)).update s.heap.objs.size (Obj.mapSeq (· ++ vs.toArray))).objs.size = s.heap.objs.size + 1 := by rw [Heap.size_update, size_push']
    show wpAny _ _ _ _ _ { s with heap := copyHeap s.heap vs }; rw [sz]
    refine wpAny_bind (wpAny_holding (wpAny_call_entry_kw slot_list_sort ⟨_, copyHeap_at s.heap vs, rfl⟩ entry_list_sort ?run (a2 _)))
    case run =>
      show wpAny (model prog w) A.in1.in1 (Builtin.«list.sort» ⟨[.ref (s.heap.objs.size + 1)], kw⟩) _ _ _
      refine wpAny_mono (run _) (fun f s' ⟨ef, hq⟩ => ?_) fun _ _ e => e
      subst ef
      exact ⟨_, rfl, wpAny_pure ⟨_, rfl, hq⟩⟩
variable {β : Type} {vs : List Value} {bs : List β} {enc : β → PyData} {R : Value → β → Prop}
theorem srt_data {l : Addr} {rev : Bool} {kw : List (Str × Value)} {Q : Value → Shared → Prop} (hkw : (rev = false ∧ kw = []) ∨ kw = [(Str.ofString "reverse", .bool rev)]) (hl : SeqIs s.heap l vs) (e : EachIs R vs bs) (er : EachIs (fun v b => ∃ as, Reads s.heap v (enc b) as) vs bs) (hal : AllAlike (bs.map enc)) (hk : Sortable (bs.map enc)) (hL : bs.length ≤ sizeLine)
    (hu : ∀ b, b ∈ bs → A.units + 2 + (enc b).depth < cLine) (h : ∀ out, out.length = bs.length → EachIs R out (bs.mergeSort (dataLe rev enc)) → Q (.ref (s.heap.objs.size + 1)) { s with heap := sortedAll s.heap vs (List.toArray out) }) :
    wpAny (model prog w) A (call (.builtin "sorted") [.ref l] kw) Q E s := by
  have e2 : EachIs (fun v b => ∃ as, Reads (sortingHeap (copyHeap s.heap vs) (s.heap.objs.size + 1) vs) v (enc b) as) vs bs := er.mono fun _ _ ⟨as, r⟩ => ⟨as, PyProof.Rows.Reads.keeps (fun _ _ => sorting_copy_old) r⟩
  have hV : vs.length ≤ sizeLine := by rw [e.length]; exact hL
  have S := SortsAt.data (prog := prog) (w := w) (A := A.in1.in1) (s := { s with heap := sortingHeap (copyHeap s.heap vs) (s.heap.objs.size + 1) vs }) (each_map (R := fun v d => ∃ as, Reads (sortingHeap (copyHeap s.heap vs) (s.heap.objs.size + 1) vs) v d as) enc e2) hal hk (bound_map hu)
  have fin := h _ (by rw [sortVals_length rev rfl]; exact e.length) (sortVals_data rev e e2 hal)
  rcases hkw with ⟨rfl, rfl⟩ | rfl
  · exact srt_run hl hV (args_sorted1 _) (fun _ => args_list_sort _) fun _ => list_sort_vals (s := { s with heap := copyHeap s.heap vs }) (copyHeap_at s.heap vs) S hV ⟨rfl, fin⟩
  · exact srt_run hl hV (args_sorted_rev _ _) (fun _ => args_list_sort_rev _ _) fun _ => list_sort_rev_vals (s := { s with heap := copyHeap s.heap vs }) (copyHeap_at s.heap vs) S hV ⟨rfl, fin⟩
end
/-- by data -/
def leD (rev : Bool) (x y : D) : Bool := dataLe rev py x y
def srtV (rev : Bool) (ws : List V) (xs : List D) : List (V × D) := (ws.zip xs).mergeSort fun p q => leD rev p.2 q.2
def rSrt (K : PySem.W.Frag) (rev : Bool) : List V → Hp → VK → Prop := fun vs H Q => ∃ (a : Addr) (ws : List V) (xs : List D) (ds : List PyData), vs = [V.ref a] ∧ (SqL K H a ws ∨ SqT K H a ws) ∧ dPys xs = some ds ∧ DpAll K H ws ds ∧ AllAlike ds ∧ Sortable ds ∧ (∀ d ∈ ds, d.depth ≤ 64) ∧ ws.length = xs.length ∧
  ∀ p, H p = none → Q (.ref p) (upd H p (.lst ((srtV rev ws xs).map (·.1))))
theorem dPys_map : ∀ {xs : List D} {ds : List PyData}, dPys xs = some ds → ds = xs.map py
  | [], ds, h => by
    simp only [dPys, Option.some.injEq] at h
    exact h.symm
  | x :: xs, ds, h => by
    unfold dPys at h
    split at h
    · rename_i d ds' e1 e2
      cases h
      rw [dPys_map e2, List.map_cons]
      unfold py
      rw [e1]
      rfl
    · cases h
theorem EachIs.of_zip {X : Cx} {pins : List (Addr × Obj)} {σ : L2.St} {H : Hp} {s : Shared} (I : Inv X pins σ H s) : ∀ {ws : List V} {us : List Value} {xs : List D}, Vals ws us → ws.length = xs.length → DpAll X.K H ws (xs.map py) →
    EachIs (fun u (p : V × D) => RelV p.1 u) us (ws.zip xs) ∧ EachIs (fun u (p : V × D) => ∃ as, Reads s.heap u (py p.2) as) us (ws.zip xs)
  | [], _, [], .nil, _, _ => ⟨.nil, .nil⟩
  | [], _, _ :: _, .nil, h, _ => by simp at h
  | _ :: _, _, [], .cons _ _, h, _ => by simp at h
  | w :: ws, u :: us, x :: xs, .cons r t, h, .cons d ds => by
    obtain ⟨k1, k2⟩ := EachIs.of_zip I t (by simpa using h) ds
    obtain ⟨as, hr⟩ := Dp.readsAll I [py x] [w] [u] (.cons d .nil) (.cons r .nil)
    cases hr with
    | cons h1 h2 => exact ⟨.cons r k1, .cons ⟨_, h1⟩ k2⟩
theorem Vals.of_each : ∀ {out : List Value} {ps : List (V × D)}, EachIs (fun u (p : V × D) => RelV p.1 u) out ps → Vals (ps.map (·.1)) out
  | _, _, .nil => .nil
  | _, _, .cons r t => .cons r (Vals.of_each t)
section
variable {X : Cx}
theorem srt_core {rev : Bool} {kw : List (Str × Value)} (hu : X.A.units + 66 < cLine) (hkw : (rev = false ∧ kw = []) ∨ kw = [(Str.ofString "reverse", .bool rev)]) {pins : List (Addr × Obj)} {s : Shared} {σ : L2.St} {H : Hp} {vs : List V} {us : List Value} {Q : VK} (I : Inv X pins σ H s) (r : Vals vs us) (h : rSrt X.K rev vs H Q) :
    wpAny (model X.prog X.w) X.A (call (.builtin "sorted") us kw) (EP X pins σ Q) X.xe s := by
  obtain ⟨a, ws, xs, ds, rfl, sq, e, hd, ha, hs, hz, hl, q⟩ := h
  rw [Vals.ref1 r]
  have ed := dPys_map e
  subst ed
  have go : ∀ its : List Value, Vals ws its → ws.length ≤ sizeLine → SeqIs s.heap a its → wpAny (model X.prog X.w) X.A (call (.builtin "sorted") [.ref a] kw) (EP X pins σ Q) X.xe s := fun its rv hws hsq => by
    obtain ⟨k1, k2⟩ := EachIs.of_zip I rv hl hd
    have ez : (ws.zip xs).map (fun p => py p.2) = xs.map py := by
      have e5 : (ws.zip xs).map (fun p => py p.2) = ((ws.zip xs).map Prod.snd).map py := by rw [List.map_map]; rfl
      rw [e5, List.map_snd_zip (by omega)]
    have el : (ws.zip xs).length = ws.length := by rw [List.length_zip]; omega
    refine srt_data (rev := rev) hkw hsq k1 (enc := fun p => py p.2) k2 (by rw [ez]; exact ha) (by rw [ez]; exact hs) (by rw [el]; exact hws) (fun b hb => ?_) fun out ho hr => ?_
    · have := hz (py b.2) (List.mem_map.mpr ⟨b.2, (List.of_mem_zip hb).2, rfl⟩)
      show X.A.units + 2 + (py b.2).depth < cLine
      omega
    · obtain ⟨ep, he⟩ := PyProof.Rows.sortedAll_at s.heap its out.toArray
      have hlen : ((srtV rev ws xs).map (·.1)).length ≤ sizeLine := by
        unfold srtV
        rw [List.length_map, List.length_mergeSort, el]
        exact hws
      refine ⟨.ref _, upd H (s.heap.objs.size + 1) (.lst ((srtV rev ws xs).map (·.1))), I.laid (t' := s.toks) (fun _ _ => PyProof.Rows.sortedAll_old) (Nat.le_succ _) ⟨hlen, out, ep, Vals.of_each hr, he⟩, rfl, q _ (I.hok.fresh (Nat.le_succ _))⟩
  rcases sq with sq | sq
  · obtain ⟨its, rv, pl, z⟩ := I.list sq
    exact go its rv z (.inl pl.isList)
  · obtain ⟨its, rv, pl, z⟩ := I.tuple sq
    exact go its rv z (.inr pl)
end
/-! ### sorted, by what is held -/
def alB (ds : List PyData) : Bool := ds.all fun x => ds.all fun y => alike x y
def isTc : PyData → Bool
  | .tuple (_ :: _) => true
  | _ => false
def noTc : PyData → Bool
  | .tuple _ => false
  | .none => false
  | _ => true
def srtB (ds : List PyData) : Bool := alB ds && (ds.all isTc || ds.all noTc) && ds.all fun d => decide (d.depth ≤ 64)
theorem srtB_of {ds : List PyData} (h : srtB ds = true) : AllAlike ds ∧ Sortable ds ∧ ∀ d ∈ ds, d.depth ≤ 64 := by
  unfold srtB alB at h
  simp only [Bool.and_eq_true, Bool.or_eq_true, List.all_eq_true, decide_eq_true_eq] at h
  obtain ⟨⟨h1, h2⟩, h3⟩ := h
  refine ⟨fun x hx y hy => h1 x hx y hy, ?_, h3⟩
  rcases h2 with h2 | h2
  · refine .inl fun d hd => ?_
    have := h2 d hd
    match d, this with
    | .tuple (x :: r), _ => exact ⟨x, r, rfl⟩
  · refine .inr fun d hd => ?_
    have := h2 d hd
    exact ⟨(fun z => by subst z; cases this), (fun xs z => by subst z; cases this)⟩
def opSorted (rev : Bool) : List S → ORes
  | [s] => match seqS s with
    | some xs => match dPys xs with
      | some ds => if srtB ds then .ok (.l (xs.mergeSort (leD rev))) [s] else .stuck
      | none => .stuck
    | none => .stuck
  | _ => .stuck
section
variable {G : Gx} {N : Pn} {W : WX} {H : Hp} {σ : L2.St} {ρ : List S} {st : Stk}
theorem zs_zip : ∀ (ws : List V) (xs : List D), zs ws (xs.map .d) = (ws.zip xs).map fun p => (some p.1, S.d p.2)
  | [], _ => by simp [zs]
  | _ :: _, [] => by simp [zs]
  | w :: ws, x :: xs => by
    have ih := zs_zip ws xs
    unfold zs at ih ⊢
    simp only [List.map_cons, List.zip_cons_cons, ih]
theorem zip_fs {α β : Type} : ∀ ps : List (α × β), (ps.map (·.1)).zip (ps.map (·.2)) = ps
  | [] => rfl
  | p :: ps => by simp [zip_fs ps]
theorem Hs.srt {ws : List V} {xs : List D} {rev : Bool} {p : Addr} (h : Hs G N H σ ρ (zs ws (xs.map .d) ++ st)) (l : ws.length = xs.length) (hp : H p = none) : Hs G N (upd H p (.lst ((srtV rev ws xs).map (·.1)))) σ ρ ((some (.ref p), .l (xs.mergeSort (leD rev))) :: st) := by
  have e1 : (srtV rev ws xs).map (·.2) = xs.mergeSort (leD rev) := by
    unfold srtV
    rw [List.map_mergeSort (s := leD rev) (fun a _ b _ => rfl), List.map_snd_zip (by omega)]
  have pm : (zs ws (xs.map .d) ++ st).Perm (zs ((srtV rev ws xs).map (·.1)) (((srtV rev ws xs).map (·.2)).map .d) ++ st) := by
    refine List.Perm.append_right _ ?_
    rw [zs_zip, zs_zip, zip_fs]
    exact ((List.mergeSort_perm _ _).map _).symm
  have h2 := (h.perm pm).newL (by simp) hp
  rw [e1] at h2
  exact h2
theorem os_srt {rev : Bool} : OpS G N W (rL (rSrt G.K rev)) (opSorted rev) := fun σ ρ st H vs xs Q l h p => by
  match xs, p, h, l with
  | [s], p, h, l =>
    unfold opSorted at p
    simp only at p
    cases e : seqS s with
    | none =>
      rw [e] at p
      exact p.elim
    | some ys =>
    rw [e] at p
    simp only at p
    cases e2 : dPys ys with
    | none =>
      rw [e2] at p
      exact p.elim
    | some ds =>
    rw [e2] at p
    simp only at p
    by_cases hb : srtB ds = true
    · rw [if_pos hb] at p
      obtain ⟨v, ev, h1⟩ := one l h
      subst ev
      obtain ⟨a, ws, ea, sq, l3, h4⟩ := h1.items e
      subst ea
      obtain ⟨F, fp, sb, r, n⟩ := h4.ex
      rw [List.append_assoc] at r
      obtain ⟨x1, x2, _, r1, _⟩ := (RL.app _ _ _).mp r
      have q := ((RL.ds l3).mp r1).2
      obtain ⟨k1, k2, k3⟩ := srtB_of hb
      exact ⟨a, ws, ys, ds, rfl, sq, e2, q.dps sb e2, k1, k2, k3, l3, fun p' hp => p.2 _ _ (h4.srt l3 hp)⟩
    · rw [if_neg hb] at p
      exact p.elim
end
section
variable {G : Gx} {N : Pn} {X : Cx} {W : WX} {e : Expr} {as : List Arg} {pos : Pos}
def rSrtK (K : PySem.W.Frag) (b : Bool) : List V → List V → Hp → VK → Prop := fun vs zs H Q => zs = [.bl b] ∧ rSrt K b vs H Q
theorem cr_srtK {b : Bool} (hu : X.A.units + 66 < cLine) : CallRK X (.builtin "sorted") [Str.ofString "reverse"] (rSrtK X.K b) := by
  intro pins s σ H vs zs us ws Q I r rz h
  obtain ⟨ez, h⟩ := h
  subst ez
  obtain ⟨w1, rfl, e1⟩ := vals1 rz
  obtain rfl : w1 = Value.bool b := e1
  exact srt_core hu (.inr rfl) I r h
theorem ex_srtR {p kp : Pos} {x : Str} {b : Bool} {j : Nat} {cp : Pos} (hK : X.K = G.K) (hu : X.A.units + 66 < cLine) (hx : x = "sorted") (hm : X.mg x = none) (ha : AX G N X W [e] as) (hp : PA X [e] (sAs X [e])) (hgl : Gl X x := by rfl)
    (he : backTo pos (starEach [e] X.env) = (false, eval e X.env) :: backTo pos (starEach [] X.env) := by rfl) (hpl : (backTo pos (starEach [e] X.env)).any (·.1) = false := by rfl)
    (hall : (backToKw pos (keywordEach [⟨some "reverse", .Constant (.bool b) j cp, kp⟩] X.env)).all (·.1.isSome) = true := by rfl) (hnone : (backToKw pos (keywordEach [⟨some "reverse", .Constant (.bool b) j cp, kp⟩] X.env)).any (·.1.isNone) = false := by rfl)
    (hks : (backToKw pos (keywordEach [⟨some "reverse", .Constant (.bool b) j cp, kp⟩] X.env)).filterMap (·.1) = [Str.ofString "reverse"] := by rfl) :
    EX G N X W (.Call (.Name x p) [e] [⟨some "reverse", .Constant (.bool b) j cp, kp⟩] pos) (mOp (opSorted b) as) := by
  subst hx
  refine ex_op (r := rL (rSrt X.K b)) (fun σ H Q h => ?_) ha (by rw [hK]; exact os_srt)
  refine sE_of (pe_callBK (r := rSrtK X.K b) (cr_srtK hu) hgl hm (by decide +kernel) hp (pk_cons pe_bl pk_nil) (by decide) (by decide) he hpl hall hnone hks) ?_
  have key : ∀ (es : List Expr) (σ : L2.St) (H : Hp) (R R' : List V → Hp → Prop), (∀ vs H', R vs H' → R' vs H') → sAs X es σ H R → sAs X es σ H R' := fun es => by
    induction es with
    | nil => exact fun σ H R R' k h => k _ _ h
    | cons a as ih => exact fun σ H R R' k h pins s I => wpAny_mono (h pins s I) (fun v s' ⟨w, H1, I1, r1, q1⟩ => ⟨w, H1, I1, r1, ih σ H1 _ _ (fun vs H' q => k _ _ q) q1⟩) fun _ _ z => z
  exact key _ _ _ _ _ (fun vs H' q => ⟨rfl, q⟩) h
end
end DL
/-! the data layer: pop, an item changed in place -/
namespace DL
open PySem PySem.Spec PyProof.Rows L2 PySem.W
section
variable {G : Gx} {N : Pn} {X : Cx} {W : WX} {H : Hp} {σ : L2.St} {ρ : List S} {st : Stk}
def opPop : List S → ORes
  | [.l xs] => match xs[xs.length - 1]? with
    | some x => .ok (.d x) [.l xs.dropLast]
    | none => .stuck
  | _ => .stuck
/-! ### xs[i] op= e, xs owned, ints -/
theorem get_list : PGet X (rIxL X.K) := by
  intro pins s σ H o i ov iv Q I rx ry h
  obtain ⟨p, xs, k, z, rfl, rfl, hq, he, q⟩ := h
  cases rx
  obtain ⟨t, rfl⟩ := ry
  obtain ⟨its, r, pl, hz⟩ := I.list hq
  obtain ⟨j, h1, h2, h3, h4, h5⟩ := atI_get he
  obtain ⟨w, ew, rw'⟩ := r.get h2
  have hl := r.length
  have hn := line63
  have fin : EP X pins σ Q w s := ⟨z, H, I, rw', q⟩
  by_cases h0 : 0 ≤ k
  · have hj : k.toNat = j := by
      rw [seqIndex_of h0 h5] at h1
      exact Option.some.inj h1
    exact wpAny_getItem_list pl.isList h0 (by omega) (by rw [hj]; simpa using ew) fin
  · have hj : (k + (its.toArray.size : Int)).toNat = j := by
      rw [seqIndex_neg (by omega) h4] at h1
      rw [List.size_toArray, ← hl]
      exact Option.some.inj h1
    exact wpAny_getItem_list_neg pl.isList (by omega) (by rw [List.size_toArray] <;> omega) (by omega) (by rw [hj]; simpa using ew) fin
def augS3 (io : Nat) (op : Int → Int → Int) (k n : Int) (t : S) : B := match t with
  | .d (.int m) => fun ρ2 => match ρ2[io]? with
    | some (.l ys) => match ixN ys.length k with
      | some j => .nx (ρ2.set io (.l (ys.set j (.int (op n m)))))
      | none => .stuck
    | _ => .stuck
  | _ => fun _ => .stuck
def augS2 (io : Nat) (op : Int → Int → Int) (fe : M S) (s : S) : B := match s with
  | .d (.int k) => fun ρ1 => match ρ1[io]? with
    | some (.l xs) => match atI xs k with
      | some (.int n) => bdo fe (augS3 io op k n) ρ1
      | _ => .stuck
    | _ => .stuck
  | _ => fun _ => .stuck
def bAugS (io : Nat) (op : Int → Int → Int) (fi fe : M S) : B := fun ρ => match ρ[io]? with
  | some (.l _) => bdo fi (augS2 io op fe) ρ
  | _ => .stuck
theorem fps_more {x : Option V × S} {D : Ends} {r : Fl} (h : fps G N W st D r) : fps G N W (x :: st) D r := by
  cases r with
  | nx ρ => exact fun σ' H' k => h σ' H' k.drop
  | rt s ρ => exact fun v σ' H' k => h v σ' H' (k.perm (.swap _ _ _)).drop
  | bk ρ => exact fun σ' H' k => h σ' H' k.drop
  | ct ρ => exact fun σ' H' k => h σ' H' k.drop
  | exc c p ρ => exact fun cls d σ' H' a k => h cls d σ' H' a k.drop
  | stuck => exact h
theorem sx_augS (io : Nat) {x : Str} {i e : Expr} {op : Operator} {tpos pos p' : Pos} {fi fe : M S} {g : Int → Int → Int} (hK : X.K = G.K) (ho : PIp X op (ipI g)) (hi : EX G N X W i fi) (he : EX G N X W e fe) (hx : X.N[io]? = some x := by rfl) (hv : Vis X.env.scope x := by first | exact Or.inl rfl | exact Or.inr (Or.inl rfl) | exact Or.inr (Or.inr rfl)) (hd : (x == ("__debug__" : Str)) = false := by decide) (hcd : (x == ("__classdict__" : Str)) = false := by decide)
    (ha : ∀ ov iv new, augStore i ov iv new = (do holding [new, ov, iv] (setItem ov iv new); release [new, ov, iv] []; pure .next) := by intros; rfl) :
    SX G N X W (.AugAssign (.Subscript (.Name x p') i tpos) op e pos) (bAugS io g fi fe) := fun σ ρ st H D h pp => by
  unfold bAugS at pp
  split at pp
  · rename_i xs0 e0
    obtain ⟨v, ev⟩ := h.val e0 (by intro z; cases z)
    refine sS_of (ps_augS (pe_var hx hv hd hcd) pe_sem get_list pe_sem ho set_list ha) ⟨v, ev, hi.bdo h pp fun s ρ1 w H1 h1 p1 => ?_⟩
    unfold augS2 at p1
    split at p1
    · rename_i k
      have ek := h1.int
      subst ek
      split at p1
      · rename_i xs e1
        split at p1
        · rename_i n e2
          have h2 := h1.pull e1 ev
          obtain ⟨a, ws, ea, eH, l2⟩ := h2.lAt
          subst ea
          obtain ⟨a', ws', ea, sq, l3, h3⟩ := h2.itemsL (xs := xs) rfl
          cases ea
          obtain ⟨j, e3, e4⟩ : ∃ j, ixN xs.length k = some j ∧ xs[j]? = some (.int n) := by
            unfold atI at e2
            rw [Option.bind_eq_some_iff] at e2
            exact e2
          obtain ⟨y, ey, h4⟩ := h3.one (i := j) (x := .d (.int n)) (by simpa using l3) (by rw [List.getElem?_map, e4]; rfl)
          have ey2 := h4.int
          subst ey2
          refine ⟨a, ws', k, .int n, rfl, rfl, by rw [hK]; exact sq, by unfold atI; rw [l3, e3]; exact ey, he.bdo h1 (fps_more p1) fun t ρ2 u H2 h5 p2 => ?_⟩
          unfold augS3 at p2
          split at p2
          · rename_i m
            have eu := h5.int
            subst eu
            split at p2
            · rename_i ys e5
              split at p2
              · rename_i j2 e6
                have h6 := h5.pull e5 ev
                obtain ⟨a2, ws2, ea2, eH2, l4⟩ := h6.lAt
                cases ea2
                refine ⟨n, m, rfl, rfl, a, ws2, k, j2, rfl, rfl, eH2, by rw [l4]; exact e6, ?_⟩
                obtain ⟨F, fp, sb, ⟨a1, b1, ef1, ⟨p'', vs', ev', ea', eH', eF, q⟩, r⟩, nn⟩ := h6.ex
                cases ev'
                subst ea' ef1
                rw [eH2] at eH'
                cases eH'
                have hnp : a ∉ b1 := (List.nodup_cons.mp nn).1
                have h7 : Hs G N (upd H2 a (.lst (ws2.set j2 (.int (g n m))))) σ (ρ2.set io .gone) ((some (.ref a), .l (ys.set j2 (.int (g n m)))) :: (some (.int m), .d (.int m)) :: (some (.int k), .d (.int k)) :: st) :=
                  ⟨h6.len, ⟨F, [a] ++ b1, sub_upd sb eF, ⟨[a], b1, rfl, ⟨a, ws2.set j2 (.int (g n m)), rfl, rfl, upd_same, eF, RDs.set q rfl⟩, RL.keep (Le.refl F) _ b1 r (fr_upd r hnp)⟩, nn⟩, tabs_upd h6.tb eH2 trivial, h6.pin⟩
                have hlt : io < ρ2.length := (List.getElem?_eq_some_iff.mp e5).1
                have h8 := h7.put (i := io) (t := .gone) (by simp [hlt]) ev
                rw [List.set_set] at h8
                exact p2 _ _ h8.drop
              · exact p2.elim
            · exact p2.elim
          · exact p2.elim
        · exact p1.elim
      · exact p1.elim
    · exact p1.elim
  · exact pp.elim
end
end DL
/-! the data layer: list + list, owned or settled -/
namespace DL
open PySem PySem.Spec PyProof.Rows L2 PySem.W
section
variable {G : Gx} {N : Pn} {X : Cx} {W : WX} {H : Hp} {σ : L2.St} {ρ : List S} {st : Stk}
def rCatL (K : PySem.W.Frag) : R2 := fun x y H Q => ∃ a b xs ys, x = .ref a ∧ y = .ref b ∧ SqL K H a xs ∧ SqL K H b ys ∧ xs.length + ys.length ≤ sizeLine ∧ ∀ p, H p = none → Q (.ref p) (upd H p (.lst (xs ++ ys)))
theorem op_catL : OpR X (binaryOp .Add) (rCatL X.K) := by
  intro pins s σ H x y v u Q I rx ry h
  obtain ⟨a, b, xs, ys, rfl, rfl, hx, hy, hz, q⟩ := h
  cases rx
  cases ry
  obtain ⟨its, r, ⟨o1, n1, g1, c1, d1, e1⟩, _⟩ := I.list hx
  obtain ⟨its2, r2, ⟨o2, n2, g2, c2, d2, e2⟩, _⟩ := I.list hy
  obtain ⟨cls1, dd1, data1, sl1⟩ := o1
  obtain ⟨cls2, dd2, data2, sl2⟩ := o2
  simp only at c1 d1 e1 c2 d2 e2
  subst c1 d1 e1 c2 d2 e2
  have l1 := r.length
  have l2 := r2.length
  have en := PySem.F.entry_list_add
  have so := PySem.F.slot_list_add
  have ar := PySem.F.args_list_add_2 (.ref a) (.ref b)
  have me := list_addW a b its.toArray its2.toArray n1 n2 none none sl1 sl2 (by rw [List.size_toArray, List.size_toArray, ← l1, ← l2]; exact hz)
  refine concat_meets (hfill := noFill_list_add) (ha := ⟨_, g1, rfl⟩) (hb := ⟨_, g2, rfl⟩) (slot := so) (hseq := seq_list_add) (g := me) (entry := en) (args := ar) ⟨g1, g2, ?_⟩
  have ea : its.toArray ++ its2.toArray = (its ++ its2).toArray := by simp
  rw [ea]
  exact ⟨.ref _, _, I.lnew (t' := s.toks) (r.append r2) (by rw [List.length_append]; omega), rfl, q _ I.fresh⟩
def opCatL : List S → ORes
  | [s, u] => match lstS s, lstS u with
    | some xs, some ys => if xs.length + ys.length ≤ 100000 then .ok (.l (xs ++ ys)) [s, u] else .stuck
    | _, _ => .stuck
  | _ => .stuck
theorem os_catL : OpS G N W (r2L (rCatL G.K)) opCatL := fun σ ρ st H vs xs Q l h p => by
  match xs, p, h, l with
  | [s, u], p, h, l =>
    unfold opCatL at p
    simp only at p
    obtain ⟨v, w, ev, h1, h2⟩ := two l h
    subst ev
    cases e1 : lstS s with
    | none =>
      rw [e1] at p
      exact p.elim
    | some xs =>
      cases e2 : lstS u with
      | none =>
        rw [e1, e2] at p
        exact p.elim
      | some ys =>
        rw [e1, e2] at p
        simp only at p
        by_cases hz : xs.length + ys.length ≤ 100000
        · rw [if_pos hz] at p
          obtain ⟨b, ws, eb, sq2, l2, h4⟩ := h2.itemsL e2
          have h5 : Hs G N H σ ρ ((some v, s) :: (zs ws (ys.map .d) ++ ((some w, u) :: st))) := h4.perm (by
            have := (List.perm_middle (a := (some v, s)) (l₁ := zs ws (ys.map .d)) (l₂ := (some w, u) :: st)).symm
            refine List.Perm.trans ?_ this.symm
            exact List.Perm.append_left _ (.swap _ _ _))
          obtain ⟨a, vs, ea, sq1, l1, h6⟩ := h5.itemsL e1
          subst ea eb
          have h7 : Hs G N H σ ρ (zs (vs ++ ws) ((xs ++ ys).map .d) ++ (zs [.ref a, .ref b] [s, u] ++ st)) := by
            rw [List.map_append, zs_app (by simp [l1]), List.append_assoc]
            refine h6.perm (List.Perm.append_left _ ?_)
            exact List.perm_middle.symm
          exact ⟨a, b, vs, ws, rfl, rfl, sq1, sq2, by rw [l1, l2]; exact Nat.le_trans hz (by decide), fun q hq => p.2 _ _ (h7.newL (by simp [l1, l2]) hq)⟩
        · rw [if_neg hz] at p
          exact p.elim
theorem e_opCatL_ll (xs ys : List D) (h : xs.length + ys.length ≤ 100000) : opCatL [.l xs, .l ys] = .ok (.l (xs ++ ys)) [.l xs, .l ys] := if_pos h
theorem e_opCatL_dl (xs ys : List D) (h : xs.length + ys.length ≤ 100000) : opCatL [.d (.lst xs), .l ys] = .ok (.l (xs ++ ys)) [.d (.lst xs), .l ys] := if_pos h
theorem e_opCatL_ld (xs ys : List D) (h : xs.length + ys.length ≤ 100000) : opCatL [.l xs, .d (.lst ys)] = .ok (.l (xs ++ ys)) [.l xs, .d (.lst ys)] := if_pos h
theorem e_opCatL_dd (xs ys : List D) (h : xs.length + ys.length ≤ 100000) : opCatL [.d (.lst xs), .d (.lst ys)] = .ok (.l (xs ++ ys)) [.d (.lst xs), .d (.lst ys)] := if_pos h
end
end DL
/-! the data layer: dicts whose keys are ints and texts -/
namespace DL
open PySem PySem.Spec PyProof.Rows L2 PySem.W
def dicS : S → Option (List D × List D)
  | .m ks vs => some (ks, vs)
  | .d (.dic ks vs) => some (ks, vs)
  | .w ks vs => some (ks, vs)
  | _ => none
def kOk : List D → Bool
  | [] => true
  | k :: ks => (keyD k).isSome && kOk ks
def hasK (ks : List D) (y : D) : Bool := ks.any fun k => decide (keyD k = keyD y)
def look : List D → List D → D → Option D
  | k :: ks, v :: vs, y => if keyD k = keyD y then some v else look ks vs y
  | _, _, _ => none
def putN (ks : List D) (y : D) : List D := if hasK ks y = true then ks else ks ++ [y]
def putZ : List D → List D → D → D → List D
  | k :: ks, v :: vs, y, x => (if keyD k = keyD y then x else v) :: putZ ks vs y x
  | _, _, _, _ => []
def putV (ks vs : List D) (y x : D) : List D := if hasK ks y = true then putZ ks vs y x else vs ++ [x]
def putZV : List Key → List V → Key → V → List V
  | k :: ks, v :: vs, y, x => (if k = y then x else v) :: putZV ks vs y x
  | _, _, _, _ => []
section
variable {G : Gx} {N : Pn} {X : Cx} {W : WX} {H H' : Hp} {σ : L2.St} {ρ : List S} {st : Stk}
theorem kd_cons {k : D} {ks : List D} {kk : List Key} (h : (k :: ks).map keyD = kk.map some) : ∃ q r, kk = q :: r ∧ keyD k = some q ∧ ks.map keyD = r.map some := by
  match kk, h with
  | [], h => cases h
  | q :: r, h =>
    rw [List.map_cons, List.map_cons] at h
    injection h with h1 h2
    exact ⟨q, r, rfl, h1, h2⟩
theorem kd_nil {kk : List Key} (h : ([] : List D).map keyD = kk.map some) : kk = [] := by
  cases kk with
  | nil => rfl
  | cons _ _ => cases h
theorem has_any {y : D} {q : Key} (ey : keyD y = some q) : ∀ {ks : List D} {kk : List Key} {ws : List V}, ks.map keyD = kk.map some → kk.length = ws.length → ((kk.zip ws).any fun kv => decide (kv.1 = q)) = hasK ks y
  | [], kk, ws, h, _ => by
    rw [kd_nil h]
    rfl
  | k :: ks, kk, ws, h, l => by
    obtain ⟨a, r, e1, e2, e3⟩ := kd_cons h
    subst e1
    cases ws with
    | nil => cases l
    | cons w ws =>
      have ih := has_any (ws := ws) ey e3 (by simpa using l)
      unfold hasK at *
      rw [List.zip_cons_cons, List.any_cons, List.any_cons, ih, e2, ey]
      simp
theorem look_ok {y : D} {q : Key} (ey : keyD y = some q) : ∀ {ks vs : List D} {kk : List Key} {ws : List V}, ks.map keyD = kk.map some → kk.length = ws.length → ws.length = vs.length →
    (∀ x, look ks vs y = some x → ∃ (j : Nat) (w : V), valV (kk.zip ws) q = some w ∧ ws[j]? = some w ∧ vs[j]? = some x) ∧ (look ks vs y = none → valV (kk.zip ws) q = none)
  | [], vs, kk, ws, h, _, _ => by
    rw [kd_nil h]
    exact ⟨fun x e => by simp [look] at e, fun _ => rfl⟩
  | k :: ks, vs, kk, ws, h, l, l2 => by
    obtain ⟨a, r, e1, e2, e3⟩ := kd_cons h
    subst e1
    match ws, vs, l, l2 with
    | w :: ws, v :: vs, l, l2 =>
      obtain ⟨i1, i2⟩ := look_ok (vs := vs) (ws := ws) ey e3 (by simpa using l) (by simpa using l2)
      unfold look
      by_cases hq : a = q
      · rw [if_pos (by rw [e2, ey, hq])]
        have e4 : valV ((a :: r).zip (w :: ws)) q = some w := valV_pos hq
        exact ⟨fun x e => ⟨0, w, e4, rfl, e⟩, fun e => by cases e⟩
      · rw [if_neg (by rw [e2, ey]; simpa using hq)]
        have e4 : valV ((a :: r).zip (w :: ws)) q = valV (r.zip ws) q := valV_neg hq
        rw [e4]
        exact ⟨fun x e => by
          obtain ⟨j, u, a1, a2, a3⟩ := i1 x e
          exact ⟨j + 1, u, a1, by simpa using a2, by simpa using a3⟩, i2⟩
theorem zipm {q : Key} {w : V} : ∀ {kk : List Key} {ws : List V}, (kk.zip ws).map (fun kv => if kv.1 = q then (kv.1, w) else kv) = kk.zip (putZV kk ws q w)
  | [], _ => rfl
  | _ :: _, [] => rfl
  | k :: kk, v :: ws => by
    have e : putZV (k :: kk) (v :: ws) q w = (if k = q then w else v) :: putZV kk ws q w := by rw [putZV]
    rw [e, List.zip_cons_cons, List.map_cons, zipm, List.zip_cons_cons]
    congr 1
    by_cases h : k = q
    · simp [h]
    · simp [h]
theorem putZV_len {q : Key} {w : V} : ∀ {kk : List Key} {ws : List V}, kk.length = ws.length → (putZV kk ws q w).length = ws.length
  | [], [], _ => rfl
  | k :: kk, v :: ws, h => by
    unfold putZV
    rw [List.length_cons, putZV_len (by simpa using h), List.length_cons]
theorem putZ_rd {F : Hp} {y x : D} {q : Key} {w : V} (ey : keyD y = some q) (hx : RD G F x w) : ∀ {ks vs : List D} {kk : List Key} {ws : List V}, ks.map keyD = kk.map some → kk.length = ws.length → RDs G F vs ws → RDs G F (putZ ks vs y x) (putZV kk ws q w)
  | [], vs, kk, ws, h, l, r => by
    have := kd_nil h
    subst this
    unfold putZ putZV
    rfl
  | k :: ks, vs, kk, ws, h, l, r => by
    obtain ⟨a, t, e1, e2, e3⟩ := kd_cons h
    subst e1
    match ws, vs, l, r with
    | w' :: ws, [], l, r =>
      have : w' :: ws = [] := r
      cases this
    | w' :: ws, v :: vs, l, r =>
      obtain ⟨u, s, e4, r1, r2⟩ := r
      injection e4 with e5 e6
      subst e5 e6
      have ih := putZ_rd ey hx (vs := vs) e3 (by simpa using l) r2
      unfold putZ putZV
      by_cases hq : a = q
      · rw [if_pos hq, if_pos (by rw [e2, ey, hq])]
        exact ⟨_, _, rfl, hx, ih⟩
      · rw [if_neg hq, if_neg (by rw [e2, ey]; simpa using hq)]
        exact ⟨_, _, rfl, r1, ih⟩
theorem rds_app {F : Hp} : ∀ {xs ys : List D} {vs ws : List V}, RDs G F xs vs → RDs G F ys ws → RDs G F (xs ++ ys) (vs ++ ws)
  | [], ys, vs, ws, h, k => by
    have : vs = [] := h
    subst this
    exact k
  | x :: xs, ys, _, ws, ⟨v, r, e, h1, h2⟩, k => by
    subst e
    exact ⟨v, r ++ ws, rfl, h1, rds_app h2 k⟩
theorem kOk_no {ks : List D} (h : kOk ks = true) {kk : List (List Key)} (n : ks ≠ []) (e : ks.map keyT = kk.map some) : False := by
  cases ks with
  | nil => exact n rfl
  | cons k ks =>
    cases kk with
    | nil => cases e
    | cons q r =>
      rw [List.map_cons, List.map_cons] at e
      injection e with e1 e2
      unfold kOk at h
      cases k <;> simp [keyD, keyT] at h e1
/-- a dict on the stack: where it is, its pairs; its values lie on the stack, too -/
theorem Hs.dict {v : V} {s : S} {ks vs : List D} (h : Hs G N H σ ρ ((some v, s) :: st)) (e : dicS s = some (ks, vs)) (ko : kOk ks = true) : ∃ (a : Addr) (kk : List Key) (ws : List V), v = .ref a ∧ Rd H a (.dK (kk.zip ws)) ∧ kk.length = ws.length ∧ ks.map keyD = kk.map some ∧ ws.length = vs.length ∧ Hs G N H σ ρ (zs ws (vs.map .d) ++ ((some v, s) :: st)) := by
  obtain ⟨F, fp, sb, ⟨fa, fr, ef, q, r⟩, n⟩ := h.ex
  have fin : ∀ (ws : List V), RDs G F vs ws → RF G F H s (some v) fa → Hs G N H σ ρ (zs ws (vs.map .d) ++ ((some v, s) :: st)) := fun ws q2 q => by
    refine ⟨h.len, ⟨F, fp, sb, ?_, n⟩, h.tb, h.pin⟩
    rw [List.append_assoc]
    exact (RL.app _ _ _).mpr ⟨[], fp, rfl, (RL.ds q2.len).mpr ⟨rfl, q2⟩, fa, fr, ef, q, r⟩
  cases s with
  | m ks' vs' =>
    cases e
    obtain ⟨a, ev, efa, eF, al⟩ := id q
    cases ev
    rcases al with ⟨kk, ws, e1, e2, e3, e4⟩ | ⟨kk, ws, e1, e2, e3, e4⟩
    · exact ⟨a, kk, ws, rfl, .inl e1, e2, e3, e4.len, fin ws e4 q⟩
    · exact (kOk_no ko e2.2 e3).elim
  | w ks' vs' =>
    cases e
    obtain ⟨a, ob, ev, efa, eF, al⟩ := id q
    cases ev
    rcases al with ⟨kk, ws, e1, e2, e3, e4⟩ | ⟨kk, ws, e1, e2, e3, e4⟩
    · exact ⟨a, kk, ws, rfl, .inr ⟨ob, e1⟩, e2, e3, e4.len, fin ws e4 q⟩
    · exact (kOk_no ko e2.2 e3).elim
  | d x =>
    cases x with
    | dic ks' vs' =>
      cases e
      obtain ⟨_, w, ew, a, ev, al⟩ := id q
      cases ew
      rcases al with ⟨kk, ws, e1, e2, e3, e4⟩ | ⟨kk, ws, e1, e2, e3, e4⟩
      · exact ⟨a, kk, ws, ev, Rd.sub sb (.inl e1), e2, e3, e4.len, fin ws e4 q⟩
      · exact (kOk_no ko e2.2 e3).elim
    | _ => cases e
  | _ => cases e
/-- a key on the stack -/
theorem Hs.key {v : V} {k : D} {q : Key} (h : Hs G N H σ ρ ((some v, .d k) :: st)) (e : keyD k = some q) : v = kV q := by
  cases k with
  | int i =>
    cases e
    exact h.int
  | str x =>
    cases e
    exact h.str
  | _ => cases e
/-! ### d[k] -/
def rDGet : R2 := fun x y H Q => ∃ a v, x = .ref a ∧ DGet H a y (some v) ∧ Q v H
theorem ixd (hu : X.A.units + 1 < cLine) : IxR X rDGet := by
  intro value slice pins s σ H x y v u Q I rx ry h hs
  obtain ⟨a, z, ex, g, q⟩ := h
  subst ex
  obtain rfl : v = Value.ref a := rx
  unfold subscriptTail
  refine wpAny_bind ?_
  rw [getitemInPython_of_ne (dict_typeIs I g).not_modules]
  refine wpAny_bind (wpAny_specialOf (dict_typeIs I g) PySem.F.slot_dict_getitem.lookup ?_)
  have hd : wpAny (model X.prog X.w) X.A (getItem (.ref a) u) (EP X pins σ Q) X.xe s := d_getItem hu I g ry fun w' s3 I3 rw' => ⟨z, H, I3, rw', q⟩
  have hg : wpAny (model X.prog X.w) X.A (subscripted slice false (.ref a) u) (fun r s₃ => wpAny (model X.prog X.w) X.A (letTemporaryGo value (.ref a) r >>= fun _ => pure r) (EP X pins σ Q) X.xe s₃) X.xe s := by
    rw [hs]
    exact wpAny_operating (wpAny_mono hd (fun r s₃ h₃ => wpAny_bind (wpAny_letTemporaryGo (wpAny_pure h₃))) fun _ _ x => x)
  first
    | exact wpAny_bind (wpAny_pure (wpAny_bind hg))
    | exact wpAny_pure (wpAny_bind hg)
    | exact wpAny_bind hg
end
end DL
/-! the data layer: what is done with dicts -/
namespace DL
open PySem PySem.Spec PyProof.Rows L2 PySem.W
section
variable {G : Gx} {N : Pn} {X : Cx} {W : WX} {H H' : Hp} {σ : L2.St} {ρ : List S} {st : Stk}
/-! ### d[k] -/
def opDix : List S → ORes
  | [s, .d k] => match dicS s with
    | some p => if kOk p.1 = true ∧ (keyD k).isSome = true then (match look p.1 p.2 k with
      | some x => .ok (.d x) [s, .d k]
      | none => .stuck) else .stuck
    | none => .stuck
  | _ => .stuck
theorem os_dix : OpS G N W (r2L rDGet) opDix := fun σ ρ st H vs xs Q l h p => by
  match xs, p, h, l with
  | [s, .d k], p, h, l =>
    unfold opDix at p
    simp only at p
    obtain ⟨v, w, ev, h1, h2⟩ := two l h
    subst ev
    cases e : dicS s with
    | none =>
      rw [e] at p
      exact p.elim
    | some pr =>
      obtain ⟨ks, us⟩ := pr
      rw [e] at p
      simp only at p
      by_cases hc : kOk ks = true ∧ (keyD k).isSome = true
      · rw [if_pos hc] at p
        obtain ⟨q, eq⟩ := Option.isSome_iff_exists.mp hc.2
        cases el : look ks us k with
        | none =>
          rw [el] at p
          exact p.elim
        | some x =>
          rw [el] at p
          obtain ⟨a, kk, ws, ea, rd, l1, l2, l3, h4⟩ := h1.dict e hc.1
          subst ea
          have ek := h2.key eq
          subst ek
          obtain ⟨j, u, e1, e2, e3⟩ := (look_ok eq l2 l1 l3).1 x el
          obtain ⟨u', eu, h5⟩ := h4.one (i := j) (x := .d x) (by simpa using l3) (by simp [e3])
          rw [e2] at eu
          cases eu
          exact ⟨a, u, rfl, .inl ⟨_, q, rd, rfl, e1.symm⟩, p.2 u H h5⟩
      · rw [if_neg hc] at p
        exact p.elim
/-! ### k in d, k not in d -/
def rDIn (neg : Bool) : R2 := fun y x H Q => ∃ a o, x = .ref a ∧ DGet H a y o ∧ Q (.bl (if neg then !o.isSome else o.isSome)) H
theorem op_dNotIn (hu : X.A.units + 1 < cLine) : OpR X (compareOp .NotIn) (rDIn true) := by
  intro pins s σ H x y v u Q I rx ry h
  obtain ⟨a, o, ex, g, q⟩ := h
  subst ex
  obtain rfl : u = Value.ref a := ry
  exact d_notIn hu I g rx fun s3 I3 => ⟨.bl (!o.isSome), H, I3, rfl, q⟩
def opDIn (neg : Bool) : List S → ORes
  | [.d k, s] => match dicS s with
    | some p => if kOk p.1 = true ∧ (keyD k).isSome = true then .ok (.d (.bl (if neg then !(look p.1 p.2 k).isSome else (look p.1 p.2 k).isSome))) [.d k, s] else .stuck
    | none => .stuck
  | _ => .stuck
theorem os_dIn (neg : Bool) : OpS G N W (r2L (rDIn neg)) (opDIn neg) := fun σ ρ st H vs xs Q l h p => by
  match xs, p, h, l with
  | [.d k, s], p, h, l =>
    unfold opDIn at p
    simp only at p
    obtain ⟨v, w, ev, h1, h2⟩ := two l h
    subst ev
    cases e : dicS s with
    | none =>
      rw [e] at p
      exact p.elim
    | some pr =>
      obtain ⟨ks, us⟩ := pr
      rw [e] at p
      simp only at p
      by_cases hc : kOk ks = true ∧ (keyD k).isSome = true
      · rw [if_pos hc] at p
        obtain ⟨q, eq⟩ := Option.isSome_iff_exists.mp hc.2
        obtain ⟨a, kk, ws, ea, rd, l1, l2, l3, h4⟩ := h2.dict e hc.1
        subst ea
        have ek := h1.key eq
        subst ek
        have lk := look_ok eq l2 l1 l3
        have es : (valV (kk.zip ws) q).isSome = (look ks us k).isSome := by
          cases el : look ks us k with
          | none => rw [lk.2 el]; rfl
          | some x =>
            obtain ⟨j, u, e1, _⟩ := lk.1 x el
            rw [e1]; rfl
        refine ⟨a, _, rfl, .inl ⟨_, q, rd, rfl, rfl⟩, ?_⟩
        rw [es]
        exact p.2 _ H (h.new fun _ => rfl)
      · rw [if_neg hc] at p
        exact p.elim
/-! ### d[k] = v -/
theorem zip_app {α β : Type} : ∀ {a c : List α} {b d : List β}, a.length = b.length → (a ++ c).zip (b ++ d) = a.zip b ++ c.zip d
  | [], _, [], _, _ => rfl
  | x :: a, c, y :: b, d, h => by
    rw [List.cons_append, List.cons_append, List.zip_cons_cons, List.zip_cons_cons, zip_app (by simpa using h), List.cons_append]
/-- the pairs behind a put -/
theorem put_zip {F : Hp} {ks vs : List D} {kk : List Key} {ws : List V} {k x : D} {q : Key} {w : V} (ey : keyD k = some q) (l2 : ks.map keyD = kk.map some) (l1 : kk.length = ws.length) (r : RDs G F vs ws) (hx : RD G F x w) :
    ∃ (kk' : List Key) (ws' : List V), putK (kk.zip ws) q w = kk'.zip ws' ∧ kk'.length = ws'.length ∧ (putN ks k).map keyD = kk'.map some ∧ RDs G F (putV ks vs k x) ws' := by
  have ha := has_any ey l2 l1
  unfold putK putN putV
  rw [ha]
  by_cases hq : hasK ks k = true
  · rw [if_pos hq, if_pos hq, if_pos hq, zipm]
    exact ⟨kk, _, rfl, by rw [putZV_len l1]; exact l1, l2, putZ_rd ey hx l2 l1 r⟩
  · rw [if_neg hq, if_neg hq, if_neg hq]
    refine ⟨kk ++ [q], ws ++ [w], ?_, by simp [l1], by rw [List.map_append, List.map_append, l2]; simp [ey], rds_app r ⟨w, [], rfl, hx, rfl⟩⟩
    rw [zip_app l1]
    rfl
/-! ### {}: new -/
def opNewD : List S → ORes
  | [] => .ok (.m [] []) []
  | _ => .stuck
end
end DL
/-! the data layer: get, in a list, is None, dict(..) -/
namespace DL
open PySem PySem.Spec PyProof.Rows L2 PySem.W
/-! ### d.get(k), d.get(k, x) -/
def dcA (ρ : List S) : List AV → Bool
  | [.s x] => (dicS x).isSome
  | [.n i] => ((ρ[i]?).bind dicS).isSome
  | _ => false
def mDm (g : List S → ORes) (a : Arg) (as : List Arg) : M S := mbind (mArgs [a]) fun av ρ => if dcA ρ av = true then mbind (mArgs as) (fun avs => mFin g (av ++ avs)) ρ else .stuck
section
variable {G : Gx} {N : Pn} {X : Cx} {W : WX} {H H' : Hp} {σ : L2.St} {ρ ρ' : List S} {st st' : Stk} {o e f : Expr} {es : List Expr} {as : List Arg} {ao : Arg} {apos cpos : Pos}
def opGet : List S → ORes
  | [s, .d k] => match dicS s with
    | some p => if kOk p.1 = true ∧ (keyD k).isSome = true then .ok (.d ((look p.1 p.2 k).getD .non)) [s, .d k] else .stuck
    | none => .stuck
  | [s, .d k, .d z] => match dicS s with
    | some p => if kOk p.1 = true ∧ (keyD k).isSome = true then .ok (.d ((look p.1 p.2 k).getD z)) [s, .d k, .d z] else .stuck
    | none => .stuck
  | _ => .stuck
/-! ### in a list (of data), in a tuple (of flat things) -/
def flV : D → Option V
  | .non => some .non
  | .bl b => some (.bl b)
  | .int i => some (.int i)
  | .str x => some (.str x)
  | _ => none
def flVs : List D → Option (List V)
  | [] => some []
  | x :: xs => match flV x, flVs xs with
    | some v, some vs => some (v :: vs)
    | _, _ => none
def opTIn (neg : Bool) : List S → ORes
  | [.d x, .d (.tup ys)] => match flV x, flVs ys with
    | some v, some vs => .ok (.d (.bl (if neg then !inV v vs else inV v vs))) [.d x, .d (.tup ys)]
    | _, _ => .stuck
  | _ => .stuck
theorem flV_rd {F : Hp} {x : D} {v w : V} (h : flV x = some v) (r : RD G F x w) : w = v ∧ flatV v = true := by
  cases x <;> first
    | (cases h; exact ⟨r, rfl⟩)
    | cases h
theorem flVs_rd {F : Hp} : ∀ {xs : List D} {vs ws : List V}, flVs xs = some vs → RDs G F xs ws → ws = vs ∧ vs.all flatV = true
  | [], vs, ws, h, r => by
    cases h
    exact ⟨r, rfl⟩
  | x :: xs, vs, ws, h, ⟨w, r, ew, r1, r2⟩ => by
    subst ew
    unfold flVs at h
    cases e1 : flV x with
    | none => rw [e1] at h; cases h
    | some v =>
      cases e2 : flVs xs with
      | none => rw [e1, e2] at h; cases h
      | some us =>
        rw [e1, e2] at h
        cases h
        obtain ⟨a1, a2⟩ := flV_rd e1 r1
        obtain ⟨b1, b2⟩ := flVs_rd e2 r2
        subst a1 b1
        exact ⟨rfl, by simp [a2, b2]⟩
theorem os_tIn (neg : Bool) : OpS G N W (r2L (rIn G.K neg)) (opTIn neg) := fun σ ρ st H vs xs Q l h p => by
  match xs, p, h, l with
  | [.d x, .d (.tup ys)], p, h, l =>
    unfold opTIn at p
    simp only at p
    cases e1 : flV x with
    | none =>
      rw [e1] at p
      exact p.elim
    | some v =>
      cases e2 : flVs ys with
      | none =>
        rw [e1, e2] at p
        exact p.elim
      | some us =>
        rw [e1, e2] at p
        obtain ⟨a, b, ev, h1, h2⟩ := two l h
        subst ev
        obtain ⟨F, sb, r1⟩ := h1.at_
        obtain ⟨F2, sb2, r2⟩ := h2.at_
        obtain ⟨p', ws, ew, sq, rs⟩ := r2
        subst ew
        obtain ⟨a1, a2⟩ := flV_rd e1 r1
        obtain ⟨b1, b2⟩ := flVs_rd e2 rs
        subst a1 b1
        exact ⟨p', _, rfl, .inr (sqT_sub sb2 (SqT.of sq)), a2, b2, p.2 _ H (h.new fun _ => rfl)⟩
/-! ### is None -/
end
end DL
/-! the data layer: dict(..), walking a dict -/
namespace DL
open PySem PySem.Spec PyProof.Rows L2 PySem.W
/-! ### dict(a list of pairs), dict(a dict) -/
def prsD : List D → Option (List (D × D))
  | [] => some []
  | .tup [k, v] :: r => match (keyD k).isSome, prsD r with
    | true, some ps => some ((k, v) :: ps)
    | _, _ => none
  | _ :: _ => none
def mrgD (ps : List (D × D)) (p : List D × List D) : List D × List D := ps.foldl (fun p kv => (putN p.1 kv.1, putV p.1 p.2 kv.1 kv.2)) p
section
variable {G : Gx} {N : Pn} {X : Cx} {W : WX} {H H' : Hp} {σ : L2.St} {ρ ρ' : List S} {st st' : Stk} {o e f : Expr} {es : List Expr} {as : List Arg} {ao : Arg} {apos cpos : Pos}
theorem prs_rd {F : Hp} (sb : Sub F H) : ∀ {xs : List D} {prs : List (D × D)} {vs : List V}, prsD xs = some prs → RDs G F xs vs →
    ∃ (ps : List Addr) (kvs : List (Key × V)), vs = ps.map V.ref ∧ Paired (fun p kv => SqT G.K H p [kV kv.1, kv.2]) ps kvs ∧ Paired (fun (pr : D × D) (kv : Key × V) => keyD pr.1 = some kv.1 ∧ RD G F pr.2 kv.2) prs kvs
  | [], prs, vs, h, r => by
    cases h
    have : vs = [] := r
    subst this
    exact ⟨[], [], rfl, .nil, .nil⟩
  | x :: xs, prs, vs, h, r => by
    unfold prsD at h
    split at h
    · rename_i heq
      cases heq
    · rename_i k v r' heq
      injection heq with h1 h2
      subst h1 h2
      split at h
      · rename_i ps e1 e2
        cases h
        obtain ⟨w, us, ew, r1, r2⟩ := r
        subst ew
        obtain ⟨p, ws, ep, sq, rr⟩ := r1
        subst ep
        obtain ⟨wk, u1, e3, rk, w2, u2, e4, rv, e5⟩ := rr
        subst e3
        have e5' : u2 = [] := e5
        subst e4 e5'
        obtain ⟨q, eq⟩ := Option.isSome_iff_exists.mp e1
        have ek : wk = kV q := by
          cases k with
          | int i => cases eq; exact rk
          | str z => cases eq; exact rk
          | _ => cases eq
        subst ek
        obtain ⟨ps', kvs, a1, a2, a3⟩ := prs_rd sb e2 r2
        subst a1
        exact ⟨p :: ps', (q, w2) :: kvs, rfl, .cons (sqT_sub sb (SqT.of sq)) a2, .cons ⟨eq, rv⟩ a3⟩
      · cases h
    · cases h
theorem mrg_zip {F : Hp} : ∀ {prs : List (D × D)} {kvs : List (Key × V)}, Paired (fun (pr : D × D) (kv : Key × V) => keyD pr.1 = some kv.1 ∧ RD G F pr.2 kv.2) prs kvs → ∀ {ks vs : List D} {kk : List Key} {ws : List V},
    ks.map keyD = kk.map some → kk.length = ws.length → RDs G F vs ws → ∃ (kk' : List Key) (ws' : List V), mergeK (kk.zip ws) kvs = kk'.zip ws' ∧ kk'.length = ws'.length ∧ (mrgD prs (ks, vs)).1.map keyD = kk'.map some ∧ RDs G F (mrgD prs (ks, vs)).2 ws' := by
  intro prs kvs h
  induction h with
  | nil => intro ks vs kk ws l2 l1 r; exact ⟨kk, ws, rfl, l1, l2, r⟩
  | @cons p q ps qs h t ih =>
    intro ks vs kk ws l2 l1 r
    obtain ⟨kk', ws', z1, z2, z3, z4⟩ := put_zip (F := F) h.1 l2 l1 r h.2
    obtain ⟨kk2, ws2, y1, y2, y3, y4⟩ := ih z3 z2 z4
    refine ⟨kk2, ws2, ?_, y2, y3, y4⟩
    rw [← y1, ← z1]
    rfl
/-- a new dict of settled pairs -/
theorem Hs.newM {F : Hp} {fp : List Addr} {ks vs : List D} {kk : List Key} {ws : List V} {p : Addr} (h : Hs G N H σ ρ st) (sb : Sub F H) (r : RL G F H (st ++ σ.zip ρ) fp) (n : fp.Nodup) (l1 : kk.length = ws.length) (l2 : ks.map keyD = kk.map some) (r2 : RDs G F vs ws) (hp : H p = none) :
    Hs G N (upd H p (.dK (kk.zip ws))) σ ρ ((some (.ref p), .m ks vs) :: st) := by
  have g : Grow G N H (upd H p (.dK (kk.zip ws))) := Grow.upd h.tb hp
  exact ⟨h.len, ⟨F, p :: fp, sb.grow g.1, ⟨[p], fp, rfl, ⟨p, rfl, rfl, sb.none hp, .inl ⟨kk, ws, upd_same, l1, l2, r2⟩⟩, RL.keep (Le.refl F) _ fp r (own_grow r g.1)⟩, List.nodup_cons.mpr ⟨fp_ne r hp, n⟩⟩, g.2, h.pin⟩
def rDictP (K : PySem.W.Frag) : List V → Hp → VK → Prop := fun xs H Q => ∃ (a : Addr) (ps : List Addr) (kvs : List (Key × V)), xs = [.ref a] ∧ SqL K H a (ps.map V.ref) ∧ Paired (fun p kv => SqT K H p [kV kv.1, kv.2]) ps kvs ∧ ∀ p, H p = none → Q (.ref p) (upd H p (.dK (mergeK [] kvs)))
def opDictP : List S → ORes
  | [s] => match lstS s with
    | some xs => match prsD xs with
      | some ps => .ok (.m (mrgD ps ([], [])).1 (mrgD ps ([], [])).2) [s]
      | none => .stuck
    | none => .stuck
  | _ => .stuck
theorem Hs.lstF {v : V} {s : S} {xs : List D} (h : Hs G N H σ ρ ((some v, s) :: st)) (e : lstS s = some xs) : ∃ a vs F fp, v = .ref a ∧ SqL G.K H a vs ∧ Sub F H ∧ RL G F H (((some v, s) :: st) ++ σ.zip ρ) fp ∧ fp.Nodup ∧ RDs G F xs vs := by
  obtain ⟨F, fp, sb, r0, n⟩ := h.ex
  obtain ⟨fa, fr, ef, q, r⟩ := id r0
  cases s with
  | l ys =>
    cases e
    obtain ⟨a, vs, ev, efa, eH, eF, q2⟩ := id q
    cases ev
    exact ⟨a, vs, F, fp, rfl, .of eH, sb, r0, n, q2⟩
  | d x =>
    cases x with
    | lst ys =>
      cases e
      obtain ⟨_, w, ew, a, vs, ev, sq, q2⟩ := id q
      cases ew
      exact ⟨a, vs, F, fp, ev, sqL_sub sb sq, sb, r0, n, q2⟩
    | _ => cases e
  | _ => cases e
theorem os_dictP : OpS G N W (rL (rDictP G.K)) opDictP := fun σ ρ st H vs xs Q l h p => by
  match xs, p, h, l with
  | [s], p, h, l =>
    unfold opDictP at p
    simp only at p
    obtain ⟨v, ev, h1⟩ := one l h
    subst ev
    cases e : lstS s with
    | none =>
      rw [e] at p
      exact p.elim
    | some ys =>
      rw [e] at p
      simp only at p
      cases e2 : prsD ys with
      | none =>
        rw [e2] at p
        exact p.elim
      | some prs =>
        rw [e2] at p
        obtain ⟨a, ws, F, fp, ea, sq, sb, r, n, q2⟩ := h1.lstF e
        subst ea
        obtain ⟨ps, kvs, a1, a2, a3⟩ := prs_rd sb e2 q2
        subst a1
        obtain ⟨kk', ws', z1, z2, z3, z4⟩ := mrg_zip a3 (ks := []) (vs := []) (kk := []) (ws := []) rfl rfl rfl
        refine ⟨a, ps, kvs, rfl, sq, a2, fun q hq => ?_⟩
        have z1' : mergeK [] kvs = kk'.zip ws' := z1
        rw [z1']
        exact p.2 _ _ (h1.newM sb r n z2 z3 z4 hq)
/-! ### a settled dict is locked -/
theorem Hs.lock {a : Addr} {kvs : List (Key × V)} {od : Obj} {ks vs : List D} (h : Hs G N H σ ρ ((some (.ref a), .d (.dic ks vs)) :: st)) (e : H a = some (.dK kvs)) : Hs G N (upd H a (.frz od (.dK kvs))) σ ρ ((some (.ref a), .d (.dic ks vs)) :: st) := by
  obtain ⟨F, fp, sb, r0, n⟩ := h.ex
  obtain ⟨fa, fr, ef, q, r⟩ := id r0
  have eF : ∃ u, F a = some u := by
    obtain ⟨_, w, ew, a', ev, al⟩ := id q
    cases ew
    cases ev
    rcases al with ⟨kk, ws, e1, _⟩ | ⟨kk, ws, e1, _⟩ <;> exact ⟨_, e1⟩
  obtain ⟨u, eF⟩ := eF
  refine ⟨h.len, ⟨F, fp, fun b o eb => ?_, RL.keep (Le.refl F) _ fp r0 fun b hb => ?_, n⟩, tabs_upd h.tb e trivial, h.pin⟩
  · obtain ⟨nt, z⟩ := sb b o eb
    refine ⟨nt, ?_⟩
    by_cases hb : b = a
    · subst hb
      rw [upd_same]
      rcases z with z | ⟨_, ob, z⟩
      · rw [e] at z
        cases z
        exact .inr ⟨.inl ⟨_, rfl⟩, _, rfl⟩
      · rw [e] at z
        cases z
    · rw [upd_ne hb]
      exact z
  · have f0 := (RL.own _ fp r0 b hb).1
    have hne : b ≠ a := fun z => by rw [z, eF] at f0; cases f0
    rw [upd_ne hne]
    exact ⟨rfl, f0⟩
/-! ### for k in d, d.values(), d.items() -/
end
end DL
/-! the data layer: the walks of a settled dict -/
namespace DL
open PySem PySem.Spec PyProof.Rows L2 PySem.W
section
variable {G : Gx} {N : Pn} {X : Cx} {W : WX} {H H' : Hp} {σ : L2.St} {ρ ρ' : List S} {st st' : Stk} {a : Addr} {o : Obj} {ks vs : List D} {kk : List Key} {ws : List V} {LL L1 : List (Addr × Obj × HO)}
def ioDk : List S → Option (List D)
  | [.d (.dic ks vs)] => if kOk ks = true then some ks else none
  | _ => none
def ioDi : List S → Option (List D)
  | [.d (.dic ks vs)] => if kOk ks = true then some ((ks.zip vs).map fun p => .tup [p.1, p.2]) else none
  | _ => none
/-! a value is settled at once -/
def mFz (f : M S) : M S := mbind f fun s ρ => match s.frz with
  | some x => .ok (.d x) ρ
  | none => .stuck
theorem ex_fz {e : Expr} {f : M S} (he : EX G N X W e f) : EX G N X W e (mFz f) := fun σ ρ st H Q h p => by
  refine he.bind (st0 := st) h p (fun s ρ1 v H1 h1 p1 => ?_) fun _ _ q => q
  cases es : s.frz with
  | none =>
    rw [es] at p1
    exact p1.elim
  | some x =>
    rw [es] at p1
    have h0 : Hs G N H1 σ ρ1 (zs [v] [s] ++ st) := h1
    obtain ⟨h2, _⟩ := h0.freezes (ys := [x]) rfl (by simp [S.frzs, es])
    exact p1 v H1 h2
end
end DL
/-! the data layer: d[k] op= e, o.f op= e, < of data, tuple + tuple, len of a dict -/
namespace DL
open PySem PySem.Spec PyProof.Rows L2 PySem.W
end DL
/-! the data layer: len, sorted, list of a dict -/
namespace DL
open PySem PySem.Spec PyProof.Rows L2 PySem.W
/-! ### texts in order -/
theorem kOk_ints : ∀ zs : List Int, kOk (zs.map D.int) = true
  | [] => rfl
  | z :: zs => by
    show ((keyD (.int z)).isSome && kOk (zs.map D.int)) = true
    rw [kOk_ints zs]
    rfl
section
variable {G : Gx} {N : Pn} {X : Cx} {W : WX} {H H' : Hp} {σ : L2.St} {ρ ρ' : List S} {st st' : Stk}
theorem rds_strs {F : Hp} : ∀ zs : List Str, RDs G F (zs.map D.str) (zs.map V.str)
  | [] => rfl
  | _ :: zs => ⟨_, _, rfl, rfl, rds_strs zs⟩
/-- a new list of texts, of ints -/
theorem Hs.newF {vs : List V} {xs : List D} {p : Addr} (h : Hs G N H σ ρ st) (r : ∀ F : Hp, RDs G F xs vs) (hp : H p = none) : Hs G N (upd H p (.lst vs)) σ ρ ((some (.ref p), .l xs) :: st) := by
  obtain ⟨F, fp, sb, r0, n⟩ := h.ex
  have g : Grow G N H (upd H p (.lst vs)) := Grow.upd h.tb hp
  exact ⟨h.len, ⟨F, p :: fp, sb.grow g.1, ⟨[p], fp, rfl, ⟨p, vs, rfl, rfl, upd_same, sb.none hp, r F⟩, RL.keep (Le.refl F) _ fp r0 (own_grow r0 g.1)⟩, List.nodup_cons.mpr ⟨fp_ne r0 hp, n⟩⟩, g.2, h.pin⟩
/-! ### sorted(d) -/
/-! ### len(d), list(d) -/
def rLenD : List V → Hp → VK → Prop := fun xs H Q => ∃ a kvs, xs = [.ref a] ∧ Rd H a (.dK kvs) ∧ Q (.int kvs.length) H
theorem call_lenD : CallR X (.builtin "len") rLenD := by
  intro pins s σ H xs us Q I r h
  obtain ⟨a, kvs, ex, rd, q⟩ := h
  subst ex
  obtain ⟨u, eu, rx⟩ := vals1 r
  subst eu
  cases rx
  exact d_len I rd fun t s' I' => ⟨.int kvs.length, H, I', ⟨t, rfl⟩, q⟩
def opLenD : List S → ORes
  | [s] => match dicS s with
    | some p => if kOk p.1 = true then .ok (.d (.int p.1.length)) [s] else .stuck
    | none => .stuck
  | _ => .stuck
theorem os_lenD : OpS G N W (rL rLenD) opLenD := fun σ ρ st H vs xs Q l h p => by
  match xs, p, h, l with
  | [s], p, h, l =>
    unfold opLenD at p
    simp only at p
    obtain ⟨v, ev, h1⟩ := one l h
    subst ev
    cases e : dicS s with
    | none => rw [e] at p; exact p.elim
    | some pr =>
      obtain ⟨ks, us⟩ := pr
      rw [e] at p
      simp only at p
      by_cases hc : kOk ks = true
      · rw [if_pos hc] at p
        obtain ⟨a, kk, ws, ea, rd, l1, l2, l3, _⟩ := h1.dict e hc
        subst ea
        refine ⟨a, _, rfl, rd, ?_⟩
        have hl : (kk.zip ws).length = ks.length := by
          have h5 : ks.length = kk.length := by have := congrArg List.length l2; simpa using this
          rw [List.length_zip, ← l1, Nat.min_self, h5]
        rw [hl]
        exact p.2 _ H (h.new fun _ => rfl)
      · rw [if_neg hc] at p
        exact p.elim
end
end DL
/-! the data layer: rooms; o.f op= e -/
namespace DL
open PySem PySem.Spec PyProof.Rows L2 PySem.W
theorem Room.u1 {k : Nat} {A : Around} (r : Room k A) : A.units + 1 < cLine := by have := r.un; omega
end DL
/-! the data layer: sum(d.values()) -/
namespace DL
open PySem PySem.Spec PyProof.Rows L2 PySem.W
end DL
/-! the data layer: {k: v}, list(d) -/
namespace DL
open PySem PySem.Spec PyProof.Rows L2 PySem.W
section
variable {G : Gx} {N : Pn} {X : Cx} {W : WX} {H H' : Hp} {σ : L2.St} {ρ ρ' : List S} {st st' : Stk} {k v : Expr} {as : List Arg} {pos : Pos}
/-! ### list(d) -/
def opListD : List S → ORes
  | [s] => match dicS s with
    | some p => if kOk p.1 = true then .ok (.l p.1) [s] else .stuck
    | none => .stuck
  | _ => .stuck
/-! ### {k: v} -/
def opDisp1 : List S → ORes
  | [.d k, s] => match s.frz with
    | some x => if (keyD k).isSome = true then .ok (.m [k] [x]) [.d k, .d x] else .stuck
    | none => .stuck
  | _ => .stuck
end
end DL
/-! the data layer: min(d.values()) -/
namespace DL
open PySem PySem.Spec PyProof.Rows L2 PySem.W
end DL
/-! the data layer: min(d), int keys -/
namespace DL
open PySem PySem.Spec PyProof.Rows L2 PySem.W
end DL
/-! the data layer: == and != of equal lists and dicts, nested -/
namespace DL
open PySem PySem.Spec PyProof.Rows L2 PySem.W
mutual
def eqDb : D → D → Bool
  | .non, .non => true
  | .bl a, .bl b => decide (a = b)
  | .int a, .int b => decide (a = b)
  | .str a, .str b => decide (a = b)
  | .tup xs, .tup ys => eqDs xs ys
  | .lst xs, .lst ys => eqDs xs ys
  | .dic ks vs, .dic ls us => kOk ks && (eqDs ks ls && eqDs vs us)
  | _, _ => false
def eqDs : List D → List D → Bool
  | [], [] => true
  | x :: xs, y :: ys => eqDb x y && eqDs xs ys
  | _, _ => false
end
mutual
def dpD : D → Nat
  | .tup xs => dpDs xs + 1
  | .lst xs => dpDs xs + 1
  | .dic _ vs => dpDs vs + 1
  | _ => 0
def dpDs : List D → Nat
  | [] => 0
  | x :: xs => max (dpD x) (dpDs xs)
end
end DL
/-! the data layer: == and != of equal lists and dicts, the operations; sorted(d, reverse=True) -/
namespace PySem.SeqAt
open AutoSeq1 (wpAny_loadPart')
open MeetsSeq MeetsSeq2 MeetsSeq3 SeqRoads2
end PySem.SeqAt
namespace DL
open PySem PySem.Spec PyProof.Rows L2 PySem.W
open PySem.SeqAt (EqIn rcIn_lists)
/-- lists and dicts stand at the top -/
def topS : D → Bool
  | .lst _ => true
  | .dic _ _ => true
  | _ => false
section
variable {G : Gx} {N : Pn} {X : Cx} {W : WX} {H H' : Hp} {σ : L2.St} {ρ : List S} {st : Stk}
def opSame (neg : Bool) : List S → ORes
  | [x, y] => match x.frz, y.frz with
    | some d, some e => if eqDb d e = true ∧ dpD d ≤ 50 ∧ topS d = true then .ok (.d (.bl (!neg))) [x, y] else .stuck
    | _, _ => .stuck
  | _ => .stuck
end
/-! ### sorted(d, reverse=True), int keys -/
end DL
/-! the data layer: tuple(d.items()), sorted(d.items()) -/
namespace DL
open PySem PySem.Spec PyProof.Rows L2 PySem.W
open LiI (putT putT_off putT_at paired_ix vals_refs)
/-! ### sorted(d.items()), ints to ints -/
section
variable {G : Gx} {N : Pn} {X : Cx} {W : WX} {H H' : Hp} {σ : L2.St} {ρ : List S} {st : Stk}
def tup2 (q : D × D) : D := .tup [q.1, q.2]
def opItT : List S → ORes
  | [s] => match dicS s with
    | some p => if kOk p.1 = true then .ok (.d (.tup ((p.1.zip p.2).map tup2))) [s] else .stuck
    | none => .stuck
  | _ => .stuck
end
end DL
/-! the data layer: x = [dicts ..], settled -/
namespace DL
open PySem PySem.Spec PyProof.Rows L2 PySem.W
end DL
/-! the data layer: a lambda of one parameter, called by a built-in -/
namespace DL
open PySem PySem.Spec PyProof.Rows L2 GenW
section
variable {prog : Program} {w : World} {A : Around} {R : Result → Shared → Prop} {s : Shared}
/-- a lambda is called, whatever its code object's name -/
theorem lam_callN {a c : Addr} {args : Args} {o oc : Obj} {fd : FuncData} {body : Expr} {vs : Array Value} {q' : Str} {t : Tok} (hroom : A.depth < recursionLimit) (ho : s.heap.get? a = some o)
    (hd' : o.data = .func fd) (hco : fd.scope.isCoroutine = false) (hgen : fd.scope.isGenerator = false) (hbody : fd.body = .expr body) (hc : fd.code = .ref c) (hoc : s.heap.get? c = some oc) (hdc : oc.data = .fields vs) (hq : vs[1]? = some (.str q' t))
    (h : wpAny (model prog w) A.in1 (bindArgs fd args) (fun binds s₁ =>
      wpAny (model prog w) A.in1 (newFunctionEnv fd.scope fd.globals fd.closure binds (q' ++ ".<locals>.") (some a) fd.code none fd.builtins)
        (fun env s₂ => s₂.heap.NoLimit ∧ codeAny (model prog w) A (.expr body env) R s₂) (fun e s' => R (.error e) s') s₁) (fun e s' => R (.error e) s') s) :
    codeAny (model prog w) A (.call (.ref a) args) R s := by
  refine codeAny_of_tree ?_
  show wpAny _ A.in1 (callAny (.ref a) args) _ _ s
  simp only [callAny]
  refine wpAny_bind (wpAny_load ho ?_)
  simp only [hd', callFunction, hco, hgen, hbody, hc]
  rw [hc] at h
  refine wpAny_bind (m := field (.ref c) 1) (wpAny_field hoc hdc hq (wpAny_bind (wpAny_pure ?_)))
  exact wpAny_bind (wpAny_mono h (fun binds s₁ h₁ => wpAny_bind (wpAny_mono h₁ (fun env s₂ h₂ => wpAny_bind (wpAny_enterFrame h₂.1 hroom
    (wpAny_pure (And.intro rfl h₂.2)))) fun _ _ h' => h')) fun _ _ h' => h')
end
/-- a lambda's scope: its one parameter x, captured names, globals -/
structure KSc (sc scope : Scope) (x : Str) : Prop where
  kind : scope.kind = .function
  co : scope.isCoroutine = false
  gen : scope.isGenerator = false
  par : scope.names.lookup x = some NameKind.local
  cell : ∀ y ∈ scope.names, y.2 ≠ .cell
  free : ∀ y ∈ scope.names, y.2 = .free → sc.names.lookup y.1 = some .cell ∨ sc.names.lookup y.1 = some .free
def kscB (sc scope : Scope) (x : Str) : Bool :=
  decide (scope.kind = .function) && !scope.isCoroutine && !scope.isGenerator && decide (scope.names.lookup x = some NameKind.local) && scope.names.all fun y => !decide (y.2 = .cell) && (!decide (y.2 = .free) || decide (sc.names.lookup y.1 = some .cell) || decide (sc.names.lookup y.1 = some .free))
theorem ksc_by {sc scope : Scope} {x : Str} (h : kscB sc scope x = true) : KSc sc scope x := by
  unfold kscB at h
  simp only [Bool.and_eq_true, Bool.or_eq_true, Bool.not_eq_true', decide_eq_true_eq, decide_eq_false_iff_not, List.all_eq_true] at h
  obtain ⟨⟨⟨⟨h1, h2⟩, h5⟩, h3⟩, h4⟩ := h
  refine ⟨h1, h2, h5, h3, fun y hy => (h4 y hy).1, fun y hy e => ?_⟩
  rcases (h4 y hy).2 with (z | z) | z
  · exact absurd e z
  · exact .inl z
  · exact .inr z
abbrev kEnv (X : Cx) (q' : Str) (scope : Scope) (C f c' : Addr) : Env := PySem.W.envX q' scope C f (.ref c') (cloFrom X.env.cells scope.names [])
section
variable {X : Cx} {G : Gx} {N : Pn} {scope : Scope} {st : Stk} {pins : List (Addr × Obj)} {σ : L2.St} {ρ : List S} {H : Hp} {s : Shared} {Ng : List Str} {x : Str}
theorem clk_mem {y : Str} {b : Addr} (ok : X.Ok) (S : KSc X.env.scope scope x) (e : (cloFrom X.env.cells scope.names []).lookup y = some b) : X.env.cells.lookup y = some b := by
  rcases cloFrom_mem (PySem.mem_of_lookup e) with hm | ⟨h1, h2⟩
  · cases hm
  · obtain ⟨c1, hc⟩ := ok.has _ (S.free _ h1 rfl)
    rw [h2, hc]
    rfl
/-- the lambda's frame, when it is entered -/
theorem k_start {w : V} {u : Value} {q' : Str} {f c' : Addr} {A : Around} {h1 : Heap} {tk : Nat} (I : Inv X pins σ H s) (S : KSc X.env.scope scope x) (hA : A.handled = none) (hF : A.frames = some X.stack)
    (hgn : gnB scope (Ng.drop 1) X.N = true) (hx : Ng[0]? = some x) (kp : ∀ b o, s.heap.get? b = some o → h1.get? b = some o) (hns : h1.Ns s.heap.objs.size fun y => ([(x, u)] : List (Str × Value)).reverse.lookup y) (r : RelV w u) :
    Inv (gCx X (A.deeper (kEnv X q' scope s.heap.objs.size f c')) Ng s H (kEnv X q' scope s.heap.objs.size f c') [] []) [] (some w :: σ) H { s with heap := h1, toks := tk } := by
  have cm := fun {y b} e => clk_mem (y := y) (b := b) I.ok S e
  have cellK : ∀ {c : Addr} {v : Option Value}, s.heap.IsCell c v → h1.IsCell c v := fun {c v} ⟨o, ho, hd⟩ => ⟨o, kp _ _ ho, hd⟩
  have lN := gnB_len hgn
  have noA : ∀ b : Addr, b ∉ ([] : List Addr) := fun b z => absurd z (by simp)
  have l1 : 1 ≤ Ng.length := by
    obtain ⟨h, _⟩ := List.getElem?_eq_some_iff.mp hx
    omega
  refine ⟨⟨I.mod, S.kind, rfl, rfl, Nat.le_refl _, fun y z c e1 e2 => I.ok.inj y z c (cm e1) (cm e2), fun y hy => ?_, fun y c z _ => ?_, fun _ => hA, Around.frames_deeper hF, .inr ⟨rfl, rfl⟩, fun b hb => absurd hb (noA b), I.bs, Nat.le_trans I.ok.bsz I.sz, fun b o e hb => absurd hb (noA b), fun b hb => absurd hb (noA b), I.stack, I.stkFree⟩,
    rfl, I.bare, Un.kept kp, ⟨_, hns, fun i y v e1 e2 e3 => ?_⟩, fun y c e => ?_, I.hok.fresh (Nat.le_refl _), fun y c e => I.freeC y c (cm e), fun q hq => ?_, I.hok.kept kp, ?_⟩
  · have hy : scope.names.lookup y = some .cell ∨ scope.names.lookup y = some .free := hy
    rcases hy with hy | hy
    · exact absurd rfl (S.cell _ (PySem.mem_of_lookup hy))
    · exact cl_has hy
  · have z : false = true := z
    cases z
  · have e1 : Ng[i]? = some y := e1
    have e3 : Vis scope y := e3
    cases i with
    | zero =>
      rw [hx] at e1
      cases e1
      simp only [List.getElem?_cons_zero, Option.some.injEq] at e2
      subst e2
      exact ⟨u, r, .inl ⟨S.par, by simp⟩⟩
    | succ i =>
      simp only [List.getElem?_cons_succ] at e2
      have e4 : (Ng.drop 1)[i]? = some y := by
        rw [List.getElem?_drop, Nat.add_comm]
        exact e1
      obtain ⟨e5, e6⟩ := gnB_at hgn e4 e3
      have hvis : Vis X.env.scope y := (S.free _ (PySem.mem_of_lookup e6) rfl).elim (fun k => .inr (.inl k)) (fun k => .inr (.inr k))
      obtain ⟨mm, hn, hl⟩ := I.loc
      obtain ⟨w', r', q⟩ := hl i y v e5 e2 hvis
      obtain ⟨c2, h2⟩ := cl_has (X := X) e6
      refine ⟨w', r', .inr ⟨.inr e6, c2, h2, ?_⟩⟩
      have c1 := cm h2
      rcases q with ⟨k', _⟩ | ⟨_, c3, e', z⟩
      · have k' : X.env.scope.names.lookup y = some .local := k'
        rcases S.free _ (PySem.mem_of_lookup e6) rfl with k2 | k2 <;> rw [show X.env.scope.names.lookup y = _ from k2] at k' <;> cases k'
      · rw [c1] at e'
        cases e'
        exact cellK z
  · obtain ⟨w', z⟩ := I.cell y c (cm e)
    exact ⟨w', cellK z⟩
  · exact absurd (show q ∈ ([] : List (Addr × Obj)) ++ [] from hq) (by simp)
  · show (some w :: σ).length = Ng.length
    rw [List.length_cons, I.len, ← lN, List.length_drop]
    omega
/-- the pins of the lambda's frame -/
def kPin (w : Option V) (σ : L2.St) (L : List (Addr × Obj × HO)) : Pn := ⟨(List.range σ.length).map (1 + ·), w :: σ, L⟩
theorem kPin_ge {w : Option V} {L : List (Addr × Obj × HO)} {j : Nat} (h : j ∈ (kPin w σ L).J) : 1 ≤ j := by
  obtain ⟨i, _, e⟩ := List.mem_map.mp h
  omega
theorem Hs.parIn {w : V} {d : D} {L : Stk} (h : Hs G N H σ ρ ((some w, .d d) :: L)) : Hs G (kPin (some w) σ N.L) H (some w :: σ) (.d d :: ρ) L := by
  obtain ⟨F, fp, sb, r, n⟩ := h.ex
  have pm : ((some w, S.d d) :: L ++ σ.zip ρ).Perm (L ++ (some w :: σ).zip (.d d :: ρ)) := by
    rw [List.zip_cons_cons, List.cons_append]
    exact List.perm_middle.symm
  obtain ⟨fp', r', p'⟩ := RL.perm pm fp r
  exact ⟨by simp [h.len], ⟨F, fp', sb, r', (p'.nodup_iff).mpr n⟩, h.tb, fun j _ => rfl⟩
theorem Hs.parOut {w : V} {ρ' : List S} {H' : Hp} {L L' : Stk} (h0 : Hs G N H σ ρ L') (h : Hs G (kPin (some w) σ N.L) H' (some w :: σ) ρ' L) : Hs G N H' σ (ρ'.drop 1) L := by
  obtain ⟨F, fp, sb, r, n⟩ := h.ex
  have lr := h.len
  cases ρ' with
  | nil => simp at lr
  | cons z ρ1 =>
    rw [List.zip_cons_cons] at r
    obtain ⟨a, b, e, r1, a2, b2, e3, _, r3⟩ := (RL.app _ _ _).mp r
    subst e e3
    refine ⟨by simpa using lr, ⟨F, a ++ b2, sb, (RL.app _ _ _).mpr ⟨a, b2, rfl, r1, r3⟩, ?_⟩, h.tb, h0.pin⟩
    exact n.sublist ((List.sublist_append_right a2 b2).append_left a)
/-- the lambda's body in its frame -/
def KPart (G : Gx) (X : Cx) (Ng : List Str) (k : Nat) (scope : Scope) (body : Expr) (f : M S) : Prop :=
  ∀ (A : Around) (s : Shared) (H : Hp) (q : Str) (C fa c' : Addr) (cl : List (Str × Addr)) (N' : Pn), Room k A → (∀ j ∈ N'.J, 1 ≤ j) →
    EX G N' (gCx X A Ng s H (PySem.W.envX q scope C fa (.ref c') cl) [] []) W0 body f
theorem wpAny_callN {M : Model} {A : Around} {E : Value → Shared → Prop} {f : Value} {args : List Value} {Q : Value → Shared → Prop} {s : Shared} (h : codeAny M A (.call f ⟨args, []⟩) (fun r s' => ∃ v, r = .ok (.ret v) ∧ Q v s') s) : wpAny M A (call f args) Q E s :=
  wpAny_call (codeAny_mono h fun r s' ⟨v, e, q⟩ => by
    subst e
    exact q)
/-- one call -/
theorem key_turn {w : V} {u : Value} {d k : D} {ρ1 : List S} {L : Stk} {params : Arguments} {body : Expr} {fa c' : Addr} {kk : Nat} {f : M S} {q' : Str} {pm ctv : Value} {E : Value → Shared → Prop} {A : Around} (hr : Room (kk + 1) A) (hF : A.frames = some X.stack) (I : Inv X pins σ H s) (S : KSc X.env.scope scope x)
    (ho : s.heap.get? fa = some (PySem.W.kla_obj "<lambda>" (X.env.qual ++ "<lambda>") params body scope (cloFrom X.env.cells scope.names []) pm c' ctv)) (hco : H c' = some (LamX.CodeO c' q'))
    (hbind : ∀ (q : Str) (cl : List (Str × Addr)) (pm cv ctv u : Value), bindArgs (PySem.W.kla_fn "<lambda>" q params body scope cl pm cv ctv) ⟨[u], []⟩ = pure [(x, u)])
    (hgn : gnB scope (Ng.drop 1) X.N = true) (hx : Ng[0]? = some x) (hp : KPart G X Ng kk scope body f) (rv : RelV w u) (h : Hs G N H σ ρ ((some w, .d d) :: L)) (ef : f (.d d :: ρ) = .ok (.d k) ρ1) :
    wpAny (model X.prog X.w) A (call (.ref fa) [u]) (fun v s' => ∃ w' H', Inv X pins σ H' s' ∧ RelV w' v ∧ Hs G N H' σ (ρ1.drop 1) ((some w', .d k) :: L) ∧ ∀ b ps, H b = some (.tbl ps) → ∃ more, H' b = some (.tbl (ps ++ more))) E s := by
  refine wpAny_callN ?_
  obtain ⟨⟨oc, vs, t, hoc, hdc, hvc⟩, _, _⟩ := I.hok c' _ hco
  refine lam_callN hr.depth ho rfl S.co S.gen rfl rfl hoc hdc hvc ?_
  rw [hbind]
  refine wpAny_pure (wpAny_newFunctionEnv (fun y hy => S.cell y hy) (fun y hy => ?_) (fun h₁ hns hsb => ⟨I.nolimit.fresh _ hsb, ?_⟩) S.kind)
  · have : y = (x, u) := by simpa using hy
    rw [this]
    exact S.par
  · show codeAny _ _ (.expr body (kEnv X q' scope s.heap.objs.size fa c')) _ _
    have kp : ∀ b o, s.heap.get? b = some o → h₁.get? b = some o := fun b o e => hsb.extBut b o (Nat.ne_of_lt (Heap.lt_size e)) (Heap.get?_push_of_some _ e)
    have J := k_start (tk := s.toks + ([(x, u)] : List (Str × Value)).length) (q' := q') (f := fa) (c' := c') (A := A) I S hr.hd hF hgn hx kp hns rv
    have hs := h.parIn
    refine PySem.W.kla_codeExpr ?_
    have he := hp (A.deeper (kEnv X q' scope s.heap.objs.size fa c')) s H q' s.heap.objs.size fa c' _ _ (hr.deeper _) (fun j hj => kPin_ge hj) (some w :: σ) (.d d :: ρ) L H (fun v' H' => Hs G (kPin (some w) σ N.L) H' (some w :: σ) ρ1 ((some v', .d k) :: L)) hs (by
      rw [ef]
      exact fun v H' h' => h') [] _ J
    refine thnF he fun v s' hq => ?_
    obtain ⟨w', H', J', rv', hs'⟩ := hq
    have un : Un (frs X.stack) [] H H' s.heap s'.heap := J'.base
    refine ⟨v, rfl, w', H', I.call' (ch := []) J'.os un J'.hok J'.bare (fun b hb => absurd hb (by simp)), rv', h.parOut hs', un.tbls⟩
end
end DL
/-! the data layer: sorted(xs, key=lambda x: ..) -/
namespace DL
open PySem PySem.Spec PyProof.Rows L2 PySem.W
section
variable {prog : Program} {w : World} {A : Around} {E : Value → Shared → Prop} {s : Shared} {a kS : Addr} {b : Bool} {vs : List Value} {keys : Array Value} {e e1 : Nat} {P : PySem.Fin → Shared → Prop}
/-- the heap behind the sort -/
def srtkHeap (h : Heap) (kS a : Addr) (out : List Value) : Heap := (h.update kS (Obj.mapSeq fun _ => (#[] : Array Value))).update a (Obj.mapSeq fun _ => out.toArray)
theorem srtk_tail {st : SortSt} {out : List Value} (nk : s.heap.get? kS = some (seqObj "list" keys e)) (na : s.heap.get? a = some (seqObj "list" #[] e1)) (hka : kS ≠ a)
    (hsz : keys.size ≤ sizeLine) (hz : out.length ≤ sizeLine) (hfl : failedOf st = none) (ho : (if b = true then ((arrOf st).map (·.2)).reverse else (arrOf st).map (·.2)) = out.toArray)
    (h : ∀ tk, P (.done (.ret .none)) { s with heap := srtkHeap s.heap kS a out, toks := tk }) :
    wpAny (model prog w) A (ksk_tail a b e1 (.ref kS) st) P E s := by
  have s1 := Heap.SameBut.update s.heap kS (Obj.mapSeq fun _ => (#[] : Array Value))
  have na1 : (s.heap.update kS (Obj.mapSeq fun _ => (#[] : Array Value))).get? a = some (seqObj "list" #[] e1) := (s1.2 a hka.symm).trans na
  have hz2 : out.toArray.size ≤ sizeLine + 1 := by
    rw [List.size_toArray]
    exact Nat.le_succ_of_le hz
  unfold ksk_tail
  try dsimp only
  rw [ho]
  refine wpAny_bind (listUpdate_at nk rfl ?_ hsz (Nat.zero_le _))
  refine wpAny_bind (wpAny_letGo ?_)
  refine wpAny_bind (seqEpoch_at na1 rfl ?_)
  refine wpAny_bind (listUpdate_at na1 rfl ?_ (Nat.zero_le _) hz2)
  rw [hfl]
  simp only [bne_self_eq_false, Bool.false_eq_true, if_false]
  exact wpAny_pure (h _)
theorem srtk_end {κ : PyProof.Rows.KeyKind} (nk : s.heap.get? kS = some (seqObj "list" keys e)) (na : s.heap.get? a = some (seqObj "list" #[] e1)) (hka : kS ≠ a)
    (S : SortsAt prog w A s κ keys.toList) (hsz : keys.size = vs.length) (hZ : vs.length ≤ sizeLine)
    (h : ∀ tk, P (.done (.ret .none)) { s with heap := srtkHeap s.heap kS a (sortVals κ b keys.toList vs), toks := tk }) :
    wpAny (model prog w) A (ksk_end a b vs.toArray e1 (.ref kS) keys) P E s := by
  obtain ⟨kd, h1, h2⟩ := S.kind
  have hkl : keys.toList.length = vs.length := by
    rw [Array.length_toList]
    exact hsz
  have hK : PyProof.Rows.KeysOf κ (keys.zip vs.toArray) := keysOf_zip S.keys
  have hol : (sortVals κ b keys.toList vs).length = vs.length := sortVals_length b hkl
  have hstart : (if b = true then (keys.zip vs.toArray).reverse else keys.zip vs.toArray).Perm (keys.zip vs.toArray) := by
    cases b with
    | false => exact Array.Perm.refl _
    | true => exact Array.perm_iff_toList_perm.mpr (by rw [if_pos rfl, Array.toList_reverse]; exact List.reverse_perm _)
  have hss : (if b = true then (keys.zip vs.toArray).reverse else keys.zip vs.toArray).size = vs.length := by rw [hstart.size_eq, Array.size_zip, hsz, List.size_toArray, Nat.min_self]
  have fin : ∀ st' : SortSt, (arrOf st').Perm (if b = true then (keys.zip vs.toArray).reverse else keys.zip vs.toArray) → SortedToK κ (arrOf st') (if b = true then (keys.zip vs.toArray).reverse else keys.zip vs.toArray).size →
      Stable κ (arrOf st') (if b = true then (keys.zip vs.toArray).reverse else keys.zip vs.toArray) → (if b = true then ((arrOf st').map (·.2)).reverse else (arrOf st').map (·.2)) = (sortVals κ b keys.toList vs).toArray := by
    intro st' hp hs ht
    have e := sort_out (rev := b) (keys := keys) (items := vs.toArray) (xs := arrOf st') (κ := κ) hK hp hs ht
    have e' := congrArg List.toArray e
    rw [Array.toArray_toList] at e'
    exact e'
  have step : ∀ t : Sem PySem.Fin, wpAny (model prog w) A t P E s → wpAny (model prog w) A (if b = true then (do let _ ← rule "list.sort.reverse"; t) else t) P E s := by
    intro t ht
    split
    · exact wpAny_bind (wpAny_rule ht)
    · exact ht
  unfold ksk_end
  try dsimp only
  refine step _ ?_
  by_cases hl2 : vs.toArray.size < 2
  · rw [if_pos hl2, if_pos hl2]
    refine wpAny_bind (wpAny_pure ?_)
    rw [StateT.run_pure]
    refine wpAny_bind (wpAny_pure ?_)
    try dsimp only
    refine srtk_tail (st := SortSt.mk' general' (if b = true then (keys.zip vs.toArray).reverse else keys.zip vs.toArray) #[] 7 none) nk na hka (by rw [hsz]; exact hZ) (by rw [hol]; exact hZ) rfl (fin _ (Array.Perm.refl _) ?_ (Stable.refl _)) h
    intro i j hij hj
    rw [hss] at hj
    rw [List.size_toArray] at hl2
    have : i = j := by omega
    subst this
    exact KeyOrd.kle_refl _
  · rw [if_neg hl2, if_neg hl2]
    rw [List.size_toArray] at hl2
    refine wpAny_bind (h2 (by omega) _ ?_)
    refine wpAny_bind (wpAny_mono (H.wpS_sortRunsSt (κ := κ) (kd := kd) (a₀ := if b = true then (keys.zip vs.toArray).reverse else keys.zip vs.toArray)
      (st := SortSt.mk' kd (if b = true then (keys.zip vs.toArray).reverse else keys.zip vs.toArray) #[] 7 none)
      (Q := fun _ st' => failedOf st' = none ∧ (if b = true then ((arrOf st').map (·.2)).reverse else (arrOf st').map (·.2)) = (sortVals κ b keys.toList vs).toArray)
      h1 (hK.perm hstart) ⟨Array.Perm.refl _, rfl, rfl⟩ rfl (Stable.refl _) (by rw [hss]; omega) fun st' a1 a2 a3 a4 => ⟨a2, fin st' a1 a3 a4⟩) ?_ fun _ _ e => e)
    rintro ⟨⟨⟩, st'⟩ s' ⟨rfl, hf, ho⟩
    try dsimp only at ho ⊢
    exact srtk_tail nk na hka (by rw [hsz]; exact hZ) (by rw [hol]; exact hZ) hf ho h
end
/-! ### the keys -/
/-- the keys of the items, one after the other -/
def keysL (f : M S) : List D → List S → Option (List D × List S)
  | [], ρ => some ([], ρ)
  | x :: xs, ρ => match f (.d x :: ρ) with
    | .ok (.d k) ρ1 => (keysL f xs (ρ1.drop 1)).map fun p => (k :: p.1, p.2)
    | _ => none
/-- the items by their keys -/
def srtBy (rev : Bool) (items ks : List D) : List D := ((items.zip ks).mergeSort fun p q => leD rev p.2 q.2).map (·.1)
def srtKV (rev : Bool) (ws : List V) (items ks : List D) : List ((V × D) × D) := ((ws.zip items).zip ks).mergeSort fun p q => leD rev p.2 q.2
theorem zip3 : ∀ {ws : List V} {items ks : List D}, ws.length = items.length → ks.length = items.length → ((ws.zip items).zip ks).map (·.1.1) = ws ∧ ((ws.zip items).zip ks).map (·.2) = ks ∧ ((ws.zip items).zip ks).map (fun p => (p.1.2, p.2)) = items.zip ks
  | [], [], [], _, _ => ⟨rfl, rfl, rfl⟩
  | w :: ws, x :: xs, k :: ks, h1, h2 => by
    obtain ⟨a, b, c⟩ := zip3 (ws := ws) (items := xs) (ks := ks) (by simpa using h1) (by simpa using h2)
    simp only [List.zip_cons_cons, List.map_cons, a, b, c, and_self]
  | [], _ :: _, _, h, _ => by simp at h
  | _ :: _, [], _, h, _ => by simp at h
  | [], [], _ :: _, _, h => by simp at h
  | _ :: _, _ :: _, [], _, h => by simp at h
theorem each3 : ∀ {ws : List V} {us : List Value} {items ks : List D}, Vals ws us → ws.length = items.length → ks.length = items.length → EachIs (fun u (p : (V × D) × D) => RelV p.1.1 u) us ((ws.zip items).zip ks)
  | [], _, [], [], .nil, _, _ => .nil
  | w :: ws, u :: us, x :: xs, k :: ks, .cons r t, h1, h2 => .cons r (each3 t (by simpa using h1) (by simpa using h2))
  | [], _, _ :: _, _, _, h, _ => by simp at h
  | _ :: _, _, [], _, _, h, _ => by simp at h
  | [], _, [], _ :: _, _, _, h => by simp at h
  | _ :: _, _, _ :: _, [], _, _, h => by simp at h
theorem vals3 : ∀ {out : List Value} {ps : List ((V × D) × D)}, EachIs (fun u (p : (V × D) × D) => RelV p.1.1 u) out ps → Vals (ps.map (·.1.1)) out
  | _, _, .nil => .nil
  | _, _, .cons r t => .cons r (vals3 t)
theorem srtBy_eq {rev : Bool} {ws : List V} {items ks : List D} (h1 : ws.length = items.length) (h2 : ks.length = items.length) : (srtKV rev ws items ks).map (·.1.2) = srtBy rev items ks := by
  unfold srtKV srtBy
  have e := (zip3 h1 h2).2.2
  rw [← e, ← List.map_mergeSort (r := fun (p q : (V × D) × D) => leD rev p.2 q.2) (s := fun (p q : D × D) => leD rev p.2 q.2) (f := fun p : (V × D) × D => (p.1.2, p.2)) (fun a _ b _ => rfl), List.map_map]
  rfl
section
variable {X : Cx} {G : Gx} {N : Pn} {st L : Stk} {pins pl : List (Addr × Obj)} {σ : L2.St} {ρ : List S} {H : Hp} {s : Shared}
theorem Hs.dupM {o : Option V} {d : D} (h : Hs G N H σ ρ L) (hm : (o, S.d d) ∈ L) : Hs G N H σ ρ ((o, .d d) :: L) := by
  obtain ⟨A, B, e⟩ := List.append_of_mem hm
  obtain ⟨F, fp, sb, r, n⟩ := h.ex
  have r' := r
  rw [e, List.append_assoc] at r'
  obtain ⟨a, b, _, _, a2, b2, _, q, _⟩ := (RL.app _ _ _).mp r'
  obtain ⟨e2, q⟩ := q
  subst e2
  exact ⟨h.len, ⟨F, fp, sb, ⟨[], fp, rfl, ⟨rfl, q⟩, r⟩, n⟩, h.tb, h.pin⟩
theorem Hs.setE {p : Addr} {xs : List D} (h : Hs G N H σ ρ ((some (.ref p), .l xs) :: st)) : Hs G N (upd H p (.lst [])) σ ρ st := by
  obtain ⟨F, fp, sb, ⟨a1, b1, ef1, ⟨p', vs', ev, ea, eH, eF, q⟩, r⟩, n⟩ := h.ex
  cases ev
  subst ea ef1
  have hnp : p ∉ b1 := (List.nodup_cons.mp n).1
  exact ⟨h.len, ⟨F, b1, sub_upd sb eF, RL.keep (Le.refl F) _ b1 r (fr_upd r hnp), (List.nodup_cons.mp n).2⟩, tabs_upd h.tb eH trivial, h.pin⟩
theorem Hs.srtK {rev : Bool} {ws : List V} {items ks : List D} {p : Addr} (h : Hs G N H σ ρ (zs ws (items.map .d) ++ st)) (h1 : ws.length = items.length) (h2 : ks.length = items.length) (hp : H p = none) :
    Hs G N (upd H p (.lst ((srtKV rev ws items ks).map (·.1.1)))) σ ρ ((some (.ref p), .l (srtBy rev items ks)) :: st) := by
  have e0 : zs ws (items.map .d) = ((ws.zip items).zip ks).map fun p => (some p.1.1, S.d p.1.2) := by
    have e5 : ((ws.zip items).zip ks).map (·.1) = ws.zip items := List.map_fst_zip (by simp [h1, h2])
    have e6 : ((ws.zip items).zip ks).map (fun p => (some p.1.1, S.d p.1.2)) = (((ws.zip items).zip ks).map (·.1)).map (fun p => (some p.1, S.d p.2)) := by rw [List.map_map]; rfl
    rw [zs_zip, e6, e5]
  have e2 : ∀ ps : List ((V × D) × D), ps.map (fun p => (some p.1.1, S.d p.1.2)) = zs (ps.map (·.1.1)) ((ps.map (·.1.2)).map .d) := fun ps => by
    rw [zs_zip]
    induction ps with
    | nil => rfl
    | cons p ps ih => simp only [List.map_cons, List.zip_cons_cons, ih]
  have pm : (zs ws (items.map .d) ++ st).Perm (zs ((srtKV rev ws items ks).map (·.1.1)) (((srtKV rev ws items ks).map (·.1.2)).map .d) ++ st) := by
    refine List.Perm.append_right _ ?_
    rw [e0, ← e2]
    exact ((List.mergeSort_perm _ _).map _).symm
  have h3 := (h.perm pm).newL (by simp) hp
  rw [srtBy_eq h1 h2] at h3
  exact h3
/-- a pinned list of ours becomes a known one -/
theorem Inv.unpin {a : Addr} {o : Obj} {xs : Array Value} {n : Nat} {vs : List V} {out : List Value} {tk : Nat} (I : Inv X (pins ++ pl) σ H s) (hm : (a, o) ∈ pl) (eo : o = seqObj "list" xs n) (far : X.s_0.heap.objs.size ≤ a) (hP : ∀ p ∈ X.pn ++ pins, p.1 ≠ a) (rv : Vals vs out) (hz : vs.length ≤ sizeLine) :
    Inv X pins σ (upd H a (.lst vs)) { s with heap := s.heap.update a (Obj.mapSeq fun _ => out.toArray), toks := tk } := by
  obtain ⟨ha, hn, hL, hF, hd⟩ := I.pin (a, o) (List.mem_append_right _ (List.mem_append_right _ hm))
  have ha : s.heap.get? a = some o := ha
  have hn : H a = none := hn
  have k : ∀ b u, b ≠ a → s.heap.get? b = some u → (s.heap.update a (Obj.mapSeq fun _ => out.toArray)).get? b = some u := fun b u hb e => (Heap.get?_update_other s.heap _ (Ne.symm hb)).trans e
  have ne : ∀ b u, H b = some u → b ≠ a := fun b u e z => by
    rw [z, hn] at e
    cases e
  subst eo
  obtain ⟨c2, hc2⟩ : ∃ c2, (s.heap.update a (Obj.mapSeq fun _ => out.toArray)).get? a = some (seqObj "list" out.toArray c2) := ⟨_, get?_update_seq ha fun _ => out.toArray⟩
  refine (I.unpinned (pl := pl)).step (g' := s.gens) (d' := s.drawn) (ch := [a]) (fun b hb => ?_) (fun b u _ _ hc e _ => k b u (fun z => hc (by simp [z])) e) (fun b u _ _ hc e _ => ⟨u.slots, k b u (fun z => hc (by simp [z])) e⟩)
    (fun b u hc _ e => by rw [upd_ne fun z => hc (by simp [z])]; exact e) (fun b u hc e => ⟨u, k b u (fun z => hc (by simp [z])) e⟩) (fun b xs e => by rw [upd_ne (ne b _ e)]; exact e) (fun b o u e => by rw [upd_ne (ne b _ e)]; exact e)
    (fun b ps e => ⟨#[], by rw [upd_ne (ne b _ e), e]; simp⟩) (fun m hm => ?_) (fun b u e => ?_) I.bare
  · have e : b = a := by simpa using hb
    subst e
    refine ⟨.inr far, hL, (fun x c e z => ?_), hP⟩
    obtain ⟨v, oc, hoc, hdc⟩ := I.cell x c e
    rw [z, ha] at hoc
    cases hoc
    cases hdc
  · obtain ⟨ob, es, ep, ho, r⟩ := hm
    exact ⟨ob, es, ep, k _ ob (fun z => hL z.symm) ho, r⟩
  · by_cases hb : b = a
    · subst hb
      rw [upd_same] at e
      cases e
      exact ⟨hz, out, c2, rv, hc2⟩
    · rw [upd_ne hb] at e
      refine (I.hok b u e).stay (fun c v hc q => k c v ?_ q) (fun c q => by rw [upd_ne (ne c _ q)]; exact q) fun c xs q => by rw [upd_ne (ne c _ q)]; exact q
      rcases hc with z | z
      · rw [z]
        exact hb
      · exact ne c _ z
end
end DL
/-! the data layer: sorted(xs, key=lambda x: ..), the walk -/
namespace DL
open PySem PySem.Spec PyProof.Rows L2 PySem.W
theorem among_more {pos : Pos} {cv : Value} (l more : List Value) (h : codeAmong pos l = some cv) : codeAmong pos (l ++ more) = some cv := by
  fun_induction codeAmong pos l with
  | case1 line t col t' c rest hc =>
    simp only [List.cons_append, codeAmong]
    rw [if_pos hc]
    exact h
  | case2 line t col t' c rest hc ih =>
    simp only [List.cons_append, codeAmong]
    rw [if_neg hc]
    exact ih h
  | case3 l hn => cases h
section
variable {X : Cx} {G : Gx} {N : Pn} {st : Stk} {pins : List (Addr × Obj)} {σ : L2.St} {ρ : List S} {H : Hp} {s : Shared}
/-- what a rule for a key asks of its lambda -/
structure KeyH (X : Cx) (G : Gx) (k : Nat) (Ng : List Str) (c0 P : Addr) (scope : Scope) (params : Arguments) (body : Expr) (x : Str) (f : M S) : Prop where
  room : Room (k + 3) X.A
  tab : LamX.TabB X.base X.mg c0 P
  code : X.env.code = .ref c0
  q : ∃ q0, InT G P (X.env.qual ++ "<lambda>") q0
  sc : KSc X.env.scope scope x
  names : gnB scope (Ng.drop 1) X.N = true
  first : Ng[0]? = some x
  bind : ∀ (q : Str) (cl : List (Str × Addr)) (pm cv ctv u : Value), bindArgs (PySem.W.kla_fn "<lambda>" q params body scope cl pm cv ctv) ⟨[u], []⟩ = pure [(x, u)]
  dfl : defaultsOf params X.env = ([], [])
  part : KPart G X Ng k scope body f
theorem key_rest {k : Nat} {Ng : List Str} {c0 P : Addr} {scope : Scope} {params : Arguments} {body : Expr} {x : Str} {f : M S} {lpos : Pos} {A : Around} {E : Value → Shared → Prop} {Q : PySem.Fin → Shared → Prop} {a kS fa c' : Addr} {e1 : Nat} {rev : Bool} {pm ctv : Value} {ws : List V} {us : List Value} {items ks : List D} {ds : List PyData} {ρe : List S} {ps : Array Value}
    (g : KeyH X G k Ng c0 P scope params body x f) (hK : X.K = G.K) (hu : A.units + 65 < cLine) (hr : Room (k + 1) A) (hF : A.frames = some X.stack)
    (I : Inv X (pins ++ [(fa, kla_obj "<lambda>" (X.env.qual ++ "<lambda>") params body scope (cloFrom X.env.cells scope.names []) pm c' ctv), (a, seqObj "list" #[] e1)]) σ H s)
    (far : X.s_0.heap.objs.size ≤ a) (hP : ∀ p ∈ X.pn ++ pins, p.1 ≠ a) (hT : H P = some (.tbl ps)) (hc : codeAmong lpos ps.toList = some (.ref c')) (rv : Vals ws us) (l : ws.length = items.length) (hz : us.length ≤ sizeLine)
    (h : Hs G N H σ ρ ((some (.ref kS), .l []) :: (zs ws (items.map .d) ++ st))) (ek : keysL f items ρ = some (ks, ρe)) (ed : dPys ks = some ds) (hb : srtB ds = true)
    (hQ : ∀ s' H', Inv X pins σ H' s' → Hs G N H' σ ρe ((some (.ref a), .l (srtBy rev items ks)) :: st) → Q (.done (.ret .none)) s') :
    wpAny (model X.prog X.w) A (ksk_rest a (.ref fa) rev us.toArray e1 (.ref kS)) Q E s := by
  obtain ⟨q0, hIn⟩ := g.q
  have lu := rv.length
  unfold ksk_rest
  refine wpAny_bind (wpAny_rule ?_)
  first
    | rw [List.forIn_toArray]
    | (rw [← Array.forIn_toList]; simp only [List.toList_toArray])
    | rw [← Array.forIn_toList]
  refine wpAny_bind (ksk_fold (fun i s' => ∃ H' ks1 ks2 ρi ps', Inv X (pins ++ [(fa, kla_obj "<lambda>" (X.env.qual ++ "<lambda>") params body scope (cloFrom X.env.cells scope.names []) pm c' ctv), (a, seqObj "list" #[] e1)]) σ H' s' ∧ ks = ks1 ++ ks2 ∧ ks1.length = i ∧ keysL f (items.drop i) ρi = some (ks2, ρe) ∧
      Hs G N H' σ ρi ((some (.ref kS), .l ks1) :: (zs ws (items.map .d) ++ st)) ∧ H' P = some (.tbl ps') ∧ codeAmong lpos ps'.toList = some (.ref c')) us 0 s
    ⟨H, [], ks, ρ, ps, I, rfl, rfl, ek, h, hT, hc⟩ ?step ?done)
  case step =>
    rintro j u s' hx ⟨H', ks1, ks2, ρi, ps', I', e1', l1, k1, h1, hT', hc'⟩
    simp only [Nat.zero_add] at l1 k1 ⊢
    have hj : j < us.length := (List.getElem?_eq_some_iff.mp hx).1
    have hji : j < items.length := by omega
    rw [List.drop_eq_getElem_cons hji] at k1
    unfold keysL at k1
    split at k1
    · rename_i kd ρ1 ef
      simp only [Option.map_eq_some_iff] at k1
      obtain ⟨⟨ks3, ρ3⟩, k2, k3⟩ := k1
      cases k3
      have hjw : j < ws.length := by omega
      have rw1 : RelV ws[j] u := by
        obtain ⟨hj2, e⟩ := List.getElem?_eq_some_iff.mp hx
        obtain ⟨u', e', r'⟩ := rv.get (List.getElem?_eq_getElem hjw)
        rw [hx] at e'
        cases e'
        exact r'
      have hm : ((some ws[j], S.d items[j]) : Option V × S) ∈ (some (.ref kS), S.l ks1) :: (zs ws (items.map .d) ++ st) := by
        refine List.mem_cons_of_mem _ (List.mem_append_left _ ?_)
        rw [zs_zip]
        refine List.mem_map.mpr ⟨(ws[j], items[j]), ?_, rfl⟩
        exact List.mem_of_getElem? (i := j) (by rw [List.getElem?_zip_eq_some]; exact ⟨List.getElem?_eq_getElem hjw, List.getElem?_eq_getElem hji⟩)
      have h2 := h1.dupM hm
      obtain ⟨psx, a1, a2, a3⟩ := h1.tb.at hIn
      rw [hT'] at a1
      cases a1
      obtain ⟨cc, q', ec, _, hco⟩ := a3 lpos _ hc'
      cases ec
      have hpf := I'.pin (fa, kla_obj "<lambda>" (X.env.qual ++ "<lambda>") params body scope (cloFrom X.env.cells scope.names []) pm c' ctv) (List.mem_append_right _ (List.mem_append_right _ List.mem_cons_self))
      refine wpAny_bind (wpAny_attempt (wpAny_mono (key_turn (E := fun _ _ => False) hr hF I' g.sc hpf.1 hco g.bind g.names g.first g.part rw1 h2 ef) (fun v s'' he => ?_) fun _ _ hF => hF.elim))
      obtain ⟨w', H2, I2, rv2, h3, tb2⟩ := he
      try dsimp only
      have h4 := h3.perm (List.Perm.swap _ _ _)
      obtain ⟨pk, vsk, epk, hH, lk⟩ := h4.lAt
      cases epk
      obtain ⟨lz, its, ep, rvk, hat⟩ := I2.hok _ _ hH
      have lits := rvk.length
      have h5 := h4.pushD hH
      have hjz : vsk.length + 1 ≤ sizeLine := by
        rw [lk, l1]
        omega
      refine wpAny_bind (listUpdate_at hat rfl ?_ (by rw [List.size_toArray]; omega) (by show (its.toArray.push v).size ≤ _; rw [Array.size_push, List.size_toArray]; omega))
      have I3 := I2.lset (its' := its ++ [v]) (f := (·.push v)) (ys := vsk ++ [w']) (t' := s''.toks) hH hat (by simp) (rvk.append (.cons rv2 .nil)) (by rw [List.length_append, List.length_singleton]; exact hjz)
      obtain ⟨more, eT⟩ := tb2 P ps' hT'
      have nP : P ≠ kS := fun z => by
        rw [← z, eT] at hH
        cases hH
      refine wpAny_pure ⟨rfl, _, ks1 ++ [kd], ks3, ρ1.drop 1, ps' ++ more, I3, by simpa using e1', by simp [l1], k2, (h5.perm (List.Perm.swap _ _ _)).drop, by rw [upd_ne nP]; exact eT, ?_⟩
      have := among_more ps'.toList more.toList hc'
      simpa using this
    · cases k1
  case done =>
    rintro s' ⟨H', ks1, ks2, ρi, ps', I', e1', l1, k1, h1, hT', hc'⟩
    simp only [Nat.zero_add] at l1 k1
    have ei : items.drop us.length = [] := List.drop_eq_nil_of_le (by omega)
    rw [ei] at k1
    cases k1
    rw [List.append_nil] at e1'
    subst e1'
    obtain ⟨pk, vsk, epk, hH, lk⟩ := h1.lAt
    cases epk
    obtain ⟨lz, its, ep, rvk, hat⟩ := I'.hok _ _ hH
    have lits := rvk.length
    have hpa := I'.pin (a, seqObj "list" #[] e1) (List.mem_append_right _ (List.mem_append_right _ (List.mem_cons_of_mem _ List.mem_cons_self)))
    try dsimp only
    refine wpAny_bind (listItems_at hat rfl ?_)
    obtain ⟨k1, k2, k3⟩ := srtB_of hb
    have edm := dPys_map ed
    obtain ⟨F, fp, sb, ⟨x1, x2, _, ⟨p', vs', evs, _, eH, _, q⟩, _⟩, _⟩ := h1.ex
    cases evs
    rw [hH] at eH
    cases eH
    have hd := q.dps sb ed
    rw [edm] at hd
    obtain ⟨y1, y2⟩ := EachIs.of_zip I' rvk lk (by rw [hK]; exact hd)
    have ez : (vsk.zip ks).map (fun p => py p.2) = ds := by
      have e5 : (vsk.zip ks).map (fun p => py p.2) = ((vsk.zip ks).map Prod.snd).map py := by rw [List.map_map]; rfl
      rw [e5, List.map_snd_zip (by omega), edm]
    have er : EachIs (fun v d => ∃ as, Reads s'.heap v d as) its ds := by
      rw [← ez]
      exact each_map (R := fun v d => ∃ as, Reads s'.heap v d as) (fun p : V × D => py p.2) y2
    have Sx := SortsAt.data (prog := X.prog) (w := X.w) (A := A) (s := s') er k1 k2 fun d hd => by
      have := k3 d hd
      omega
    have hka : kS ≠ a := fun z => by
      have n := hpa.2.1
      rw [← z] at n
      have n2 : H' kS = none := n
      rw [hH] at n2
      cases n2
    have lks : ks.length = items.length := by omega
    have e3 := each3 (ks := ks) rv l lks
    have eb : ((ws.zip items).zip ks).map (fun p => py p.2) = ds := by
      have e5 : ((ws.zip items).zip ks).map (fun p => py p.2) = (((ws.zip items).zip ks).map (·.2)).map py := by rw [List.map_map]; rfl
      rw [e5, (zip3 l lks).2.1, edm]
    have hal : AllAlike (((ws.zip items).zip ks).map fun p => py p.2) := by rw [eb]; exact k1
    have ko : KeyedOut rev (((ws.zip items).zip ks).map fun p => py p.2) us (sortVals (dataKind s'.heap (((ws.zip items).zip ks).map fun p => py p.2)) rev its us) := ⟨s'.heap, its, hal, rfl, by rw [eb]; exact er⟩
    have ho := keyedOut_each (fun p : (V × D) × D => py p.2) ko e3
    rw [eb] at ho
    have rvo := vals3 ho
    refine srtk_end (κ := dataKind s'.heap ds) hat hpa.1 hka (by rw [List.toList_toArray]; exact Sx) (by rw [List.size_toArray]; omega) hz fun tk => ?_
    rw [List.toList_toArray]
    have I1 := I'.lset (its' := []) (f := fun _ => #[]) (ys := []) (t' := tk) hH hat (by simp) .nil (Nat.zero_le _)
    have hlen : ((srtKV rev ws items ks).map (·.1.1)).length ≤ sizeLine := by
      unfold srtKV
      rw [List.length_map, List.length_mergeSort, List.length_zip, List.length_zip]
      omega
    have I2 := Inv.unpin (tk := tk) I1 (List.mem_cons_of_mem _ List.mem_cons_self) rfl far hP rvo hlen
    refine hQ _ _ I2 ?_
    have h2 := h1.setE
    have hna : upd H' kS (.lst []) a = none := by
      rw [upd_ne hka.symm]
      exact hpa.2.1
    exact Hs.srtK h2 l lks hna
end
end DL
/-! the data layer: sorted(xs, key=lambda x: ..), the rule -/
namespace DL
open PySem PySem.Spec PyProof.Rows L2 PySem.W
section
variable {X : Cx} {G : Gx} {N : Pn} {st : Stk} {pins : List (Addr × Obj)} {σ : L2.St} {ρ : List S} {H : Hp} {s : Shared}
theorem key_tree {k : Nat} {Ng : List Str} {c0 P : Addr} {scope : Scope} {params : Arguments} {body : Expr} {x : Str} {f : M S} {lpos : Pos} {A : Around} {E : Value → Shared → Prop} {Q : PySem.Fin → Shared → Prop} {fa c' : Addr} {rev : Bool} {pm ctv : Value} {ws : List V} {us : List Value} {items ks : List D} {ds : List PyData} {ρe : List S} {ps : Array Value}
    (g : KeyH X G k Ng c0 P scope params body x f) (hK : X.K = G.K) (hu : A.units + 65 < cLine) (hr : Room (k + 1) A) (hF : A.frames = some X.stack) (I : Inv X pins σ H s)
    (ho : s.heap.get? fa = some (kla_obj "<lambda>" (X.env.qual ++ "<lambda>") params body scope (cloFrom X.env.cells scope.names []) pm c' ctv)) (hfn : H fa = none) (hff : fa ∉ frs X.stack) (hT : H P = some (.tbl ps)) (hc : codeAmong lpos ps.toList = some (.ref c'))
    (rv : Vals ws us) (l : ws.length = items.length) (hz : us.length ≤ sizeLine)
    (h : Hs G N H σ ρ (zs ws (items.map .d) ++ st)) (ek : keysL f items ρ = some (ks, ρe)) (ed : dPys ks = some ds) (hb : srtB ds = true)
    (hQ : ∀ s' H', Inv X pins σ H' s' → Hs G N H' σ ρe ((some (.ref s.heap.objs.size), .l (srtBy rev items ks)) :: st) → Q (.done (.ret .none)) s') :
    wpAny (model X.prog X.w) A (ksk_tree s.heap.objs.size (.ref fa) rev) Q E { s with heap := s.heap.push (seqObj "list" us.toArray 0) } := by
  have hoA : (s.heap.push (seqObj "list" us.toArray 0)).get? s.heap.objs.size = some (seqObj "list" us.toArray 0) := Heap.get?_push_size _ rfl
  obtain ⟨e1, ho1⟩ : ∃ e1, ((s.heap.push (seqObj "list" us.toArray 0)).update s.heap.objs.size (Obj.mapSeq fun _ => (#[] : Array Value))).get? s.heap.objs.size = some (seqObj "list" #[] e1) := ⟨_, get?_update_seq hoA fun _ => #[]⟩
  have hkS : (((s.heap.push (seqObj "list" us.toArray 0)).update s.heap.objs.size (Obj.mapSeq fun _ => (#[] : Array Value))).push (seqObj "tuple" us.toArray 0)).objs.size = s.heap.objs.size + 2 := by rw [size_push', Heap.size_update, size_push']
  unfold ksk_tree
  refine wpAny_bind (listItems_at hoA rfl ?_)
  refine wpAny_bind (listUpdate_at hoA rfl ?_ (by rw [List.size_toArray]; exact hz) (Nat.zero_le _))
  refine wpAny_bind (seqEpoch_at ho1 rfl ?_)
  refine wpAny_bind (wpAny_newTuple ?_ (by show us.length ≤ _; exact hz))
  refine wpAny_bind (wpAny_newList ?_ (Nat.zero_le _))
  refine wpAny_holding ?_
  have keep : ∀ b u, s.heap.get? b = some u → ((((s.heap.push (seqObj "list" us.toArray 0)).update s.heap.objs.size (Obj.mapSeq fun _ => (#[] : Array Value))).push (seqObj "tuple" us.toArray 0)).push (seqObj "list" #[] 0)).get? b = some u := fun b u e => by
    refine Heap.get?_push_of_some _ (Heap.get?_push_of_some _ ?_)
    rw [Heap.get?_update_ne _ _ _ _ (Nat.ne_of_lt (Heap.lt_size e))]
    exact Heap.get?_push_of_some _ e
  have atA : ((((s.heap.push (seqObj "list" us.toArray 0)).update s.heap.objs.size (Obj.mapSeq fun _ => (#[] : Array Value))).push (seqObj "tuple" us.toArray 0)).push (seqObj "list" #[] 0)).get? s.heap.objs.size = some (seqObj "list" #[] e1) := Heap.get?_push_of_some _ (Heap.get?_push_of_some _ ho1)
  have lf : fa < s.heap.objs.size := Heap.lt_size ho
  obtain ⟨h3, hh3⟩ : ∃ h3, h3 = (((s.heap.push (seqObj "list" us.toArray 0)).update s.heap.objs.size (Obj.mapSeq fun _ => (#[] : Array Value))).push (seqObj "tuple" us.toArray 0)).push (seqObj "list" #[] 0) := ⟨_, rfl⟩
  rw [← hh3] at keep atA
  have atK : h3.get? (s.heap.objs.size + 2) = some (seqObj "list" #[] 0) := by
    rw [hh3, ← hkS]
    exact Heap.get?_push_size _ rfl
  have nK : H (s.heap.objs.size + 2) = none := I.hok.fresh (by omega)
  have I3 : Inv X pins σ (upd H (s.heap.objs.size + 2) (.lst [])) { s with heap := h3, toks := s.toks } := I.laid (a := s.heap.objs.size + 2) (o := .lst []) keep (by omega) ⟨Nat.zero_le _, [], 0, .nil, atK⟩
  have nL : ∀ b, s.heap.objs.size ≤ b → b ≠ X.env.locals ∧ b ∉ X.fs := fun b hb => ⟨fun z => by
    have h9 := I.lt
    rw [← z] at h9
    exact Nat.lt_irrefl _ (Nat.lt_of_lt_of_le h9 hb), I.nofs hb⟩
  have I4 : Inv X (pins ++ [(fa, kla_obj "<lambda>" (X.env.qual ++ "<lambda>") params body scope (cloFrom X.env.cells scope.names []) pm c' ctv), (s.heap.objs.size, seqObj "list" #[] e1)]) σ (upd H (s.heap.objs.size + 2) (.lst [])) { s with heap := h3, toks := s.toks } := I3.pins_of fun p hp => by
    rcases List.mem_append.mp hp with hp | hp
    · exact I3.pin p (List.mem_append_right _ hp)
    · rcases List.mem_cons.mp hp with hp | hp
      · subst hp
        refine ⟨keep _ _ ho, by rw [upd_ne (Nat.ne_of_lt (Nat.lt_of_lt_of_le lf (Nat.le_add_right _ 2)))]; exact hfn, fun z => ?_, fun z => hff ?_, fun v z => by cases z⟩
        · obtain ⟨m, ⟨o, es, ep, hol, hd⟩, _⟩ := I.loc
          rw [← z] at hol
          have e := ho.symm.trans hol
          cases e
          first | cases hd.1 | cases hd | cases hd.2.1
        · rcases I.ok.stk with e | ⟨e, _⟩
          · rw [e]
            exact z
          · rw [e]
            have z' : fa ∈ frs X.outer := z
            unfold frs at z' ⊢
            rw [List.filterMap_cons]
            split
            · exact z'
            · exact List.mem_cons_of_mem _ z'
      · have hp := List.mem_singleton.mp hp
        subst hp
        exact ⟨atA, by rw [upd_ne (Nat.ne_of_lt (Nat.lt_add_of_pos_right (by decide)))]; exact I.hok.fresh (Nat.le_refl _), (nL _ (Nat.le_refl _)).1, (nL _ (Nat.le_refl _)).2, fun v z => by cases z⟩
  have nP : P ≠ s.heap.objs.size + 2 := ne_of_none hT nK
  have h4 : Hs G N (upd H (s.heap.objs.size + 2) (.lst [])) σ ρ ((some (.ref (s.heap.objs.size + 2)), .l []) :: (zs ws (items.map .d) ++ st)) := Hs.newL (vs := []) (xs := []) (by simpa [zs] using h) rfl nK
  have key := key_rest (E := E) (Q := Q) (lpos := lpos) (rev := rev) g hK hu hr hF I4 I.sz (fun p hp z => by
    have h9 := Heap.lt_size (I.pin p hp).1
    rw [z] at h9
    exact Nat.lt_irrefl _ h9) (by rw [upd_ne nP]; exact hT) hc rv l hz h4 ek ed hb hQ
  rw [← hkS, hh3] at key
  exact key
/-! ### what is sorted -/
/-- the values at v are collected -/
def Gath (X : Cx) (H : Hp) (v : V) (ws : List V) : Prop := ∀ (pins : List (Addr × Obj)) (σ : L2.St) (s : Shared) (u : Value), Inv X pins σ H s → RelV v u → ∃ a, u = .ref a ∧ ∀ (Q : List Value → Shared → Prop) (E : Value → Shared → Prop),
  (∀ us h' tk, Vals ws us → us.length ≤ sizeLine → (∀ b o, s.heap.get? b = some o → h'.get? b = some o) → Q us { s with heap := h', toks := tk }) → wpAny (model X.prog X.w) X.A.in1 (collect (.ref a)) Q E s
def GSrc (G : Gx) (X : Cx) (io : S → Option (List D)) : Prop := ∀ (N : Pn) (σ : L2.St) (ρ : List S) (st : Stk) (H : Hp) (v : V) (s : S) (items : List D), Hs G N H σ ρ ((some v, s) :: st) → io s = some items →
  ∃ ws, ws.length = items.length ∧ Gath X H v ws ∧ Hs G N H σ ρ (zs ws (items.map .d) ++ ((some v, s) :: st))
theorem copy_keep {h : Heap} {vs : List Value} : ∀ b o, h.get? b = some o → ((h.push (seqObj "list" #[] 0)).update h.objs.size (Obj.mapSeq (· ++ vs.toArray))).get? b = some o := fun b o e => by
  rw [Heap.get?_update_ne _ _ _ _ (Nat.ne_of_lt (Heap.lt_size e))]
  exact Heap.get?_push_of_some _ e
theorem gsrc_seq (hK : X.K = G.K) : GSrc G X seqS := fun N σ ρ st H v s items h e => by
  obtain ⟨a, ws, ea, sq, l3, h4⟩ := h.items e
  subst ea
  refine ⟨ws, l3, fun pins σ' s' u I r => ⟨a, r, fun Q E k => ?_⟩, h4⟩
  rw [← hK] at sq
  rcases sq with sq | sq
  · obtain ⟨its, rv, pl, z⟩ := I.list sq
    have hl := rv.length
    exact collect_list pl.isList (k its _ _ rv (by omega) copy_keep) (by omega)
  · obtain ⟨its, rv, pl, z⟩ := I.tuple sq
    have hl := rv.length
    exact srt_gather (by omega) pl (k its _ _ rv (by omega) copy_keep)
def gio (io : S → Option (List D)) : List S → Option (List D)
  | [s] => io s
  | _ => none
def mSrtK (rev : Bool) (as : List Arg) (io : S → Option (List D)) (f : M S) : M S := mbind (mArgs as) fun avs ρ => match grab ρ avs with
  | none => .stuck
  | some q => match gio io q.1 with
    | none => .stuck
    | some items => match keysL f items q.2 with
      | none => .stuck
      | some kr => match dPys kr.1 with
        | some ds => if srtB ds then .ok (.l (srtBy rev items kr.1)) (lay kr.2 avs q.1 q.1) else .stuck
        | none => .stuck
end
section
variable {X : Cx} {G : Gx} {N : Pn} {W : WX}
theorem ex_srtK {k : Nat} {Ng : List Str} {c0 P : Addr} {scope : Scope} {params : Arguments} {body e : Expr} {x y : Str} {f : M S} {lpos pos p kp : Pos} {io : S → Option (List D)} {as : List Arg}
    (g : KeyH X G k Ng c0 P scope params body x f) (hK : X.K = G.K) (hy : y = "sorted") (hm : X.mg y = none) (hio : GSrc G X io) (ha : AX G N X W [e] as) (hp : PA X [e] (sAs X [e])) (hgl : Gl X y := by rfl)
    (he : backTo pos (starEach [e] X.env) = (false, eval e X.env) :: backTo pos (starEach [] X.env) := by rfl) (hpl : (backTo pos (starEach [e] X.env)).any (·.1) = false := by rfl)
    (hall : (backToKw pos (keywordEach [⟨some "key", .Lambda params body scope lpos, kp⟩] X.env)).all (·.1.isSome) = true := by rfl) (hnone : (backToKw pos (keywordEach [⟨some "key", .Lambda params body scope lpos, kp⟩] X.env)).any (·.1.isNone) = false := by rfl)
    (hks : (backToKw pos (keywordEach [⟨some "key", .Lambda params body scope lpos, kp⟩] X.env)).filterMap (·.1) = [Str.ofString "key"] := by rfl) :
    EX G N X W (.Call (.Name y p) [e] [⟨some "key", .Lambda params body scope lpos, kp⟩] pos) (mSrtK false as io f) := by
  subst hy
  intro σ ρ st H Q h q pins s I
  obtain ⟨q0, hIn⟩ := g.q
  have hbt : bootBuiltins "sorted" = some (.builtin "sorted") := by decide +kernel
  refine wpAny_Call_Name_kw (ld_blt I hgl hm hbt ?_)
  refine PyProof.Rows.callWith_kw (thn (hp.run pos pins s σ H (fun vs H1 => ∃ avs xs ρ2 items kr ds, AVR σ avs vs ∧ vs.length = xs.length ∧ Hs G N H1 σ ρ2 (zs vs xs ++ st) ∧ gio io xs = some items ∧ keysL f items ρ2 = some kr ∧ dPys kr.1 = some ds ∧ srtB ds = true ∧
      pst G N W σ st (fun z ρ' => ∀ v H', Hs G N H' σ ρ' ((some v, z) :: st) → Q v H') (.ok (.l (srtBy false items kr.1)) (lay kr.2 avs xs xs))) I ?_) fun us s1 ⟨vs, H1, I1, r1, avs, xs, ρ2, items, kr, ds, ra, l, h2, ei, ek, ed, hb, q2⟩ => ?_) he hpl hall hnone
  · unfold mSrtK at q
    refine ha.bind h q fun avs ρ1 vs H1 r1 h1 p1 => ?_
    cases eg : grab ρ1 avs with
    | none =>
      rw [eg] at p1
      exact p1.elim
    | some qq =>
      obtain ⟨xs, ρ2⟩ := qq
      rw [eg] at p1
      simp only at p1
      obtain ⟨l, h2⟩ := grab_ok r1 h1 eg
      cases ei : gio io xs with
      | none =>
        rw [ei] at p1
        exact p1.elim
      | some items =>
        rw [ei] at p1
        simp only at p1
        cases ek : keysL f items ρ2 with
        | none =>
          rw [ek] at p1
          exact p1.elim
        | some kr =>
          rw [ek] at p1
          simp only at p1
          cases ed : dPys kr.1 with
          | none =>
            rw [ed] at p1
            exact p1.elim
          | some ds =>
            rw [ed] at p1
            simp only at p1
            by_cases hb : srtB ds = true
            · rw [if_pos hb] at p1
              exact ⟨avs, xs, ρ2, items, kr, ds, r1, l, h2, ei, ek, ed, hb, p1⟩
            · rw [if_neg hb] at p1
              exact p1.elim
  · show wpAny _ _ (evalAll ((do let v ← eval (.Lambda params body scope lpos) X.env; standAt pos; pure v) :: [])) _ _ s1
    match xs, ei, l, h2 with
    | [sx], ei, l, h2 =>
      obtain ⟨v, ev, h3⟩ := one l h2
      subst ev
      have ei : io sx = some items := ei
      obtain ⟨u, rfl, ru⟩ := vals1 r1
      refine wpAny_evalAll_cons (wpAny_bind (lam_makeT I1 g.tab g.code hIn h2.tb g.dfl (fun y hy e => I1.ok.has _ (g.sc.free y hy e)) fun fa c' q' pm ctv H2 s2 I2 eN T2 hf hfn hfr hq hco htab => ?_))
      refine wpAny_bind (wpAny_standAt (wpAny_pure (wpAny_evalAll_nil ?_)))
      rw [hks]
      have h4 : Hs G N H2 σ ρ2 ((some v, sx) :: st) := h3.grow ⟨eN, T2⟩
      obtain ⟨ps, hT, hcd⟩ := htab
      obtain ⟨ws, lw, hg, h5⟩ := hio N σ ρ2 st H2 v sx items h4 ei
      obtain ⟨a, ea, hgat⟩ := hg pins σ s2 u I2 ru
      subst ea
      refine PyProof.Rows.call_function_entry_kw kind_sorted plain_sorted entry_sorted (ksk_s1 _ _) ?_
      unfold Builtin.«sorted»
      refine wpAny_bind (m := checkCount "sorted" 1 1 _) (wpAny_pure ?_)
      refine wpAny_bind (hgat _ _ fun its h' tk rvi hzi hkeep => ?_)
      have I3 : Inv X pins σ H2 { s2 with heap := h', toks := tk } := I2.kept hkeep
      refine wpAny_bind (wpAny_newList ?_ hzi)
      have hoL : (h'.push (seqObj "list" its.toArray 0)).get? h'.objs.size = some (seqObj "list" its.toArray 0) := Heap.get?_push_size _ rfl
      show wpAny _ _ _ _ _ { s2 with heap := h'.push (seqObj "list" its.toArray 0), toks := tk }
      refine wpAny_bind (wpAny_holding (wpAny_call_entry_kw slot_list_sort ⟨_, hoL, rfl⟩ entry_list_sort ?_ (ksk_l1 _ _)))
      show wpAny _ X.A.in1.in1 (Builtin.«list.sort» ⟨[.ref h'.objs.size], [(Str.ofString "key", .ref fa)]⟩) _ _ _
      rw [ksk_t1]
      have hun : X.A.in1.in1.units + 65 < cLine := by
        have := g.room.un
        show X.A.units + 1 + 1 + 65 < cLine
        omega
      refine key_tree (s := { s2 with heap := h', toks := tk }) (lpos := lpos) g hK hun g.room.in1.in1 I3.ok.frames I3 (hkeep _ _ hf) hfn hfr hT hcd rvi lw hzi h5 ek ed hb fun s' H' I' hs' => ?_
      refine ⟨_, rfl, wpAny_pure ⟨_, rfl, .ref h'.objs.size, H', I', rfl, ?_⟩⟩
      refine q2 _ H' ?_
      exact lay_ok (xs := [sx]) ra (by simpa using l.symm) (by simpa using l.symm) (List.Perm.swap _ _ _ |> hs'.perm)
    | [], ei, _, _ => cases ei
    | _ :: _ :: _, ei, _, _ => cases ei
end
end DL
/-! the data layer: a lambda with names of its own (a comprehension's), handed to a def that calls it in a try -/
namespace DL
open PySem PySem.Spec PyProof.Rows L2 LamX
/-- no parameter; names of its own, captured ones, globals -/
structure LamM (sc scope : Scope) : Prop where
  kind : scope.kind = .function
  co : scope.isCoroutine = false
  gen : scope.isGenerator = false
  cell : ∀ y ∈ scope.names, y.2 ≠ .cell
  free : ∀ y ∈ scope.names, y.2 = .free → sc.names.lookup y.1 = some .cell ∨ sc.names.lookup y.1 = some .free
theorem LamM.has {X : Cx} {scope : Scope} (L : LamM X.env.scope scope) (ok : X.Ok) : ∀ y ∈ scope.names, y.2 = .free → ∃ c, X.env.cells.lookup y.1 = some c := fun y hy e => ok.has _ (L.free y hy e)
end DL
/-! the data layer: str(i); an object or a tuple against a text -/
namespace DL
open PySem PySem.Spec PyProof.Rows L2 PySem.SeqAt
/-! ### against a text -/
end DL
/-! the data layer: max(d), int keys; list(range(n)); list * int -/
namespace DL
open PySem PySem.Spec PyProof.Rows L2 PySem.W
section
variable {G : Gx} {N : Pn} {X : Cx} {W : WX} {a : Expr} {as : List Arg} {p q pos qos : Pos} {ta : TA}
/-! ### a list of one thing, times an int -/
def rRep (K : PySem.W.Frag) : V → V → Hp → VK → Prop := fun x y H Q => ∃ (a : Addr) (v : V) (n : Int), x = .ref a ∧ y = .int n ∧ SqL K H a [v] ∧ -(2 ^ 63) ≤ n ∧ n ≤ 256 ∧ ∀ l, H l = none → Q (.ref l) (upd H l (.lst (List.replicate n.toNat v)))
theorem op_rep : OpR X (binaryOp .Mult) (rRep X.K) := by
  intro pins s σ H x y v u Q I rx ry h
  obtain ⟨a, z, n, rfl, rfl, hx, h1, h2, k⟩ := h
  obtain rfl : v = Value.ref a := rx
  obtain ⟨t, rfl⟩ := ry
  obtain ⟨its, r, ⟨o1, m, ho, c1, d1, e1⟩, _⟩ := I.list hx
  obtain ⟨w, ew, rw'⟩ := vals1 r
  subst ew
  obtain ⟨cls1, d, data1, sl⟩ := o1
  simp only at c1 d1 e1
  subst c1 d1 e1
  have sz : ([w] : List Value).toArray.size * n.toNat ≤ 256 := by
    show 1 * n.toNat ≤ 256
    omega
  refine wpAny_binaryOp_repeat_ref (T := "list") (U := "int") (by decide) ⟨_, ho, rfl⟩ (fun s' => typeIs_int s' n t) noFill_list_mul PySem.F.fills_int_mul PySem.F.slot_int_rmul repeat_list PySem.F.slot_int_index.lookup
    (call_meets PySem.F.slot_int_rmul (typeIs_int s n t) PySem.F.entry_int_rmul (PySem.F.args_int_rmul_2 _ _) (lm_int_rmul_list_any n t a _ m none sl)
      ⟨ho, rfl, ⟨_, ho, rfl⟩, call_meets PySem.F.slot_list_mul ⟨_, ho, rfl⟩ PySem.F.entry_list_mul (PySem.F.args_list_mul_2 _ _)
        (lm_list_mul_any a _ m none sl n t (by simp [Builtin.List.listFitsIndex]; omega) (by omega) (by simp [Builtin.List.listTooLong, sizeLine]; omega))
        ⟨ho, ?_⟩⟩)
  rw [listMul_foldl_if]
  have e : (List.replicate n.toNat ([w] : List Value).toArray.toList).flatten = List.replicate n.toNat w := by
    show (List.replicate n.toNat [w]).flatten = _
    induction n.toNat with
    | zero => rfl
    | succ k ih => rw [List.replicate_succ, List.replicate_succ, List.flatten_cons, ih]; rfl
  have vv : Vals (List.replicate n.toNat z) (List.replicate n.toNat w) := by
    induction n.toNat with
    | zero => exact .nil
    | succ k ih => exact .cons rw' ih
  refine ⟨.ref _, _, I.lnew (t' := s.toks) (by rw [e]; exact vv) (by rw [List.length_replicate]; exact Nat.le_trans (by omega : n.toNat ≤ 256) (by decide)), ?_, k _ I.fresh⟩
  rfl
def opRep : List S → ORes
  | [s, .d (.int n)] => match lstS s with
    | some [x] => if -(2 ^ 63) ≤ n ∧ n ≤ 256 then .ok (.l (List.replicate n.toNat x)) [s, .d (.int n)] else .stuck
    | _ => .stuck
  | _ => .stuck
theorem os_rep : OpS G N W (r2L (rRep G.K)) opRep := fun σ ρ st H vs xs Q l h p => by
  match xs, p, h, l with
  | [s, .d (.int n)], p, h, l =>
    unfold opRep at p
    simp only at p
    obtain ⟨v, w, ev, h1, h2⟩ := two l h
    subst ev
    have e1 := h2.int
    subst e1
    cases e1 : lstS s with
    | none =>
      rw [e1] at p
      exact p.elim
    | some xs =>
      match xs, e1 with
      | [], e1 => rw [e1] at p; exact p.elim
      | _ :: _ :: _, e1 => rw [e1] at p; exact p.elim
      | [x], e1 =>
        rw [e1] at p
        simp only at p
        by_cases hb : -(2 ^ 63) ≤ n ∧ n ≤ 256
        · rw [if_pos hb] at p
          obtain ⟨a, vs, ea, sq1, l1, h6⟩ := h1.itemsL e1
          subst ea
          match vs, l1 with
          | [z], _ =>
            refine ⟨a, z, n, rfl, rfl, sq1, hb.1, hb.2, fun q hq => p.2 _ _ ?_⟩
            have go : ∀ k : Nat, Hs G N H σ ρ (zs (List.replicate k z) ((List.replicate k x).map .d) ++ ((some z, .d x) :: (zs [.ref a, .int n] [s, .d (.int n)] ++ st))) := by
              intro k
              induction k with
              | zero => exact h6
              | succ k ih =>
                have h7 := (ih.perm List.perm_middle).dup
                rw [List.replicate_succ, List.replicate_succ]
                exact h7.perm (.cons _ List.perm_middle.symm)
            have h8 := (go n.toNat).newL (by simp) hq
            exact (h8.perm (.swap _ _ _)).drop
        · rw [if_neg hb] at p
          exact p.elim
end
end DL
/-! the data layer: a dict against the empty dict -/
namespace DL
open PySem PySem.Spec PyProof.Rows L2 PySem.W
end DL
/-! the data layer: dicts whose keys are tuples of numbers and texts -/
namespace DL
open PySem PySem.Spec PyProof.Rows L2 PySem.W
def kOkT : List D → Bool
  | [] => true
  | k :: ks => (keyT k).isSome && kOkT ks
def lookT : List D → List D → D → Option D
  | k :: ks, v :: vs, y => if keyT k = keyT y then some v else lookT ks vs y
  | _, _, _ => none
section
variable {G : Gx} {N : Pn} {X : Cx} {W : WX} {H H' : Hp} {σ : L2.St} {ρ : List S} {st : Stk}
theorem kd_consT {k : D} {ks : List D} {kk : List (List Key)} (h : (k :: ks).map keyT = kk.map some) : ∃ q r, kk = q :: r ∧ keyT k = some q ∧ ks.map keyT = r.map some := by
  match kk, h with
  | [], h => cases h
  | q :: r, h =>
    rw [List.map_cons, List.map_cons] at h
    injection h with h1 h2
    exact ⟨q, r, rfl, h1, h2⟩
theorem kd_nilT {kk : List (List Key)} (h : ([] : List D).map keyT = kk.map some) : kk = [] := by
  cases kk with
  | nil => rfl
  | cons _ _ => cases h
theorem look_okT {y : D} {q : List Key} (ey : keyT y = some q) : ∀ {ks vs : List D} {kk : List (List Key)} {ws : List V}, ks.map keyT = kk.map some → kk.length = ws.length → ws.length = vs.length →
    (∀ x, lookT ks vs y = some x → ∃ (j : Nat) (w : V), valV (kk.zip ws) q = some w ∧ ws[j]? = some w ∧ vs[j]? = some x) ∧ (lookT ks vs y = none → valV (kk.zip ws) q = none)
  | [], vs, kk, ws, h, _, _ => by
    rw [kd_nilT h]
    exact ⟨fun x e => by simp [lookT] at e, fun _ => rfl⟩
  | k :: ks, vs, kk, ws, h, l, l2 => by
    obtain ⟨a, r, e1, e2, e3⟩ := kd_consT h
    subst e1
    match ws, vs, l, l2 with
    | w :: ws, v :: vs, l, l2 =>
      obtain ⟨i1, i2⟩ := look_okT (vs := vs) (ws := ws) ey e3 (by simpa using l) (by simpa using l2)
      unfold lookT
      by_cases hq : a = q
      · rw [if_pos (by rw [e2, ey, hq])]
        have e4 : valV ((a :: r).zip (w :: ws)) q = some w := valV_pos hq
        exact ⟨fun x e => ⟨0, w, e4, rfl, e⟩, fun e => by cases e⟩
      · rw [if_neg (by rw [e2, ey]; simpa using hq)]
        have e4 : valV ((a :: r).zip (w :: ws)) q = valV (r.zip ws) q := valV_neg hq
        rw [e4]
        exact ⟨fun x e => by
          obtain ⟨j, u, a1, a2, a3⟩ := i1 x e
          exact ⟨j + 1, u, a1, by simpa using a2, by simpa using a3⟩, i2⟩
/-! ### the heap's side -/
variable {pins : List (Addr × Obj)} {s : Shared} {a : Addr} {y v : V} {u r : Value} {o : Option V} {A : Around} {E : Value → Shared → Prop}
/-- what stands at a tuple -/
def DGetT (H : Hp) (a : Addr) (y : V) (r : Option V) : Prop := ∃ (k : List Key) (b : Addr), y = .ref b ∧ H b = some (.tup (k.map kV)) ∧ ((∃ kvs, Rd H a (.dT kvs) ∧ r = valV kvs k) ∨ (Rd H a (.dK []) ∧ r = none))
end
end DL
/-! the data layer: what is done with dicts of tuples -/
namespace DL
open PySem PySem.Spec PyProof.Rows L2 PySem.W
section
variable {G : Gx} {N : Pn} {X : Cx} {W : WX} {H H' : Hp} {σ : L2.St} {ρ : List S} {st : Stk}
def kD : Key → D
  | .inl i => .int i
  | .inr x => .str x
theorem keysD_eq : ∀ {xs : List D} {q : List Key}, keysD xs = some q → xs = q.map kD
  | [], q, h => by cases h; rfl
  | x :: xs, q, h => by
    unfold keysD at h
    split at h
    · rename_i k r e1 e2
      cases h
      rw [List.map_cons, ← keysD_eq e2]
      congr 1
      cases x with
      | int i => cases e1; rfl
      | str z => cases e1; rfl
      | _ => cases e1
    · cases h
theorem keyT_eq {k : D} {q : List Key} (h : keyT k = some q) : k = .tup (q.map kD) := by
  cases k with
  | tup xs => rw [keysD_eq (show keysD xs = some q from h)]
  | _ => cases h
theorem kDs_inv {F : Hp} : ∀ {q : List Key} {vs : List V}, RDs G F (q.map kD) vs → vs = q.map kV
  | [], vs, h => h
  | k :: q, vs, ⟨v, r, e, h1, h2⟩ => by
    subst e
    rw [kDs_inv h2, List.map_cons]
    congr 1
    cases k with
    | inl i => exact h1
    | inr x => exact h1
/-- a tuple on the stack is tracked -/
theorem Hs.keyTu {v : V} {k : D} {q : List Key} (h : Hs G N H σ ρ ((some v, .d k) :: st)) (e : keyT k = some q) : ∃ b, v = .ref b ∧ H b = some (.tup (q.map kV)) := by
  obtain ⟨F, sb, r⟩ := h.at_
  rw [keyT_eq e] at r
  obtain ⟨a, vs, ev, eF, r2⟩ := r
  rw [kDs_inv r2] at eF
  refine ⟨a, ev, ?_⟩
  obtain ⟨_, z | ⟨z, _⟩⟩ := sb a _ eF
  · exact z
  · rcases z with ⟨_, z⟩ | ⟨_, z⟩ <;> cases z
theorem kOkT_no {ks : List D} (h : kOkT ks = true) {kk : List Key} (n : ks ≠ []) (e : ks.map keyD = kk.map some) : False := by
  cases ks with
  | nil => exact n rfl
  | cons k ks =>
    cases kk with
    | nil => cases e
    | cons q r =>
      rw [List.map_cons, List.map_cons] at e
      injection e with e1 e2
      unfold kOkT at h
      cases k <;> simp [keyD, keyT] at h e1
/-- a dict of tuples on the stack -/
theorem Hs.dictT {v : V} {s : S} {ks vs : List D} (h : Hs G N H σ ρ ((some v, s) :: st)) (e : dicS s = some (ks, vs)) (ko : kOkT ks = true) : ∃ (a : Addr) (kk : List (List Key)) (ws : List V), v = .ref a ∧ (Rd H a (.dT (kk.zip ws)) ∨ (ks = [] ∧ Rd H a (.dK []))) ∧ kk.length = ws.length ∧ ks.map keyT = kk.map some ∧ ws.length = vs.length ∧ Hs G N H σ ρ (zs ws (vs.map .d) ++ ((some v, s) :: st)) := by
  obtain ⟨F, fp, sb, ⟨fa, fr, ef, q, r⟩, n⟩ := h.ex
  have fin : ∀ (ws : List V), RDs G F vs ws → RF G F H s (some v) fa → Hs G N H σ ρ (zs ws (vs.map .d) ++ ((some v, s) :: st)) := fun ws q2 q => by
    refine ⟨h.len, ⟨F, fp, sb, ?_, n⟩, h.tb, h.pin⟩
    rw [List.append_assoc]
    exact (RL.app _ _ _).mpr ⟨[], fp, rfl, (RL.ds q2.len).mpr ⟨rfl, q2⟩, fa, fr, ef, q, r⟩
  have nil : ∀ (a : Addr) (kk : List Key) (ws : List V), kk.length = ws.length → ks.map keyD = kk.map some → RDs G F vs ws → Rd H a (.dK (kk.zip ws)) → RF G F H s (some v) fa → v = .ref a → ∃ (a : Addr) (kk : List (List Key)) (ws : List V), v = .ref a ∧ (Rd H a (.dT (kk.zip ws)) ∨ (ks = [] ∧ Rd H a (.dK []))) ∧ kk.length = ws.length ∧ ks.map keyT = kk.map some ∧ ws.length = vs.length ∧ Hs G N H σ ρ (zs ws (vs.map .d) ++ ((some v, s) :: st)) := fun a kk ws l1 l2 q2 rd q ev => by
    have hk : ks = [] := Classical.byContradiction fun z => kOkT_no ko z l2
    subst hk
    have := kd_nil l2
    subst this
    have hw : ws = [] := List.length_eq_zero_iff.mp l1.symm
    subst hw
    exact ⟨a, [], [], ev, .inr ⟨rfl, rd⟩, rfl, rfl, q2.len, fin [] q2 q⟩
  cases s with
  | m ks' vs' =>
    cases e
    obtain ⟨a, ev, efa, eF, al⟩ := id q
    cases ev
    rcases al with ⟨kk, ws, e1, e2, e3, e4⟩ | ⟨kk, ws, e1, e2, e3, e4⟩
    · exact nil a kk ws e2 e3 e4 (.inl e1) q rfl
    · exact ⟨a, kk, ws, rfl, .inl (.inl e1), e2.1, e3, e4.len, fin ws e4 q⟩
  | w ks' vs' =>
    cases e
    obtain ⟨a, ob, ev, efa, eF, al⟩ := id q
    cases ev
    rcases al with ⟨kk, ws, e1, e2, e3, e4⟩ | ⟨kk, ws, e1, e2, e3, e4⟩
    · exact nil a kk ws e2 e3 e4 (.inr ⟨ob, e1⟩) q rfl
    · exact ⟨a, kk, ws, rfl, .inl (.inr ⟨ob, e1⟩), e2.1, e3, e4.len, fin ws e4 q⟩
  | d x =>
    cases x with
    | dic ks' vs' =>
      cases e
      obtain ⟨_, w, ew, a, ev, al⟩ := id q
      cases ew
      rcases al with ⟨kk, ws, e1, e2, e3, e4⟩ | ⟨kk, ws, e1, e2, e3, e4⟩
      · exact nil a kk ws e2 e3 e4 (Rd.sub sb (.inl e1)) q ev
      · exact ⟨a, kk, ws, ev, .inl (Rd.sub sb (.inl e1)), e2.1, e3, e4.len, fin ws e4 q⟩
    | _ => cases e
  | _ => cases e
/-- what a tuple finds -/
theorem Hs.getT {v w : V} {s : S} {k : D} {q : List Key} {ks us : List D} (h1 : Hs G N H σ ρ ((some v, s) :: st)) (h2 : Hs G N H σ ρ ((some w, .d k) :: st')) (e : dicS s = some (ks, us)) (ko : kOkT ks = true) (eq : keyT k = some q) :
    ∃ a o, v = .ref a ∧ DGetT H a w o ∧ (lookT ks us k = none → o = none) ∧ ∀ x, lookT ks us k = some x → ∃ u, o = some u ∧ Hs G N H σ ρ ((some u, .d x) :: (some v, s) :: st) := by
  obtain ⟨a, kk, ws, ea, rd, l1, l2, l3, h4⟩ := h1.dictT e ko
  obtain ⟨b, ew, eb⟩ := h2.keyTu eq
  subst ea ew
  have lk := look_okT eq l2 l1 l3
  rcases rd with rd | ⟨hk, rd⟩
  · refine ⟨a, _, rfl, ⟨q, b, rfl, eb, .inl ⟨_, rd, rfl⟩⟩, lk.2, fun x el => ?_⟩
    obtain ⟨j, u, e1, e2, e3⟩ := lk.1 x el
    obtain ⟨u', eu, h5⟩ := h4.one (i := j) (x := .d x) (by simpa using l3) (by simp [e3])
    rw [e2] at eu
    cases eu
    exact ⟨u, e1, h5⟩
  · subst hk
    exact ⟨a, none, rfl, ⟨q, b, rfl, eb, .inr ⟨rd, rfl⟩⟩, fun _ => rfl, fun x el => by unfold lookT at el; cases el⟩
/-! ### d[k] -/
/-! ### k in d -/
/-! ### d[k] = v -/
end
end DL
/-! the data layer: dicts of tuples got, counted, listed, sorted, walked -/
namespace DL
open PySem PySem.Spec PyProof.Rows L2 PySem.W
section
variable {G : Gx} {N : Pn} {X : Cx} {W : WX} {H H' : Hp} {σ : L2.St} {ρ : List S} {st : Stk}
/-! ### d.get -/
variable {o e f : Expr} {ao : Arg} {as : List Arg} {apos cpos : Pos}
/-! ### len -/
/-! ### list, sorted -/
theorem IsKeys.len {kvs : List (List Key × V)} {bs : List Addr} (h : IsKeys H kvs bs) : bs.length = kvs.length := (Paired.length h).symm
/-! sorted -/
end
end DL
/-! the data layer: dicts of tuples made of pairs, sorted, walked -/
namespace DL
open PySem PySem.Spec PyProof.Rows L2 PySem.W
theorem CallR.or {X : Cx} {f : Value} {r r' : List V → Hp → VK → Prop} (a : CallR X f r) (b : CallR X f r') : CallR X f (fun xs H Q => r xs H Q ∨ r' xs H Q) := fun pins s σ H xs us Q I v h => h.elim (fun h => a pins s σ H xs us Q I v h) fun h => b pins s σ H xs us Q I v h
end DL
/-! the data layer: dicts of tuples made of pairs, walked -/
namespace DL
open PySem PySem.Spec PyProof.Rows L2 PySem.W
end DL
/-! the data layer: a[i], b[j] = x, y; list(range(a, b, c)); dict(d.items()); {k: v} with a tuple as key -/
namespace DL
open PySem PySem.Spec PyProof.Rows L2 PySem.W
end DL
/-! the data layer: list(range(a, b, c)); dict(d.items()); {k: v} with a tuple as key -/
namespace DL
open PySem PySem.Spec PyProof.Rows L2 PySem.W
/-! ### dict(d.items()) -/
/-! ### {k: v}, k a tuple -/
end DL
/-! the data layer: data in a tuple of data -/
namespace DL
open PySem PySem.Spec PyProof.Rows L2 PySem.W
section
variable {G : Gx} {N : Pn} {X : Cx} {W : WX} {H H' : Hp} {σ : L2.St} {ρ : List S} {st : Stk}
def opTLIn (neg : Bool) : List S → ORes
  | [x, y] => match sPy x, sPy y with
    | some d, some (.tuple ds) => if SeqAt.shaped d = true ∧ SeqAt.shaped (.list ds) = true then .ok (.d (.bl (if neg then !(ds.any fun z => PyData.eqv z d) else ds.any fun z => PyData.eqv z d))) [x, y] else .stuck
    | _, _ => .stuck
  | _ => .stuck
def rTLIn (K : PySem.W.Frag) (neg : Bool) : R2 := fun x y H Q => ∃ d ds, Dp K H x d ∧ Dp K H y (.tuple ds) ∧ SeqAt.shaped d = true ∧ SeqAt.shaped (.list ds) = true ∧ Q (.bl (if neg then !(ds.any fun z => PyData.eqv z d) else ds.any fun z => PyData.eqv z d)) H
theorem op_tlNotIn (hu : X.A.units + 65 < cLine) : OpR X (compareOp .NotIn) (rTLIn X.K true) := by
  intro pins s σ H x y v u Q I rx ry h
  obtain ⟨d, ds, hd, he, sd, se, q⟩ := h
  obtain ⟨as, r1⟩ := Dp.reads I d x v hd rx
  obtain ⟨bs, r2⟩ := Dp.reads I (.tuple ds) y u he ry
  exact SeqAt.notIn_tuple_reads r2 r1 (SeqAt.canLay_of_shaped se) (SeqAt.canLay_of_shaped sd) (room_in_shaped sd hu) ⟨.bl _, H, I, rfl, q⟩
theorem os_tlIn (neg : Bool) : OpS G N W (r2L (rTLIn G.K neg)) (opTLIn neg) := fun σ ρ st H vs xs Q l h p => by
  match xs, p, h with
  | [x, y], p, h =>
    unfold opTLIn at p
    simp only at p
    cases e1 : sPy x with
    | none =>
      rw [e1] at p
      exact p.elim
    | some d =>
      cases e2 : sPy y with
      | none =>
        rw [e1, e2] at p
        exact p.elim
      | some e =>
        rw [e1, e2] at p
        cases e with
        | tuple ds =>
          simp only at p
          by_cases hs : SeqAt.shaped d = true ∧ SeqAt.shaped (.list ds) = true
          · rw [if_pos hs] at p
            obtain ⟨v, w, ev, h1, h2⟩ := two l h
            subst ev
            exact ⟨d, ds, h1.dp e1, h2.dp e2, hs.1, hs.2, p.2 _ H (h.new fun _ => rfl)⟩
          · rw [if_neg hs] at p
            exact p.elim
        | _ => exact p.elim
end
end DL
/-! the data layer: comprehensions of two clauses; a = b = x -/
namespace DL
open PySem PySem.Spec PyProof.Rows L2 PySem.W
/-- the second clause of a turn -/
def compI (vs1 : List Nat) (as1 : List Arg) (io1 : List S → Option (List D)) (t1 : Tg) (c1 : M Bool) (f : M S) (acc : List S) : M (List S) := mbind (mArgs as1) fun avs ρ => match grab ρ avs with
  | none => .stuck
  | some p => match io1 p.1 with
    | none => .stuck
    | some items => if acc.length + items.length ≤ 100000 then (match compL vs1 t1 c1 f items acc p.2 with
      | .ok acc2 ρ2 => .ok acc2 (lay (clr vs1 ρ2) avs p.1 p.1)
      | _ => .stuck) else .stuck
def compL2 (vs : List Nat) (t : Tg) (c : M Bool) (g : List S → M (List S)) : List D → List S → M (List S)
  | [], acc, ρ => .ok acc ρ
  | x :: xs, acc, ρ => match asgT t (.d x) (clr vs ρ) with
    | none => .stuck
    | some ρ1 => match c ρ1 with
      | .ok b ρ2 => if b then (match g acc ρ2 with
        | .ok acc2 ρ3 => compL2 vs t c g xs acc2 ρ3
        | _ => .stuck) else compL2 vs t c g xs acc ρ2
      | _ => .stuck
def mComp2 (vs : List Nat) (as : List Arg) (io : List S → Option (List D)) (t : Tg) (c : M Bool) (g : List S → M (List S)) : M S := mbind (mArgs as) fun avs ρ => match grab ρ avs with
  | none => .stuck
  | some p => match io p.1 with
    | none => .stuck
    | some items => if items.length ≤ 100000 then (match compL2 vs t c g items [] p.2 with
      | .ok acc ρ2 => .ok (lsN acc) (lay (rst vs p.2 (clr vs ρ2)) avs p.1 p.1)
      | _ => .stuck) else .stuck
section
variable {G : Gx} {N N' : Pn} {X : Cx} {W : WX} {H H' : Hp} {σ σ' : L2.St} {ρ ρ' : List S} {st st' : Stk}
theorem walk_it {J : It} {n : Nat} {Gc : Hp → Prop} {Y : Nat → Hp → V → Hp → Prop} (w : Walk J n Gc Y) (St : V → Hp → (Hp → Prop) → Prop) {H0 : Hp} {Qd : Hp → Prop} (Pv : Nat → Hp → Prop) (h0 : Pv 0 H0) (hG : ∀ i H, i ≤ n → Pv i H → Gc H)
    (hs : ∀ i x H H', i < n → Pv i H → Y i H x H' → St x H' (Pv (i + 1))) (hd : ∀ H, Pv n H → Qd H) :
    ∃ W : Nat → Nat → Hp → Prop, (∃ m, W 0 m H0) ∧ ∀ i m H, W i m H →
      (J.stop i H ∧ Qd H) ∨ (J.go i H ∧ ∃ Nx : Hp → Prop, (∀ H', Nx H' → ∃ m', m' < m ∧ W (i + 1) m' H') ∧ ∀ x H', J.yld i H x H' → St x H' Nx) := by
  refine ⟨fun i m H => m = n - i ∧ i ≤ n ∧ Pv i H, ⟨n, by simp, Nat.zero_le _, h0⟩, ?_⟩
  rintro i m H ⟨rfl, hi, p⟩
  have q := hG i H hi p
  by_cases hlt : i < n
  · exact .inr ⟨w.goes i H hlt q, Pv (i + 1), fun H' p' => ⟨n - (i + 1), by omega, rfl, hlt, p'⟩, fun x H' y => hs i x H H' hlt p (w.yields i H x H' hlt q y)⟩
  · have e : i = n := by omega
    subst e
    exact .inl ⟨w.stops H q, hd H p⟩
def sAllA (X : Cx) (scope : Scope) (es : List Expr) (r : List V → Hp → (It → Hp → Prop) → Prop) : TI := fun σ H R => ∀ (s : Shared) (H0 : Hp) (C : Addr) (cl : List (Str × Addr)) (fp : List Addr), sAs (X.blk s H0 scope (compEnvC scope cl C X.env) fp) es σ H fun vs H1 => r vs H1 R
structure Parts2 (G : Gx) (X : Cx) (scope : Scope) (vs vs1 : List Nat) (tg : Expr) (ifs : List Expr) (es1 : List Expr) (tg1 : Expr) (ifs1 : List Expr) (elt : Expr) (t : Tg) (c : M Bool) (as1 : List Arg) (t1 : Tg) (c1 : M Bool) (f : M S) : Prop where
  tg : ∀ N : Pn, (∀ v ∈ vs, v ∉ N.J) → BlkA X scope fun X' => GX G N X' tg t
  ifs : ∀ N : Pn, (∀ v ∈ vs, v ∉ N.J) → BlkA X scope fun X' => Ifs G N X' ifs c
  src : ∀ N : Pn, (∀ v ∈ vs, v ∉ N.J) → BlkA X scope fun X' => AX G N X' W0 es1 as1
  tg1 : ∀ N : Pn, (∀ v ∈ vs1, v ∉ N.J) → BlkA X scope fun X' => GX G N X' tg1 t1
  ifs1 : ∀ N : Pn, (∀ v ∈ vs1, v ∉ N.J) → BlkA X scope fun X' => Ifs G N X' ifs1 c1
  elt : ∀ N : Pn, (∀ v ∈ vs1, v ∉ N.J) → BlkA X scope fun X' => EX G N X' W0 elt f
/-- the inner loop -/
theorem compI_run {scope : Scope} {vs1 : List Nat} {tg1 elt : Expr} {ifs1 : List Expr} {t1 : Tg} {c1 : M Bool} {f : M S} {J : It} {src st : Stk} {items : List D} {Nx : Hp → Prop} (Pt : ∀ N : Pn, (∀ v ∈ vs1, v ∉ N.J) → BlkA X scope fun X' => GX G N X' tg1 t1) (Pi : ∀ N : Pn, (∀ v ∈ vs1, v ∉ N.J) → BlkA X scope fun X' => Ifs G N X' ifs1 c1) (Pe : ∀ N : Pn, (∀ v ∈ vs1, v ∉ N.J) → BlkA X scope fun X' => EX G N X' W0 elt f)
    (hi : IterOk G N.L J src items) {acc acc' : List S} {ρ1 : List S} {Dl : Addr} (hl : acc.length + items.length ≤ 100000) (h : Hs G N H σ ρ (src ++ ((some (.ref Dl), .ls acc) :: st))) (e : compL vs1 t1 c1 f items acc ρ = .ok acc' ρ1)
    (k : ∀ H', Hs G N H' σ (clr vs1 ρ1) (src ++ ((some (.ref Dl), .ls acc') :: st)) → ρ1.length = ρ.length → Nx H') :
    ∃ W : Nat → Nat → Hp → Prop, (∃ m, W 0 m H) ∧ ∀ i m H, W i m H →
      (J.stop i H ∧ Nx H) ∨ (J.go i H ∧ ∃ Nx1 : Hp → Prop, (∀ H', Nx1 H' → ∃ m', m' < m ∧ W (i + 1) m' H') ∧ ∀ x H', J.yld i H x H' →
        (gAll X scope tg1) x (wipe σ vs1) H' fun σ2 H2 => wipe σ2 vs1 = wipe σ vs1 ∧
          (tAllT X scope ifs1) σ2 H2 fun b H3 =>
          if b = true then (tAllE X scope elt) σ2 H3 fun y H4 => ∃ acc, H4 Dl = some (.lst acc) ∧ acc.length < sizeLine ∧ Nx1 (upd H4 Dl (.lst (acc ++ [y]))) else Nx1 H3) := by
  obtain ⟨Gc, Y, w, k1, k2⟩ := hi
  have hlσ : σ.length = ρ.length := h.len
  have Np : ∀ v ∈ vs1, v ∉ (blkP vs1 σ N.L).J := fun v hv => blkP_out hv
  refine walk_it w (fun x H' Nx1 => (gAll X scope tg1) x (wipe σ vs1) H' fun σ2 H2 => wipe σ2 vs1 = wipe σ vs1 ∧
          (tAllT X scope ifs1) σ2 H2 fun b H3 =>
          if b = true then (tAllE X scope elt) σ2 H3 fun y H4 => ∃ acc, H4 Dl = some (.lst acc) ∧ acc.length < sizeLine ∧ Nx1 (upd H4 Dl (.lst (acc ++ [y]))) else Nx1 H3) (fun i H => ∃ ρ2 ac, ρ2.length = ρ.length ∧ ac.length ≤ acc.length + i ∧ Hs G (blkP vs1 σ N.L) H (wipe σ vs1) (clr vs1 ρ2) (src ++ ((some (.ref Dl), .ls ac) :: st)) ∧ compL vs1 t1 c1 f (items.drop i) ac ρ2 = .ok acc' ρ1) ?_ ?_ ?_ ?_
  · exact ⟨ρ, acc, rfl, Nat.le_refl _, Hs.into (h.clrs vs1), e⟩
  · rintro i H1 hi ⟨ρ2, ac, l2, la, h1, _⟩
    exact k1 (blkP vs1 σ N.L) _ _ _ _ rfl h1
  · rintro i x H1 H2 hi ⟨ρ2, ac, l2, la, h1, e1⟩ y
    obtain ⟨d, ed, h2⟩ := k2 (blkP vs1 σ N.L) _ _ _ i x H1 H2 rfl hi h1 y
    have e2 : items.drop i = d :: items.drop (i + 1) := by
      rw [List.drop_eq_getElem_cons hi]
      congr 1
      exact (List.getElem?_eq_some_iff.mp ed).2
    rw [e2] at e1
    unfold compL at e1
    cases ea : asgT t1 (.d d) (clr vs1 ρ2) with
    | none =>
      rw [ea] at e1
      cases e1
    | some ρ3 =>
      rw [ea] at e1
      simp only at e1
      intro s H0 C cl fp
      refine Pt _ Np s H0 C cl fp _ _ _ _ _ _ _ _ h2 ea fun σ2 H3 h3 => ?_
      have l3 : σ2.length = σ.length := by rw [h3.len, asgT_len _ _ _ _ ea, clr_len, l2, hlσ]
      refine ⟨h3.keepW l3, ?_⟩
      intro s H0 C cl fp
      cases ec : c1 ρ3 with
      | exc a b r =>
        rw [ec] at e1
        cases e1
      | stuck =>
        rw [ec] at e1
        cases e1
      | ok b ρ4 =>
        rw [ec] at e1
        simp only at e1
        refine ifs_run (Pi _ Np s H0 C cl fp) h3 ec fun H4 h4 => ?_
        have l4 : ρ4.length = ρ.length := by rw [← h4.len, l3, hlσ]
        cases b with
        | false =>
          simp only [Bool.false_eq_true, if_false] at e1
          exact iteF ⟨ρ4, ac, l4, by omega, h4.next l3, e1⟩
        | true =>
          simp only [if_true] at e1
          cases ef : f ρ4 with
          | exc a b r =>
            rw [ef] at e1
            cases e1
          | stuck =>
            rw [ef] at e1
            cases e1
          | ok z ρ5 =>
            rw [ef] at e1
            simp only at e1
            refine iteT ?_
            intro s H0 C cl fp
            refine Pe _ Np s H0 C cl fp _ _ _ _ _ h4 ?_
            rw [ef]
            intro yv H5 h5
            have l5 : ρ5.length = ρ.length := by rw [← h5.len, l3, hlσ]
            have h6 : Hs G (blkP vs1 σ N.L) H5 σ2 ρ5 ((some yv, z) :: (some (.ref Dl), .ls ac) :: (src ++ st)) := h5.perm (List.Perm.cons _ List.perm_middle)
            obtain ⟨ws, ew, lw, h7⟩ := h6.push
            refine ⟨ws, ew, ?_, ρ5, ac ++ [z], l5, by simp; omega, ?_, e1⟩
            · rw [lw]
              exact Nat.lt_of_lt_of_le (by omega : ac.length < 100000) (by decide)
            · exact (h7.next l3).perm List.perm_middle.symm
  · rintro H1 ⟨ρ2, ac, l2, la, h1, e1⟩
    rw [List.drop_length] at e1
    have e1' : Res.ok ac ρ2 = Res.ok acc' ρ1 := e1
    cases e1'
    exact k H1 (h1.out h) l2
theorem compL2_run {scope : Scope} {vs vs1 : List Nat} {tg tg1 elt : Expr} {ifs ifs1 es1 : List Expr} {t t1 : Tg} {c c1 : M Bool} {f : M S} {as1 : List Arg} {r1 : List V → Hp → (It → Hp → Prop) → Prop} {io1 : List S → Option (List D)} {J : It} {src : Stk} {items : List D} {Q : VK} (P : Parts2 G X scope vs vs1 tg ifs es1 tg1 ifs1 elt t c as1 t1 c1 f) (hi1 : ItS G r1 io1) (hi : IterOk G N.L J src items)
    {acc' : List S} {ρ1 : List S} (hv : ∀ v ∈ vs, v < ρ.length) (h : Hs G N H σ ρ (src ++ st)) (e : compL2 vs t c (compI vs1 as1 io1 t1 c1 f) items [] ρ = .ok acc' ρ1) {Dl : Addr} (hD : H Dl = none)
    (k : ∀ H', Hs G N H' σ (rst vs ρ (clr vs ρ1)) ((some (.ref Dl), lsN acc') :: (src ++ st)) → Q (.ref Dl) H') :
    ∃ W : Nat → Nat → Hp → Prop, (∃ m, W 0 m (upd H Dl (.lst []))) ∧ ∀ i m H, W i m H →
      (J.stop i H ∧ Q (.ref Dl) H) ∨ (J.go i H ∧ ∃ Nx : Hp → Prop, (∀ H', Nx H' → ∃ m', m' < m ∧ W (i + 1) m' H') ∧ ∀ x H', J.yld i H x H' →
        (gAll X scope tg) x (wipe σ vs) H' fun σ2 H2 => wipe σ2 vs = wipe σ vs ∧
          (tAllT X scope ifs) σ2 H2 fun b H3 =>
          if b = true then (sAllA X scope es1 r1) σ2 H3 fun J1 H4 => ∃ W1 : Nat → Nat → Hp → Prop, (∃ m, W1 0 m H4) ∧ ∀ j k H, W1 j k H →
            (J1.stop j H ∧ Nx H) ∨ (J1.go j H ∧ ∃ Nx1 : Hp → Prop, (∀ H', Nx1 H' → ∃ k', k' < k ∧ W1 (j + 1) k' H') ∧ ∀ x H', J1.yld j H x H' → (gAll X scope tg1) x (wipe σ2 vs1) H' fun σ3 H5 => wipe σ3 vs1 = wipe σ2 vs1 ∧ (tAllT X scope ifs1) σ3 H5 fun b H6 =>
              if b = true then (tAllE X scope elt) σ3 H6 fun y H7 => ∃ acc, H7 Dl = some (.lst acc) ∧ acc.length < sizeLine ∧ Nx1 (upd H7 Dl (.lst (acc ++ [y]))) else Nx1 H6)
          else Nx H3) := by
  obtain ⟨Gc, Y, w, k1, k2⟩ := hi
  have hlσ : σ.length = ρ.length := h.len
  have Np : ∀ v ∈ vs, v ∉ (blkP vs σ N.L).J := fun v hv => blkP_out hv
  refine walk_it w (fun x H' Nx => (gAll X scope tg) x (wipe σ vs) H' fun σ2 H2 => wipe σ2 vs = wipe σ vs ∧
          (tAllT X scope ifs) σ2 H2 fun b H3 =>
          if b = true then (sAllA X scope es1 r1) σ2 H3 fun J1 H4 => ∃ W1 : Nat → Nat → Hp → Prop, (∃ m, W1 0 m H4) ∧ ∀ j k H, W1 j k H →
            (J1.stop j H ∧ Nx H) ∨ (J1.go j H ∧ ∃ Nx1 : Hp → Prop, (∀ H', Nx1 H' → ∃ k', k' < k ∧ W1 (j + 1) k' H') ∧ ∀ x H', J1.yld j H x H' → (gAll X scope tg1) x (wipe σ2 vs1) H' fun σ3 H5 => wipe σ3 vs1 = wipe σ2 vs1 ∧ (tAllT X scope ifs1) σ3 H5 fun b H6 =>
              if b = true then (tAllE X scope elt) σ3 H6 fun y H7 => ∃ acc, H7 Dl = some (.lst acc) ∧ acc.length < sizeLine ∧ Nx1 (upd H7 Dl (.lst (acc ++ [y]))) else Nx1 H6)
          else Nx H3) (fun i H => ∃ ρ2 acc, ρ2.length = ρ.length ∧ Hs G (blkP vs σ N.L) H (wipe σ vs) (clr vs ρ2) (src ++ ((some (.ref Dl), .ls acc) :: (pulled vs σ ρ ++ st))) ∧ compL2 vs t c (compI vs1 as1 io1 t1 c1 f) (items.drop i) acc ρ2 = .ok acc' ρ1) ?_ ?_ ?_ ?_
  · refine ⟨ρ, [], rfl, ?_, e⟩
    have h1 := h.pulls vs hv
    have h2 := Hs.into h1
    have h3 := h2.newLs hD
    refine h3.perm ?_
    have e1 : (pulled vs σ ρ ++ (src ++ st)).Perm (src ++ (pulled vs σ ρ ++ st)) := by
      rw [← List.append_assoc, ← List.append_assoc]
      exact List.perm_append_comm.append_right st
    exact (e1.cons _).trans List.perm_middle.symm
  · rintro i H1 hi ⟨ρ2, acc, l2, h1, _⟩
    exact k1 (blkP vs σ N.L) _ _ _ _ rfl h1
  · rintro i x H1 H2 hi ⟨ρ2, acc, l2, h1, e1⟩ y
    obtain ⟨d, ed, h2⟩ := k2 (blkP vs σ N.L) _ _ _ i x H1 H2 rfl hi h1 y
    have e2 : items.drop i = d :: items.drop (i + 1) := by
      rw [List.drop_eq_getElem_cons hi]
      congr 1
      exact (List.getElem?_eq_some_iff.mp ed).2
    rw [e2] at e1
    unfold compL2 at e1
    cases ea : asgT t (.d d) (clr vs ρ2) with
    | none =>
      rw [ea] at e1
      cases e1
    | some ρ3 =>
      rw [ea] at e1
      simp only at e1
      intro s H0 C cl fp
      refine P.tg _ Np s H0 C cl fp _ _ _ _ _ _ _ _ h2 ea fun σ2 H3 h3 => ?_
      have l3 : σ2.length = σ.length := by rw [h3.len, asgT_len _ _ _ _ ea, clr_len, l2, hlσ]
      refine ⟨h3.keepW l3, ?_⟩
      intro s H0 C cl fp
      cases ec : c ρ3 with
      | exc a b r =>
        rw [ec] at e1
        cases e1
      | stuck =>
        rw [ec] at e1
        cases e1
      | ok b ρ4 =>
        rw [ec] at e1
        simp only at e1
        refine ifs_run (P.ifs _ Np s H0 C cl fp) h3 ec fun H4 h4 => ?_
        have l4 : ρ4.length = ρ.length := by rw [← h4.len, l3, hlσ]
        cases b with
        | false =>
          simp only [Bool.false_eq_true, if_false] at e1
          exact iteF ⟨ρ4, acc, l4, h4.next l3, e1⟩
        | true =>
          simp only [if_true] at e1
          cases eI : compI vs1 as1 io1 t1 c1 f acc ρ4 with
          | exc a b r =>
            rw [eI] at e1
            cases e1
          | stuck =>
            rw [eI] at e1
            cases e1
          | ok acc2 ρ5 =>
            rw [eI] at e1
            simp only at e1
            refine iteT ?_
            intro s H0 C cl fp
            unfold compI mbind at eI
            cases hm : mArgs as1 ρ4 with
            | exc a b r =>
              rw [hm] at eI
              cases eI
            | stuck =>
              rw [hm] at eI
              cases eI
            | ok avs ρ6 =>
              rw [hm] at eI
              simp only at eI
              refine P.src _ Np s H0 C cl fp _ _ _ _ _ h4 ?_
              rw [hm]
              intro vs2 H5 r5 h5
              cases eg : grab ρ6 avs with
              | none =>
                rw [eg] at eI
                cases eI
              | some q =>
                obtain ⟨xs, ρ7⟩ := q
                rw [eg] at eI
                simp only at eI
                obtain ⟨l, h6⟩ := grab_ok r5 h5 eg
                cases ei : io1 xs with
                | none =>
                  rw [ei] at eI
                  cases eI
                | some items1 =>
                  rw [ei] at eI
                  simp only at eI
                  by_cases hl : acc.length + items1.length ≤ 100000
                  · rw [if_pos hl] at eI
                    cases eL : compL vs1 t1 c1 f items1 acc ρ7 with
                    | exc a b r =>
                      rw [eL] at eI
                      cases eI
                    | stuck =>
                      rw [eL] at eI
                      cases eI
                    | ok acc3 ρ8 =>
                      rw [eL] at eI
                      have eI' : Res.ok acc3 (lay (clr vs1 ρ8) avs xs xs) = Res.ok acc2 ρ5 := eI
                      cases eI'
                      refine hi1 _ _ _ _ _ _ _ _ _ l h6 ei fun J1 H6 L0 ok h7 => ?_
                      have h8 : Hs G ((blkP vs σ N.L).lk L0) H6 σ2 ρ7 (zs vs2 xs ++ ((some (.ref Dl), .ls acc) :: (src ++ (pulled vs σ ρ ++ st)))) := h7.perm (List.Perm.append_left _ List.perm_middle)
                      refine compI_run (N := (blkP vs σ N.L).lk L0) P.tg1 P.ifs1 P.elt ok hl h8 eL fun H9 h9 l9 => ?_
                      have h10 : Hs G (blkP vs σ N.L) H9 σ2 (lay (clr vs1 ρ8) avs xs xs) (src ++ ((some (.ref Dl), .ls acc2) :: (pulled vs σ ρ ++ st))) := by
                        have := lay_ok r5 l.symm l.symm h9.unlk
                        exact this.perm List.perm_middle.symm
                      refine ⟨_, acc2, ?_, h10.next l3, e1⟩
                      rw [← h10.len, l3, hlσ]
                  · rw [if_neg hl] at eI
                    cases eI
  · rintro H1 ⟨ρ2, acc, l2, h1, e1⟩
    rw [List.drop_length] at e1
    have e1' : Res.ok acc ρ2 = Res.ok acc' ρ1 := e1
    cases e1'
    refine k H1 ?_
    have h2 := h1.out h
    have h3 : Hs G N H1 σ (clr vs ρ1) (pulled vs σ ρ ++ ((some (.ref Dl), .ls acc') :: (src ++ st))) := by
      refine h2.perm ?_
      have e3 : (src ++ ((some (V.ref Dl), S.ls acc') :: (pulled vs σ ρ ++ st))).Perm ((some (V.ref Dl), S.ls acc') :: (pulled vs σ ρ ++ (src ++ st))) := by
        refine List.perm_middle.trans (List.Perm.cons _ ?_)
        rw [← List.append_assoc, ← List.append_assoc]
        exact List.perm_append_comm.append_right st
      exact e3.trans List.perm_middle.symm
    have h4 := h3.puts vs (by rw [clr_len, l2]) hv
    exact h4.lsN
theorem mComp2_core {scope : Scope} {vs vs1 : List Nat} {tg tg1 elt : Expr} {ifs ifs1 es1 : List Expr} {t t1 : Tg} {c c1 : M Bool} {f : M S} {as1 : List Arg} {r1 : List V → Hp → (It → Hp → Prop) → Prop} {io1 : List S → Option (List D)} {es : List Expr} {as : List Arg} {r : List V → Hp → (It → Hp → Prop) → Prop} {io : List S → Option (List D)} {Q : VK} (P : Parts2 G X scope vs vs1 tg ifs es1 tg1 ifs1 elt t c as1 t1 c1 f) (hi1 : ItS G r1 io1) (ha : AX G N X W es as) (hi : ItS G r io)
    (hv : ∀ v ∈ vs, v < X.N.length) (hN : X.N.length = σ.length) (h : Hs G N H σ ρ st) (p : pst G N W σ st (fun s ρ' => ∀ v H', Hs G N H' σ ρ' ((some v, s) :: st) → Q v H') (mComp2 vs as io t c (compI vs1 as1 io1 t1 c1 f) ρ)) :
    tLc2 (fun σ H R => sAs X es σ H fun vs H1 => r vs H1 R) (gAll X scope tg) (tAllT X scope ifs) (sAllA X scope es1 r1) (gAll X scope tg1) (tAllT X scope ifs1) (tAllE X scope elt) vs vs1 σ H Q := by
  refine ha.bind h p fun avs ρ1 vs2 H1 r1 h1 p1 => ?_
  cases eg : grab ρ1 avs with
  | none =>
    rw [eg] at p1
    exact p1.elim
  | some q =>
    obtain ⟨xs, ρ2⟩ := q
    rw [eg] at p1
    simp only at p1
    obtain ⟨l, h2⟩ := grab_ok r1 h1 eg
    cases ei : io xs with
    | none =>
      rw [ei] at p1
      exact p1.elim
    | some items =>
      rw [ei] at p1
      simp only at p1
      by_cases hl : items.length ≤ 100000
      · rw [if_pos hl] at p1
        cases ec : compL2 vs t c (compI vs1 as1 io1 t1 c1 f) items [] ρ2 with
        | exc a b r =>
          rw [ec] at p1
          exact p1.elim
        | stuck =>
          rw [ec] at p1
          exact p1.elim
        | ok acc ρ3 =>
          rw [ec] at p1
          refine hi N σ ρ2 st H1 vs2 xs items _ l h2 ei fun J H2 L0 ok h3 => ?_
          intro Dl hD
          refine compL2_run (N := N.lk L0) P hi1 ok (fun v hm => by rw [← h3.len, ← hN]; exact hv v hm) h3 ec hD fun H4 h4 => ?_
          refine p1 _ H4 ?_
          have h5 : Hs G N H4 σ (rst vs ρ2 (clr vs ρ3)) (zs vs2 xs ++ ((some (.ref Dl), lsN acc) :: st)) := h4.unlk.perm List.perm_middle.symm
          exact lay_ok r1 l.symm l.symm h5
      · rw [if_neg hl] at p1
        exact p1.elim
theorem ex_lc2 {scope : Scope} {own : List (Str × Nat)} {vs1 : List Nat} {tg iter tg1 iter1 elt : Expr} {ifs ifs1 es1 : List Expr} {t t1 : Tg} {c c1 : M Bool} {f : M S} {as1 : List Arg} {r1 : List V → Hp → (It → Hp → Prop) → Prop} {io1 : List S → Option (List D)} {es : List Expr} {as : List Arg} {r : List V → Hp → (It → Hp → Prop) → Prop} {io : List S → Option (List D)} {pos : Pos} (hc : X.calm = true) (hN : X.N.Nodup)
    (hr : PI X tg iter (fun σ H R => sAs X es σ H fun vs H1 => r vs H1 R)) (ok : BlkOk X.N X.env.scope scope own) (hr1 : BlkA X scope fun X' => PI X' tg1 iter1 (fun σ H R => sAs X' es1 σ H fun vs H1 => r1 vs H1 R)) (hv1 : ∀ i ∈ vs1, i ∈ own.map (·.2)) (P : Parts2 G X scope (own.map (·.2)) vs1 tg ifs es1 tg1 ifs1 elt t c as1 t1 c1 f) (ha : AX G N X W es as) (hi : ItS G r io) (hi1 : ItS G r1 io1) (hl : ifs.length ≤ 1 := by decide) (hl1 : ifs1.length ≤ 1 := by decide)
    (hs : ∀ x, foldedSetIterable iter X.env x = pure x := by intro _; rfl) (hs1 : ∀ env x, foldedSetIterable iter1 env x = pure x := by intro _ _; rfl) : EX G N X W (.ListComp elt [⟨tg, iter, ifs, 0⟩, ⟨tg1, iter1, ifs1, 0⟩] scope pos) (mComp2 (own.map (·.2)) as io t c (compI vs1 as1 io1 t1 c1 f)) := fun σ ρ st H Q h p => by
  refine sE_len fun hn => ?_
  refine sE_of (pe_lc2 (own := own) (wi1 := sAllA X scope es1 r1) hc hN hr ok hv1 gAll_ok (tAllT_ok hl) (fun s H0 C cl fp => ⟨fun pins s' σ' H' R I q => (hr1 s H0 C cl fp).run pins s' σ' H' R I (q s H0 C cl fp)⟩) gAll_ok (tAllT_ok hl1) tAllE_ok hs hs1) ?_
  refine mComp2_core P hi1 ha hi (fun v hv => ?_) hn h p
  obtain ⟨q, hq, e⟩ := List.mem_map.mp hv
  have := ok.ix q hq
  rw [e] at this
  exact (List.getElem?_eq_some_iff.mp this).1
theorem sx_setLc2 {scope : Scope} {own : List (Str × Nat)} {vs1 : List Nat} {tg iter tg1 iter1 elt : Expr} {ifs ifs1 es1 : List Expr} {t t1 : Tg} {c c1 : M Bool} {f : M S} {as1 : List Arg} {r1 : List V → Hp → (It → Hp → Prop) → Prop} {io1 : List S → Option (List D)} {es : List Expr} {as : List Arg} {r : List V → Hp → (It → Hp → Prop) → Prop} {io : List S → Option (List D)} {pos spos py : Pos} {y : Str} (i : Nat) (hc : X.calm = true) (hN : X.N.Nodup) (hj : i ∉ N.J)
    (hr : PI X tg iter (fun σ H R => sAs X es σ H fun vs H1 => r vs H1 R)) (ok : BlkOk X.N X.env.scope scope own) (hr1 : BlkA X scope fun X' => PI X' tg1 iter1 (fun σ H R => sAs X' es1 σ H fun vs H1 => r1 vs H1 R)) (hv1 : ∀ i ∈ vs1, i ∈ own.map (·.2)) (P : Parts2 G X scope (own.map (·.2)) vs1 tg ifs es1 tg1 ifs1 elt t c as1 t1 c1 f) (ha : AX G N X W es as) (hi : ItS G r io) (hi1 : ItS G r1 io1)
    (hsw : swapsWith (.ListComp elt [⟨tg, iter, ifs, 0⟩, ⟨tg1, iter1, ifs1, 0⟩] scope pos) (some (.Name y py)) spos.line X.env = pure true) (hy : X.N[i]? = some y := by rfl) (hyl : X.env.scope.names.lookup y = some .local := by rfl) (hl : ifs.length ≤ 1 := by decide) (hl1 : ifs1.length ≤ 1 := by decide)
    (hs : ∀ x, foldedSetIterable iter X.env x = pure x := by intro _; rfl) (hs1 : ∀ env x, foldedSetIterable iter1 env x = pure x := by intro _ _; rfl) : SX G N X W (.Assign [.Name y py] (.ListComp elt [⟨tg, iter, ifs, 0⟩, ⟨tg1, iter1, ifs1, 0⟩] scope pos) spos) (bAsg i (mComp2 (own.map (·.2)) as io t c (compI vs1 as1 io1 t1 c1 f))) := fun σ ρ st H D h p => by
  have key : ∀ hn : X.N.length = σ.length, tAsg (tLc2 (fun σ H R => sAs X es σ H fun vs H1 => r vs H1 R) (gAll X scope tg) (tAllT X scope ifs) (sAllA X scope es1 r1) (gAll X scope tg1) (tAllT X scope ifs1) (tAllE X scope elt) (own.map (·.2)) vs1) (gName i) D σ H := fun hn => by
    refine mComp2_core (W := W) (st := st) P hi1 ha hi (fun v hv => ?_) hn h ?_
    · obtain ⟨q, hq, e⟩ := List.mem_map.mp hv
      have := ok.ix q hq
      rw [e] at this
      exact (List.getElem?_eq_some_iff.mp this).1
    · unfold bAsg at p
      cases hf : mComp2 (own.map (·.2)) as io t c (compI vs1 as1 io1 t1 c1 f) ρ with
      | exc a b r =>
        rw [bdo_exc hf] at p
        exact fun cls d H' x h' => p cls d σ H' x h'
      | stuck =>
        rw [bdo_stuck hf] at p
        exact p
      | ok s ρ1 =>
        rw [bdo_ok hf] at p
        intro v H1 h1
        unfold bset at p
        split at p
        · rename_i hlt
          exact p _ H1 (h1.assign hlt hj)
        · exact p.elim
  intro pins sh I
  exact (ps_setLc2 (own := own) (wi1 := sAllA X scope es1 r1) hc hN hy hyl hsw hr ok hv1 gAll_ok (tAllT_ok hl) (fun s H0 C cl fp => ⟨fun pins s' σ' H' R I q => (hr1 s H0 C cl fp).run pins s' σ' H' R I (q s H0 C cl fp)⟩) gAll_ok (tAllT_ok hl1) tAllE_ok hs hs1).run pins sh σ H D I (key I.len.symm)
/-! ### a = b = x -/
end
end DL
/-! the data layer: sorted(d.items()), plain and by a key -/
namespace DL
open PySem PySem.Spec PyProof.Rows L2 PySem.W
open LiI (putT putT_off putT_at paired_ix)
end DL
/-! the data layer: {k: v, ..} of more pairs, tuple(reversed(xs)), a = b = x -/
namespace DL
open PySem PySem.Spec PyProof.Rows L2 PySem.W
section
variable {G : Gx} {N : Pn} {X : Cx} {W : WX} {H H' : Hp} {σ : L2.St} {ρ : List S} {st : Stk} {e : Expr} {f : M S} {as : List Arg} {pos : Pos}
/-! ### {k: v, ..} -/
def flatV : List (V × V) → List V
  | [] => []
  | p :: r => p.1 :: p.2 :: flatV r
theorem tPairs.mono : ∀ {trs : List (Expr × Expr)} {H : Hp} {Q R : List (V × V) → Hp → Prop}, tPairs (trs.map fun p => (sE X p.1, sE X p.2)) σ H Q → (∀ ps H, Q ps H → R ps H) → tPairs (trs.map fun p => (sE X p.1, sE X p.2)) σ H R
  | [], _, _, _, h, k => k _ _ h
  | _ :: r, _, _, _, h, k => sE.mono h fun x H1 h1 => sE.mono h1 fun y H2 h2 => tPairs.mono (trs := r) h2 fun ps H3 h3 => k _ _ h3
/-! ### tuple(reversed(xs)) -/
/-! ### a = b = x -/
end
end DL
/-! chains of three comparisons -/
namespace DL
open PySem PySem.Spec PyProof.Rows L2
end DL
/-! the data layer: enumerate of a tuple -/
namespace PySem
open Sem (wp)
end PySem
namespace L2
open PySem PySem.Spec PyProof.Rows
end L2
namespace DL
open PySem PySem.Spec PyProof.Rows L2
end DL
/-! x in what is walked: the rule by iteration, for a dict's values -/
namespace PySem
open Sem (wp)
end PySem
/-! the data layer: constants of the module that are tuples of texts; x in d.values(); list(d.values()), list(d.items()); texts joined -/
namespace DL
open PySem PySem.Spec PyProof.Rows L2 PySem.W
open LiI (putT putT_off putT_at paired_ix)
/-! ### constants -/
/-! ### x in d.values() -/
end DL
/-! the data layer: list(d.values()), list(d.items()); texts joined by + -/
namespace DL
open PySem PySem.Spec PyProof.Rows L2 PySem.W
open LiI (putT putT_off putT_at paired_ix)
/-! ### list(d.values()) -/
/-! ### list(d.items()) -/
end DL
namespace DL
open PySem PySem.Spec PyProof.Rows L2 PySem.W
/-! ### tests by one operation -/
end DL
/-! the data layer: displays of constants, wrapped (the elaborator else reckons them through) -/
namespace DL
open PySem PySem.Spec PyProof.Rows L2 PySem.W
end DL
/-! the data layer: an object is frozen while an expression or a statement runs; a dict that it holds is locked -/
namespace DL
open PySem PySem.Spec PyProof.Rows L2
section
variable {G : Gx} {N : Pn} {X : Cx} {W : WX} {H H' : Hp} {σ : L2.St} {ρ ρ' : List S} {st st' : Stk} {e o : Expr} {es : List Expr} {f : M S} {g : B} {as : List Arg} {En : Ends}
/-! ### a field taken out, laid back -/
theorem RFl.take {F : Hp} : ∀ {xs : List S} {os : List (Option V)} {fp : List Addr} {k : Nat} {s : S}, RFl G F H xs os fp → xs[k]? = some s → ∃ o fq fr, os[k]? = some o ∧ RF G F H s o fq ∧ RFl G F H (xs.set k .gone) os fr ∧ fp.Perm (fq ++ fr)
  | [], _, _, _, _, _, h => by simp at h
  | x :: xs, _, _, 0, s, ⟨o, os', a, b, e1, e2, q1, q2⟩, h => by
    cases h
    subst e1 e2
    exact ⟨o, a, b, rfl, q1, ⟨o, os', [], b, rfl, rfl, rfl, q2⟩, .refl _⟩
  | x :: xs, _, _, k + 1, s, ⟨o, os', a, b, e1, e2, q1, q2⟩, h => by
    subst e1 e2
    obtain ⟨o2, fq, fr, h1, h2, h3, h4⟩ := RFl.take q2 (by simpa using h)
    refine ⟨o2, fq, a ++ fr, by simpa using h1, h2, ⟨o, os', a, fr, rfl, rfl, q1, h3⟩, ?_⟩
    refine (h4.append_left a).trans ?_
    rw [← List.append_assoc, ← List.append_assoc]
    exact List.perm_append_comm.append_right fr
theorem RFl.back {F : Hp} : ∀ {xs : List S} {os : List (Option V)} {fp fq : List Addr} {k : Nat} {s : S} {o : Option V}, RFl G F H xs os fp → xs[k]? = some .gone → os[k]? = some o → RF G F H s o fq → ∃ fr, RFl G F H (xs.set k s) os fr ∧ fr.Perm (fq ++ fp)
  | [], _, _, _, _, _, _, _, h, _, _ => by simp at h
  | x :: xs, _, _, fq, 0, s, o, ⟨o', os', a, b, e1, e2, q1, q2⟩, h, ho, q => by
    cases h
    subst e1 e2
    cases ho
    have q1' : a = [] := q1
    subst q1'
    exact ⟨fq ++ b, ⟨_, os', fq, b, rfl, rfl, q, q2⟩, .refl _⟩
  | x :: xs, _, _, fq, k + 1, s, o, ⟨o', os', a, b, e1, e2, q1, q2⟩, h, ho, q => by
    subst e1 e2
    obtain ⟨fr, h1, h2⟩ := RFl.back (k := k) q2 (by simpa using h) (by simpa using ho) q
    refine ⟨a ++ fr, ⟨o', os', a, fr, rfl, rfl, q1, h1⟩, ?_⟩
    refine (h2.append_left a).trans ?_
    rw [← List.append_assoc, ← List.append_assoc]
    exact List.perm_append_comm.append_right b
theorem zip_inj {ns ms : List Str} {xs ys : List V} (h1 : xs.length ≤ ns.length) (h2 : ys.length ≤ ms.length) (h : ns.zip xs = ms.zip ys) : xs = ys := by
  have := congrArg (List.map Prod.snd) h
  rw [List.map_snd_zip h1, List.map_snd_zip h2] at this
  exact this
/-- .. and laid back -/
theorem Hs.putF {a : Addr} {ob : Obj} {dx : Addr} {vs : List V} {v : V} {c k : Nat} {fs : List S} {s : S} (h : Hs G N H σ ρ ((some v, s) :: (some (.ref a), .fo c fs) :: st)) (e : fs[k]? = some .gone) (eH : H a = some (.frz ob (.ins (G.cl c) dx ((G.fn c).zip vs)))) (lf : vs.length ≤ (G.fn c).length) (ev : vs[k]? = some v) :
    Hs G N H σ ρ ((some (.ref a), .fo c (fs.set k s)) :: st) := by
  obtain ⟨F, fp, sb, ⟨y1, y2, ef, q1, x1, x2, ef2, ⟨a', ob', dx', vs', r, eo, er, eH', eF, lf', q⟩, q2⟩, n⟩ := h.ex
  subst er ef2 ef
  cases eo
  rw [eH] at eH'
  have z := HO.ins.inj (HO.frz.inj (Option.some.inj eH')).2
  have z1 := (HO.frz.inj (Option.some.inj eH')).1
  have evs : vs = vs' := zip_inj lf lf' z.2.2
  subst evs
  obtain ⟨fr, h1, h2⟩ := RFl.back (o := some v) q e (by rw [List.getElem?_map, ev]; rfl) q1
  refine ⟨h.len, ⟨F, (a :: fr) ++ x2, sb, ⟨a :: fr, x2, rfl, ⟨a, ob', dx', vs, fr, rfl, rfl, by rw [eH, eH'], eF, lf, h1⟩, q2⟩, ?_⟩, h.tb, h.pin⟩
  have p1 : ((a :: fr) ++ x2).Perm (y1 ++ ((a :: r) ++ x2)) := by
    rw [← List.append_assoc]
    refine List.Perm.append_right x2 ?_
    exact (h2.cons a).trans List.perm_middle.symm
  exact (p1.nodup_iff).mpr n
/-! ### a cell is frozen, and thawed -/
end
end DL
/-! the data layer: the wrappers: an object frozen, a dict in it locked, while an expression or a statement runs -/
namespace DL
open PySem PySem.Spec PyProof.Rows L2
/-- the object in slot i -/
def thwO (i : Nat) (ρ : List S) : Option (List S) := match ρ[i]? with
  | some (.fo c fs) => some (ρ.set i (.o c fs))
  | _ => none
/-- the dict in the k-th field of the frozen object in slot i -/
def thwD (i k : Nat) (ρ : List S) : Option (List S) := match ρ[i]? with
  | some (.fo c fs) => match fs[k]? with
    | some (.w ks vs) => some (ρ.set i (.fo c (fs.set k (.m ks vs))))
    | _ => none
  | _ => none
def thwR {α : Type} (th : List S → Option (List S)) : Res α → Res α
  | .ok a ρ => match th ρ with
    | some ρ' => .ok a ρ'
    | none => .stuck
  | _ => .stuck
def thwF (th : List S → Option (List S)) : Fl → Fl
  | .nx ρ => match th ρ with
    | some ρ' => .nx ρ'
    | none => .stuck
  | .rt s ρ => match th ρ with
    | some ρ' => .rt s ρ'
    | none => .stuck
  | .bk ρ => match th ρ with
    | some ρ' => .bk ρ'
    | none => .stuck
  | .ct ρ => match th ρ with
    | some ρ' => .ct ρ'
    | none => .stuck
  | _ => .stuck
def mLkO {α : Type} (i : Nat) (f : M α) : M α := fun ρ => match ρ[i]? with
  | some (.fo _ _) => f ρ
  | some (.o c fs) => thwR (thwO i) (f (ρ.set i (.fo c fs)))
  | _ => .stuck
def bLkO (i : Nat) (g : B) : B := fun ρ => match ρ[i]? with
  | some (.fo _ _) => g ρ
  | some (.o c fs) => thwF (thwO i) (g (ρ.set i (.fo c fs)))
  | _ => .stuck
def bLkD (i k : Nat) (g : B) : B := fun ρ => match ρ[i]? with
  | some (.fo c fs) => match fs[k]? with
    | some (.w _ _) => g ρ
    | some (.m ks vs) => thwF (thwD i k) (g (ρ.set i (.fo c (fs.set k (.w ks vs)))))
    | _ => .stuck
  | _ => .stuck
section
variable {G : Gx} {N : Pn} {X : Cx} {W : WX} {H H' : Hp} {σ : L2.St} {ρ ρ' : List S} {st st' : Stk} {e o : Expr} {es : List Expr} {f : M S} {t : M Bool} {g : B} {as : List Arg} {En : Ends} {s : Stmt}
theorem Hs.pinned {i : Nat} {o : Option V} {σ' : L2.St} {ρ1 : List S} {st1 : Stk} (h : Hs G N H σ ρ st) (eo : σ[i]? = some o) (hj : i ∈ N.J) (h' : Hs G N H' σ' ρ1 st1) : σ'[i]? = some o := by
  rw [h'.pin i hj, ← h.pin i hj, eo]
end
end DL
/-! the data layer: operations on a field of a frozen object -/
namespace DL
open PySem PySem.Spec PyProof.Rows L2
def opF (n c k : Nat) (op : List S → ORes) : List S → ORes := fun xs => match xs[n]? with
  | some (.fo c' fs) => if c' = c then (match fs[k]? with
    | some s => (match op (xs.set n s) with
      | .ok z outs => (match outs[n]? with
        | some s' => .ok z (outs.set n (.fo c (fs.set k s')))
        | none => .stuck)
      | _ => .stuck)
    | none => .stuck) else .stuck
  | _ => .stuck
def mOpF (op : List S → ORes) (as1 : List Arg) (i c k : Nat) (as2 : List Arg) : M S := mbind (mArgs as1) fun av1 ρ => match ρ[i]? with
  | some (.fo c' fs) => if c' = c ∧ k < fs.length then mbind (mArgs as2) (fun av2 => mFin (opF av1.length c k op) (av1 ++ .n i :: av2)) ρ else .stuck
  | _ => .stuck
section
variable {G : Gx} {N : Pn} {X : Cx} {W : WX} {H H' : Hp} {σ : L2.St} {ρ ρ' : List S} {st st' : Stk} {e o : Expr} {es es1 es2 : List Expr} {f : M S} {t : M Bool} {g : B} {as as1 as2 : List Arg} {En : Ends} {s : Stmt} {r : L2.St → List V → Hp → VK → Prop} {op : List S → ORes}
theorem AVR.len : ∀ {av : List AV} {vs : List V}, AVR σ av vs → vs.length = av.length
  | [], _, h => by
    have e : _ = [] := h
    subst e
    rfl
  | .s x :: av, _, ⟨v, r, e, h⟩ => by subst e; simp [h.len]
  | .n i :: av, _, ⟨v, r, e, _, h⟩ => by subst e; simp [h.len]
variable {a : Expr} {x y : Str} {p1 p2 pos : Pos}
/-! ### tests -/
/-! ### stores -/
/-! ### del -/
end
end DL
/-! the data layer: walks of a locked dict in a frozen object's field -/
namespace DL
open PySem PySem.Spec PyProof.Rows L2 PySem.W
end DL
/-! the data layer: sum of a generator expression over a locked dict in a frozen object's field -/
namespace DL
open PySem PySem.Spec PyProof.Rows L2 PySem.W
end DL
/-! the data layer: min(xs, key=lambda x: ..), max(xs, key=lambda x: ..); the lambda may have names of its own (a comprehension's) -/
namespace DL
open PySem PySem.Spec PyProof.Rows L2 PySem.W
/-! ### the keys, the best -/
end DL
/-! a dict against a text -/
namespace DL
open PySem PySem.Spec PyProof.Rows PySem.SeqAt
end DL
/-! the data layer: a dict or a text against a text; t.count(x) -/
namespace DL
open PySem PySem.Spec PyProof.Rows L2 PySem.W
end DL
/-! the data layer: tuples whose object is known -/
namespace DL
open PySem PySem.Spec PyProof.Rows L2 PySem.W HT
section
variable {X : Cx} {G : Gx} {N : Pn} {W : WX} {H : Hp} {s : Shared} {pins : List (Addr × Obj)} {σ : L2.St} {ρ : List S} {st : Stk} {o e : Expr} {es : List Expr} {as : List Arg} {pos : Pos}
theorem Hs.newK {vs : List V} {xs : List D} {p : Addr} {ob : Obj} (h : Hs G N H σ ρ (zs vs (xs.map .d) ++ st)) (l : vs.length = xs.length) (hp : H p = none) (hd : ob.dict = none) : Hs G N (upd H p (.frz ob (.tup vs))) σ ρ ((some (.ref p), .d (.kt xs)) :: st) := by
  obtain ⟨F, fp, sb, r, n⟩ := h.ex
  rw [List.append_assoc] at r
  obtain ⟨a, b, e, r1, r2⟩ := (RL.app _ _ _).mp r
  obtain ⟨ea, q⟩ := (RL.ds l).mp r1
  subst ea e
  have g : Grow G N H (upd H p (.frz ob (.tup vs))) := Grow.upd h.tb hp
  have sg := sb.grow g.1
  have hF : F p = none := sb.none hp
  have le : Le F (upd F p (.frz ob (.tup vs))) := fun x o ex => by
    rw [upd_ne fun z => by rw [z, hF] at ex; cases ex]
    exact ex
  refine ⟨h.len, ⟨upd F p (.frz ob (.tup vs)), fp, fun x o ex => ?_, ⟨[], fp, rfl, ⟨rfl, .ref p, rfl, p, ob, vs, rfl, ⟨upd_same, hd⟩, RDs.le le _ _ q⟩, RL.keep le _ fp r2 fun x hx => ?_⟩, n⟩, g.2, h.pin⟩
  · by_cases hx : x = p
    · subst hx
      rw [upd_same] at ex
      cases ex
      exact And.intro (fun _ z => nomatch z) (.inl upd_same)
    · rw [upd_ne hx] at ex
      exact sg x o ex
  · have hne : x ≠ p := fun z => fp_ne r2 hp (by rw [← z]; exact hx)
    have k := own_grow r2 g.1 x hx
    exact ⟨k.1, by rw [upd_ne hne]; exact k.2⟩
/-! ### a tuple, written -/
/-! ### t + u -/
/-! ### x in t -/
/-! ### t.m(x) -/
/-! ### t.count(x) -/
/-! ### t.index(x), ints -/
end
end DL
/-! the data layer: == of data with known tuples -/
namespace DL
open PySem PySem.Spec PyProof.Rows L2 PySem.W
end DL
/-! the data layer: a tuple of one thing, times an int; max(x, default=n); the best key of a dict by a key -/
namespace DL
open PySem PySem.Spec PyProof.Rows L2 PySem.W
/-! ### a tuple of one thing, times an int -/
end DL
/-! the data layer: a dict in a slot, locked for one expression; min and max of it by a key -/
namespace DL
open PySem PySem.Spec PyProof.Rows L2 PySem.W
end DL
/-! the data layer: x, a[i] = u, v -/
namespace DL
open PySem PySem.Spec PyProof.Rows L2 PySem.W
section
variable {G : Gx} {N : Pn} {X : Cx} {W : WX} {H H' : Hp} {σ : L2.St} {ρ : List S} {st : Stk} {es tgs : List Expr} {as : List Arg} {pos : Pos} {En : Ends}
/-- what is stored: into a place of something, to a target -/
inductive PT where
  | sub (g : List S → ORes) (as : List Arg)
  | tg (t : Tg)
end
end DL
/-! the data layer: min and max by a key of a locked dict that the key reads too -/
namespace DL
open PySem PySem.Spec PyProof.Rows L2 PySem.W
end DL
/-! the data layer: sorted by a key that reads the dict itself -/
namespace DL
open PySem PySem.Spec PyProof.Rows L2 PySem.W
end DL
/-! the data layer: texts: times an int, split, join, count, a sign in a text, int(text), slices -/
namespace DL
open PySem PySem.Spec PyProof.Rows L2 PySem.W
section
variable {G : Gx} {N : Pn} {X : Cx} {W : WX}
/-! ### a text times an int -/
def repS (x : Str) (n : Int) : Str := ⟨(List.replicate n.toNat x.cps).foldl (· ++ ·) #[]⟩
theorem foldl_size (a : Array Nat) : ∀ (n : Nat) (acc : Array Nat), ((List.replicate n a).foldl (· ++ ·) acc).size = acc.size + n * a.size
  | 0, acc => by simp
  | n + 1, acc => by
    rw [List.replicate_succ, List.foldl_cons, foldl_size a n, Array.size_append, Nat.succ_mul]
    omega
theorem foldl_nil : ∀ (n : Nat), (List.replicate n (#[] : Array Nat)).foldl (· ++ ·) #[] = #[]
  | 0 => rfl
  | n + 1 => by
    rw [List.replicate_succ, List.foldl_cons]
    exact foldl_nil n
def rRepS : R2 := fun x y H Q => ∃ a n, x = .str a ∧ y = .int n ∧ -100000 ≤ n ∧ n ≤ 1000 ∧ a.length ≤ 100 ∧ Q (.str (repS a n)) H
theorem op_repS : OpR X (binaryOp .Mult) rRepS := by
  intro pins s σ H x y v u Q I rx ry h
  obtain ⟨a, n, rfl, rfl, h1, h2, h3, q⟩ := h
  obtain ⟨t, rfl⟩ := rx
  obtain ⟨t', rfl⟩ := ry
  have hl : a.length * n.toNat ≤ 100000 := Nat.le_trans (Nat.mul_le_mul h3 (show n.toNat ≤ 1000 by omega)) (by omega)
  refine PySem.P.mul_str (by simp only [Bool.or_eq_false_iff, decide_eq_false_iff_not]; omega) (fun g1 _ => ?_) (fun _ _ => ?_) ?_
  · intro z
    have : (a.length : Int) ≤ (2 ^ 63 - 1) / n := by
      have h4 : (a.length : Int) * n ≤ 2 ^ 63 - 1 := by
        have h5 : (a.length : Int) * n ≤ 100 * 1000 := Int.mul_le_mul (by omega) (by omega) (by omega) (by omega)
        omega
      exact Int.le_ediv_of_mul_le (by omega) h4
    omega
  · unfold PySem.Builtin.Str.tooLong
    exact decide_eq_false (by
      have : (100000 : Nat) < sizeLine := by decide
      omega)
  · by_cases g1 : n < 1
    · rw [if_pos g1]
      have e : repS a n = Str.empty := by
        unfold repS
        rw [show n.toNat = 0 by omega]
        rfl
      rw [e] at q
      exact ⟨by decide, .str _, H, I.tok _, ⟨_, rfl⟩, q⟩
    · rw [if_neg g1]
      by_cases g2 : (n == 1 || a.length == 0) = true
      · rw [if_pos g2]
        have e : repS a n = a := by
          unfold repS
          rw [Bool.or_eq_true] at g2
          rcases g2 with g2 | g2
          · rw [eq_of_beq g2]
            show Str.mk (#[] ++ a.cps) = a
            rw [Array.empty_append]
          · have e0 : a.cps = #[] := Array.eq_empty_of_size_eq_zero (eq_of_beq g2)
            rw [e0, foldl_nil, ← e0]
        rw [e] at q
        exact ⟨.str _, H, I, ⟨t, rfl⟩, q⟩
      · rw [if_neg g2]
        refine ⟨?_, .str _, H, I.tok _, ⟨_, rfl⟩, q⟩
        show ((List.replicate n.toNat a.cps).foldl (· ++ ·) #[]).size ≤ sizeLine
        rw [foldl_size]
        have : (100000 : Nat) ≤ sizeLine := by decide
        have e : a.cps.size = a.length := rfl
        rw [e, Nat.mul_comm]
        simp
        omega
def opRepS : List S → ORes
  | [.d (.str a), .d (.int n)] => if -100000 ≤ n ∧ n ≤ 1000 ∧ a.length ≤ 100 then .ok (.d (.str (repS a n))) [.d (.str a), .d (.int n)] else .stuck
  | _ => .stuck
theorem os_repS : OpS G N W (r2L rRepS) opRepS := fun σ ρ st H vs xs Q l h p => by
  match xs, p, h, l with
  | [.d (.str a), .d (.int n)], p, h, l =>
    unfold opRepS at p
    simp only at p
    by_cases hb : -100000 ≤ n ∧ n ≤ 1000 ∧ a.length ≤ 100
    · rw [if_pos hb] at p
      obtain ⟨v, w, ev, h1, h2⟩ := two l h
      subst ev
      have e1 := h1.str
      have e2 := h2.int
      subst e1 e2
      exact ⟨a, n, rfl, rfl, hb.1, hb.2.1, hb.2.2, p.2 _ H (h.new fun _ => rfl)⟩
    · rw [if_neg hb] at p
      exact p.elim
/-! ### split -/
def rSplit : V → List V → Hp → VK → Prop := fun x xs H Q => ∃ a b, x = .str a ∧ xs = [.str b] ∧ (b.length == 0) = false ∧ a.length + 2 ≤ sizeLine ∧ rNewStrs (Txt.split a b) H Q
def opSplit : List S → ORes
  | [.d (.str a), .d (.str b)] => if (b.length == 0) = false ∧ a.length ≤ 100000 then .ok (.l ((Txt.split a b).map .str)) [.d (.str a), .d (.str b)] else .stuck
  | _ => .stuck
theorem os_split : OpS G N W (rBm rSplit) opSplit := fun σ ρ st H vs xs Q l h p => by
  match xs, p, h, l with
  | [.d (.str a), .d (.str b)], p, h, l =>
    unfold opSplit at p
    simp only at p
    by_cases hb : (b.length == 0) = false ∧ a.length ≤ 100000
    · rw [if_pos hb] at p
      obtain ⟨v, w, ev, h1, h2⟩ := two l h
      subst ev
      have e1 := h1.str
      have e2 := h2.str
      subst e1 e2
      exact ⟨a, b, rfl, rfl, hb.1, Nat.le_trans (Nat.add_le_add_right hb.2 2) (by decide), fun q hq => p.2 _ _ (h.newF (fun F => rds_strs _) hq)⟩
    · rw [if_neg hb] at p
      exact p.elim
/-! ### join -/
/-! ### count -/
/-! ### int(text) -/
/-! ### a sign in a text -/
/-! ### slices of texts -/
end
end DL
/-! the data layer: tuple(xs) and slices of tuples whose object is known -/
namespace DL
open PySem PySem.Spec PyProof.Rows L2 PySem.W HT
section
variable {X : Cx} {G : Gx} {N : Pn} {W : WX}
def rTupleK (K : PySem.W.Frag) : List V → Hp → VK → Prop := fun xs H Q => ∃ p ys, xs = [.ref p] ∧ ((SqL K H p ys ∧ ∀ l ob, H l = none → ob.dict = none → Q (.ref l) (upd H l (.frz ob (.tup ys)))) ∨ (SqT K H p ys ∧ Q (.ref p) H))
theorem call_tupleK : CallR X (.type "tuple") (rTupleK X.K) := by
  intro pins s σ H xs us Q I r h
  obtain ⟨p, ys, rfl, h⟩ := h
  obtain ⟨u, rfl, rx⟩ := vals1 r
  cases rx
  rcases h with ⟨hq, q⟩ | ⟨hq, q⟩
  · obtain ⟨its, r', pl, hz⟩ := I.list hq
    have hlen := r'.length
    refine call_tuple_list pl.isList (fun h' kp => ?_) (by simp only [List.size_toArray] <;> omega)
    have I1 : Inv X pins σ H { s with heap := h' } := I.kept (t' := s.toks) kp
    exact ⟨.ref h'.objs.size, upd H h'.objs.size (.frz { cls := .type "tuple", data := .seq its.toArray } (.tup ys)), I1.laid (t' := s.toks) (fun b o e => Heap.get?_push_of_some _ e) (Nat.le_refl _) ⟨Heap.get?_push_size _ rfl, hz, its, r', ⟨_, Heap.get?_push_size _ rfl, rfl, _, rfl⟩⟩, rfl, q _ _ (I1.hok.fresh (Nat.le_refl _)) rfl⟩
  · obtain ⟨its, r', pl, hz⟩ := I.tuple hq
    exact call_tuple_same pl ⟨.ref p, H, I, rfl, q⟩
def opTupleK : List S → ORes
  | [s] => match lstS s with
    | some xs => .ok (.d (.kt xs)) [s]
    | none => match s with
      | .d (.kt xs) => .ok (.d (.kt xs)) [.d (.kt xs)]
      | _ => .stuck
  | _ => .stuck
theorem os_tupleK : OpS G N W (rL (rTupleK G.K)) opTupleK := fun σ ρ st H vs xs Q l h p => by
  match xs, p, h, l with
  | [s], p, h, l =>
    unfold opTupleK at p
    simp only at p
    obtain ⟨v, ev, h1⟩ := one l h
    subst ev
    cases e : lstS s with
    | some xs' =>
      rw [e] at p
      obtain ⟨a, ws, e1, sq, l3, h4⟩ := h1.itemsL e
      subst e1
      exact ⟨a, ws, rfl, .inl ⟨sq, fun q ob hq hd => p.2 _ _ (h4.newK l3 hq hd)⟩⟩
    | none =>
      rw [e] at p
      simp only at p
      match s, p, h1 with
      | .d (.kt xs), p, h1 =>
        obtain ⟨a, ws, ea, sq, l3, _⟩ := h1.itemsT (xs := xs) rfl
        subst ea
        exact ⟨a, ws, rfl, .inr ⟨sq, p.2 _ _ h1.dup⟩⟩
/-! ### t[lo:hi] -/
/-! ### xs += ys -/
end
end DL
/-! the data layer: min(x, default=n); tuple(range(n)); xs.count(x) of a list -/
namespace DL
open PySem PySem.Spec PyProof.Rows L2 PySem.W
/-! ### tuple(range(n)) -/
end DL
/-! the data layer: xs[i].append(y), xs a list of lists -/
namespace DL
open PySem PySem.Spec PyProof.Rows L2 PySem.W
section
variable {G : Gx} {N : Pn} {X : Cx} {W : WX} {H H' : Hp} {σ : L2.St} {ρ ρ' : List S} {st : Stk}
theorem RFl.join {F : Hp} {s : S} {R : List S} {o : Option V} {b : List Addr} : ∀ {A : List S} {os : List (Option V)} {fp : List Addr}, RFl G F H (A ++ .gone :: R) os fp → os[A.length]? = some o → RF G F H s o b → ∃ fp', fp'.Perm (b ++ fp) ∧ RFl G F H (A ++ s :: R) os fp'
  | [], _, _, ⟨o', os', a, c, e1, e2, q1, q2⟩, e, q => by
    subst e1 e2
    have : o' = o := by simpa using e
    subst this
    have ha : a = [] := q1
    subst ha
    exact ⟨b ++ c, by simp, o', os', b, c, rfl, rfl, q, q2⟩
  | x :: A, _, _, ⟨o', os', a, c, e1, e2, q1, q2⟩, e, q => by
    subst e1 e2
    obtain ⟨fp', hp, h⟩ := RFl.join (A := A) q2 (by simpa using e) q
    refine ⟨a ++ fp', ?_, o', os', a, fp', rfl, rfl, q1, h⟩
    have p1 : (a ++ fp').Perm (a ++ (b ++ c)) := hp.append_left a
    refine p1.trans ?_
    rw [← List.append_assoc, ← List.append_assoc]
    exact List.perm_append_comm.append_right c
theorem Hs.put1 {a : Addr} {w : V} {vs : List V} {A R : List S} {s : S} (h : Hs G N H σ ρ ((some w, s) :: (some (.ref a), .ls (A ++ .gone :: R)) :: st)) (e : H a = some (.lst vs)) (ev : vs[A.length]? = some w) : Hs G N H σ ρ ((some (.ref a), .ls (A ++ s :: R)) :: st) := by
  obtain ⟨F, fp, sb, ⟨x1, x2, ef, q0, ⟨y1, y2, ef2, ⟨a', vs', r, eo, er, eH, eF, q⟩, q2⟩⟩, n⟩ := h.ex
  cases eo
  rw [e] at eH
  cases eH
  subst er ef2 ef
  obtain ⟨fp', hp, h2⟩ := RFl.join q (by rw [List.getElem?_map, ev]; rfl) q0
  refine ⟨h.len, ⟨F, (a :: fp') ++ y2, sb, ⟨a :: fp', y2, rfl, ⟨a, vs, fp', rfl, rfl, e, eF, h2⟩, q2⟩, ?_⟩, h.tb, h.pin⟩
  have pp : ((a :: fp') ++ y2).Perm (x1 ++ ((a :: r) ++ y2)) := by
    rw [← List.append_assoc]
    refine List.Perm.append_right y2 ?_
    refine (hp.cons a).trans ?_
    exact List.perm_middle.symm
  exact (pp.nodup_iff).mpr n
theorem Hs.apart {a p : Addr} {xs : List D} {ss : List S} (h : Hs G N H σ ρ ((some (.ref p), .l xs) :: (some (.ref a), .ls ss) :: st)) : a ≠ p := by
  obtain ⟨F, fp, sb, ⟨x1, x2, ef, ⟨p', us, eo1, ea1, _⟩, ⟨y1, y2, ef2, ⟨a', vs', r, eo, er, eH, eF, q⟩, q2⟩⟩, n⟩ := h.ex
  cases eo
  cases eo1
  subst er ef2 ea1 ef
  intro z
  subst z
  simp at n
def mAppIx (j : Nat) (fi : M S) (y : Nat) : M S := fun ρ => match ρ[j]? with
  | some (.ls _) => (match fi ρ with
    | .ok (.d (.int i)) ρ1 => (match ρ1[j]? with
      | some (.ls ss) => (match ixN ss.length i with
        | some k => (match ss[k]?, ρ1[y]? with
          | some (.l ys), some (.d x) => if ys.length < 100000 then .ok (.d .non) (ρ1.set j (.ls (ss.set k (.l (ys ++ [x]))))) else .stuck
          | _, _ => .stuck)
        | none => .stuck)
      | _ => .stuck)
    | _ => .stuck)
  | _ => .stuck
theorem ex_appIx (j y : Nat) {xn yn : Str} {idx : Expr} {fi : M S} {p1 p2 spos apos cpos : Pos} (hK : X.K = G.K) (hi : EX G N X W idx fi) (hsx : PlainIx idx := by exact fun _ _ => rfl)
    (hN : X.N[j]? = some xn := by rfl) (hv : Vis X.env.scope xn := by first | exact Or.inl rfl | exact Or.inr (Or.inl rfl) | exact Or.inr (Or.inr rfl)) (hd : (xn == ("__debug__" : Str)) = false := by decide) (hcd : (xn == ("__classdict__" : Str)) = false := by decide)
    (hN2 : X.N[y]? = some yn := by rfl) (hv2 : Vis X.env.scope yn := by first | exact Or.inl rfl | exact Or.inr (Or.inl rfl) | exact Or.inr (Or.inr rfl)) (hd2 : (yn == ("__debug__" : Str)) = false := by decide) (hcd2 : (yn == ("__classdict__" : Str)) = false := by decide)
    (hp : PA X [.Name yn p2] (sAs X [.Name yn p2])) (hbase : attributeBase (.Subscript (.Name xn p1) idx spos) "append" X.env (eval (.Subscript (.Name xn p1) idx spos) X.env) = eval (.Subscript (.Name xn p1) idx spos) X.env := by rfl)
    (hfew : ((backTo cpos (starEach [.Name yn p2] X.env)).all (fun x => !x.1) && (backToKw cpos (keywordEach [] X.env)).all (fun x => x.1.isSome)
      && decide (([.Name yn p2] : List Expr).length + ([] : List Keyword).length + (if ([] : List Keyword).isEmpty then 0 else 1) < 30)) = true := by rfl)
    (hline : (apos.endLine == cpos.line) = true := by rfl) (hs : starEach [.Name yn p2] X.env = (false, eval (.Name yn p2) X.env) :: starEach [] X.env := by rfl) (hplain : (backTo cpos (starEach [] X.env)).any (·.1) = false := by rfl) :
    EX G N X W (.Call (.Attribute (.Subscript (.Name xn p1) idx spos) "append" apos) [.Name yn p2] [] cpos) (mAppIx j fi y) := fun σ ρ st H Q h p => by
  unfold mAppIx at p
  split at p
  · rename_i ss0 e0
    split at p
    · rename_i i ρ1 ef
      split at p
      · rename_i ss ej
        split at p
        · rename_i k ek
          split at p
          · rename_i ys x es ey
            split at p
            · rename_i hz
              obtain ⟨v, ev⟩ := h.val e0 (by intro z; cases z)
              refine sE_of (pe_bm PySem.F.plainAttrs_list PySem.F.slot_list_append PySem.F.type_list_append mt_append pe_sem hp hbase hfew hline hs hplain) ?_
              refine sE_of (pe_ix ix_seq (pe_var hN hv hd hcd) pe_sem hsx) ⟨v, ev, ?_⟩
              refine hi σ ρ st H _ h ?_
              rw [ef]
              refine fun u H1 h1 => ?_
              have eu := h1.int
              subst eu
              have h3 := h1.drop.pull ej ev
              have hkl : k < ss.length := (List.getElem?_eq_some_iff.mp es).1
              have esp : ss = ss.take k ++ .l ys :: ss.drop (k + 1) := by
                have e1 : ss[k] = .l ys := (List.getElem?_eq_some_iff.mp es).2
                conv => lhs; rw [← List.take_append_drop k ss, List.drop_eq_getElem_cons hkl, e1]
              rw [esp] at h3
              obtain ⟨a, vs, ea, eH, lv, w, ew, h4⟩ := h3.take1
              cases ea
              have lk : (ss.take k).length = k := by rw [List.length_take]; omega
              rw [lk] at ew lv
              have lvs : vs.length = ss.length := by rw [lv, List.length_drop]; omega
              refine .inl ⟨a, vs, i, w, rfl, rfl, .of eH, ?_, ?_, ?_⟩
              · unfold atI
                rw [lvs, ek]
                exact ew
              · have h4t := h4.ty (T := "list") rfl
                obtain ⟨w', ew', t⟩ := h4t
                cases ew'
                rw [hK]
                exact t
              · have hjy : j ≠ y := fun z => by
                  subst z
                  rw [ej] at ey
                  cases ey
                obtain ⟨vy, evy, h5⟩ := h4.copy (i := y) (x := x) (by rw [List.getElem?_set_ne hjy]; exact ey)
                refine sE_of (pe_var hN2 hv2 hd2 hcd2) ⟨vy, evy, ?_⟩
                have h6 := h5.perm (.swap _ _ _)
                obtain ⟨pw, us, epw, eHp, l2⟩ := h6.lAt
                subst epw
                refine ⟨pw, us, vy, rfl, rfl, eHp, by rw [l2]; exact Nat.lt_of_lt_of_le hz (by decide), ?_⟩
                have hne := (h6.perm (.cons _ (.swap _ _ _))).apart
                have h7 := h6.pushD eHp
                have h8 := ((h7.perm (.swap _ _ _)).drop).put1 (by rw [upd_ne hne]; exact eH) (by rw [lk]; exact ew)
                have h9 := h8.put (i := j) (t := .gone) (by simp [(List.getElem?_eq_some_iff.mp ej).1]) ev
                rw [List.set_set] at h9
                have eset : ss.take k ++ .l (ys ++ [x]) :: ss.drop (k + 1) = ss.set k (.l (ys ++ [x])) := by
                  rw [List.set_eq_take_append_cons_drop, if_pos hkl]
                rw [eset] at h9
                exact p .non _ (h9.new fun _ => rfl)
            · exact p.elim
          · exact p.elim
        · exact p.elim
      · exact p.elim
    · exact p.elim
  · exact p.elim
end
end DL
/-! the data layer: for k, v in d.items(), the keys tuples -/
namespace DL
open PySem PySem.Spec PyProof.Rows L2 PySem.W
/-! a block's rule, closed: so that nobody looks into it -/
structure BXs (G : Gx) (N : Pn) (X : Cx) (W : WX) (s : List Stmt) (g : B) : Prop where
  run : BX G N X W s g
section
variable {G : Gx} {P : Program} {w : World} {K : PySem.W.Frag} {mg : Str → Option Value} {base : Heap} {x qual : Str} {stm : Stmt} {f c : Addr} {fd : FuncData} {Nn ps : List Str} {k : Nat} {J : List Nat} {g : B}
theorem fn_ownCs (F : FunC K x qual stm f c fd) (S0 : FnScope Nn ps (defScope stm))
    (hb : ∀ (A : Around) (outer : List Env) (s : Shared) (H : Hp) (s0 : L2.St) (LL : List (Addr × Obj × HO)) (E : XK), Room k (A.deeper (envOfC qual (defScope stm) s.heap.objs.size f (.ref c))) →
      BXs G ⟨J, s0, LL⟩ (cxOf (L2.CX P w) P w K mg base Nn qual (defScope stm) f (.ref c) A outer s H E) (fun cls d _ H => E cls d H) (defBody stm) g) :
    FnOk P w K mg base (L2.CX P w) (k + 1) f fd ps (spD G (fnOp ps.length Nn.length J g)) :=
  fn_ownC F S0 fun A outer s H s0 LL E hr => (hb A outer s H s0 LL E hr).run
end
end DL
/-! the data layer: sum(range(n)) -/
namespace DL
open PySem PySem.Spec PyProof.Rows L2 PySem.W
end DL
/-! the data layer: xs[i][k] = y, xs a list of lists, i and k names -/
namespace DL
open PySem PySem.Spec PyProof.Rows L2 PySem.W
section
variable {G : Gx} {N : Pn} {X : Cx} {W : WX} {H H' : Hp} {σ : L2.St} {ρ ρ' : List S} {st : Stk}
theorem Hs.setL {p : Addr} {xs : List D} {v : V} {x : D} {ws : List V} (h : Hs G N H σ ρ ((some (.ref p), .l xs) :: (some v, .d x) :: st)) (e : H p = some (.lst ws)) (m : Nat) :
    Hs G N (upd H p (.lst (ws.set m v))) σ ρ ((some (.ref p), .l (xs.set m x)) :: (some v, .d x) :: st) := by
  obtain ⟨F, fp, sb, ⟨a1, b1, ef1, ⟨p', vs', ev, ea, eH, eF, q⟩, r⟩, n⟩ := h.ex
  cases ev
  rw [e] at eH
  cases eH
  subst ea ef1
  obtain ⟨a2, b2, ef2, ⟨ea2, w, ew, qx⟩, r2⟩ := id r
  cases ew
  have hnp : p ∉ b1 := (List.nodup_cons.mp n).1
  exact ⟨h.len, ⟨F, [p] ++ b1, sub_upd sb eF, ⟨[p], b1, rfl, ⟨p, ws.set m v, rfl, rfl, upd_same, eF, RDs.set q qx⟩, RL.keep (Le.refl F) _ b1 r (fr_upd r hnp)⟩, n⟩, tabs_upd h.tb e trivial, h.pin⟩
def bSetIx (j i q : Nat) (fy : M S) : B := fun ρ => match fy ρ with
  | .ok s ρ1 => (match s.frz, ρ1[j]?, ρ1[i]?, ρ1[q]? with
    | some x, some (.ls ss), some (.d (.int a)), some (.d (.int b)) => (match ixN ss.length a with
      | some k => (match ss[k]? with
        | some (.l ys) => (match ixN ys.length b with
          | some m => .nx (ρ1.set j (.ls (ss.set k (.l (ys.set m x)))))
          | none => .stuck)
        | _ => .stuck)
      | none => .stuck)
    | _, _, _, _ => .stuck)
  | _ => .stuck
theorem sx_setIx (j i q : Nat) {xn yn zn : Str} {e : Expr} {fy : M S} {p1 p2 p3 p4 p5 pos : Pos} (hK : X.K = G.K) (he : EX G N X W e fy)
    (hN : X.N[j]? = some xn := by rfl) (hv : Vis X.env.scope xn := by first | exact Or.inl rfl | exact Or.inr (Or.inl rfl) | exact Or.inr (Or.inr rfl)) (hd : (xn == ("__debug__" : Str)) = false := by decide) (hcd : (xn == ("__classdict__" : Str)) = false := by decide)
    (hN2 : X.N[i]? = some yn := by rfl) (hv2 : Vis X.env.scope yn := by first | exact Or.inl rfl | exact Or.inr (Or.inl rfl) | exact Or.inr (Or.inr rfl)) (hd2 : (yn == ("__debug__" : Str)) = false := by decide) (hcd2 : (yn == ("__classdict__" : Str)) = false := by decide)
    (hN3 : X.N[q]? = some zn := by rfl) (hv3 : Vis X.env.scope zn := by first | exact Or.inl rfl | exact Or.inr (Or.inl rfl) | exact Or.inr (Or.inr rfl)) (hd3 : (zn == ("__debug__" : Str)) = false := by decide) (hcd3 : (zn == ("__classdict__" : Str)) = false := by decide)
    (hsx : PlainIx (.Name yn p2) := by exact fun _ _ => rfl)
    (hav : ∀ v, assign (.Subscript (.Subscript (.Name xn p1) (.Name yn p2) p3) (.Name zn p4) p5) X.env v = (do
      let ov ← holding [v] (eval (.Subscript (.Name xn p1) (.Name yn p2) p3) X.env)
      let iv ← holding [v, ov] (eval (.Name zn p4) X.env)
      standAt p5
      holding [v, ov, iv] (setItem ov iv v)
      release [v, ov, iv] []) := by intro _; rfl)
    (h1 : swapsWithSole [.Subscript (.Subscript (.Name xn p1) (.Name yn p2) p3) (.Name zn p4) p5] e pos.line X.env = pure false := by rfl) (hw : swappedStores [.Subscript (.Subscript (.Name xn p1) (.Name yn p2) p3) (.Name zn p4) p5] e X.env = pure none := by rfl) (h2 : (assignEach [.Subscript (.Subscript (.Name xn p1) (.Name yn p2) p3) (.Name zn p4) p5] X.env).map (·.2) = [assign (.Subscript (.Subscript (.Name xn p1) (.Name yn p2) p3) (.Name zn p4) p5) X.env] := by rfl) :
    SX G N X W (.Assign [.Subscript (.Subscript (.Name xn p1) (.Name yn p2) p3) (.Name zn p4) p5] e pos) (bSetIx j i q fy) := fun σ ρ st H D h pp => by
  unfold bSetIx at pp
  split at pp
  · rename_i s ρ1 ef
    split at pp
    · rename_i x ss a b ex ej ei eq
      split at pp
      · rename_i k ek
        split at pp
        · rename_i ys es
          split at pp
          · rename_i m em
            refine sS_of (ps_asg pe_sem (pg_sub (pe_ix ix_seq (pe_var hN hv hd hcd) (pe_var hN2 hv2 hd2 hcd2) hsx) (pe_var hN3 hv3 hd3 hcd3) set_list hav) h1 hw h2) ?_
            refine he σ ρ st H _ h ?_
            rw [ef]
            refine fun u H1 hu => ?_
            have g1 := hu.freeze ex
            obtain ⟨vj, evj⟩ := g1.val ej (by intro z; cases z)
            obtain ⟨vi, evi, g2⟩ := g1.copy ei
            have e1 := g2.int
            subst e1
            obtain ⟨vq, evq, g3⟩ := g2.drop.copy eq
            have e2 := g3.int
            subst e2
            have g4 := g3.drop.pull ej evj
            have hkl : k < ss.length := (List.getElem?_eq_some_iff.mp es).1
            have esp : ss = ss.take k ++ .l ys :: ss.drop (k + 1) := by
              have e1 : ss[k] = .l ys := (List.getElem?_eq_some_iff.mp es).2
              conv => lhs; rw [← List.take_append_drop k ss, List.drop_eq_getElem_cons hkl, e1]
            rw [esp] at g4
            obtain ⟨A, vs, eA, eH, lv, w, ew, g5⟩ := g4.take1
            cases eA
            have lk : (ss.take k).length = k := by rw [List.length_take]; omega
            rw [lk] at ew lv
            have lvs : vs.length = ss.length := by rw [lv, List.length_drop]; omega
            refine ⟨_, evj, _, evi, .inl ⟨A, vs, a, w, rfl, rfl, .of eH, ?_, ?_⟩⟩
            · unfold atI
              rw [lvs, ek]
              exact ew
            · refine ⟨_, evq, ?_⟩
              obtain ⟨pw, us, epw, eHp, l2⟩ := g5.lAt
              subst epw
              refine ⟨pw, us, b, m, rfl, rfl, eHp, by rw [l2]; exact em, ?_⟩
              have hne := g5.apart
              have g6 := g5.perm (st' := (some (.ref pw), .l ys) :: (some u, .d x) :: (some (.ref A), .ls (ss.take k ++ .gone :: ss.drop (k + 1))) :: st) (.cons _ (.swap _ _ _))
              have g7 := (g6.setL eHp m).perm (.cons _ (.swap _ _ _))
              have g8 := g7.put1 (by rw [upd_ne hne]; exact eH) (by rw [lk]; exact ew)
              have g9 := g8.put (i := j) (t := .gone) (by simp [(List.getElem?_eq_some_iff.mp ej).1]) evj
              rw [List.set_set] at g9
              have eset : ss.take k ++ .l (ys.set m x) :: ss.drop (k + 1) = ss.set k (.l (ys.set m x)) := by
                generalize S.l (ys.set m x) = z
                rw [List.set_eq_take_append_cons_drop, if_pos hkl]
              rw [eset] at g9
              exact pp σ _ g9.drop
          · exact pp.elim
        · exact pp.elim
      · exact pp.elim
    · exact pp.elim
  · exact pp.elim
theorem Hs.goneV {o : Option V} (h : Hs G N H σ ρ st) : Hs G N H σ ρ ((o, .gone) :: st) := by
  obtain ⟨F, fp, sb, r, n⟩ := h.ex
  exact ⟨h.len, ⟨F, fp, sb, ⟨[], fp, rfl, rfl, r⟩, n⟩, h.tb, h.pin⟩
/-- xs.append(ys), ys a list of its own -/
def opAppO : List S → ORes
  | [.l [], .l ys] => .ok (.d .non) [.ls [.l ys], .gone]
  | [.ls ss, .l ys] => if ss.length < 100000 then .ok (.d .non) [.ls (ss ++ [.l ys]), .gone] else .stuck
  | _ => .stuck
theorem os_appO : OpS G N W (rBm rAppend) opAppO := fun σ ρ st H vs xs Q l h p => by
  match xs, p, h, l with
  | [.l [], .l ys], p, h, l =>
    obtain ⟨v, w, ev, h1, h2⟩ := two l h
    subst ev
    have h3 : Hs G N H σ ρ ((some v, .ls ([].map .d)) :: (some w, .l ys) :: st) := Hs.toLs (h2.perm (.swap _ _ _))
    obtain ⟨a, vs, ev, eH, l2⟩ := h3.lsAt
    cases ev
    obtain ⟨vs', eH2, _, h4⟩ := (h3.perm (.swap _ _ _)).push
    rw [eH] at eH2
    cases eH2
    refine ⟨a, vs, w, rfl, rfl, eH, by rw [l2]; decide, p.2 .non _ ?_⟩
    exact ((h4.goneV (o := some w)).perm (.swap _ _ _)).new fun _ => rfl
  | [.ls ss, .l ys], p, h, l =>
    unfold opAppO at p
    simp only at p
    by_cases hz : ss.length < 100000
    · rw [if_pos hz] at p
      obtain ⟨v, w, ev, h1, h2⟩ := two l h
      subst ev
      have h3 : Hs G N H σ ρ ((some v, .ls ss) :: (some w, .l ys) :: st) := h2.perm (.swap _ _ _)
      obtain ⟨a, vs, ev, eH, l2⟩ := h3.lsAt
      cases ev
      obtain ⟨vs', eH2, _, h4⟩ := (h3.perm (.swap _ _ _)).push
      rw [eH] at eH2
      cases eH2
      refine ⟨a, vs, w, rfl, rfl, eH, by rw [l2]; exact Nat.lt_of_lt_of_le hz (by decide), p.2 .non _ ?_⟩
      exact ((h4.goneV (o := some w)).perm (.swap _ _ _)).new fun _ => rfl
    · rw [if_neg hz] at p
      exact p.elim
/-- len of a list of lists -/
def opLenO : List S → ORes
  | [.ls ss] => .ok (.d (.int ss.length)) [.ls ss]
  | _ => .stuck
theorem os_lenO : OpS G N W (rL fun xs H Q => ∃ x n, xs = [x] ∧ LenV G.K x H n ∧ Q (.int n) H) opLenO := fun σ ρ st H vs xs Q l h p => by
  match xs, p, h, l with
  | [.ls ss], p, h, l =>
    obtain ⟨v, ev, h1⟩ := one l h
    subst ev
    obtain ⟨a, vs, ea, eH, l2⟩ := h1.lsAt
    cases ea
    exact ⟨.ref a, ss.length, rfl, .inl ⟨vs, .of eH, l2.symm⟩, p.2 _ H (h1.new fun _ => rfl)⟩
theorem os_lenX : OpS G N W (rL fun xs H Q => ∃ x n, xs = [x] ∧ LenV G.K x H n ∧ Q (.int n) H) (opOr opLen opLenO) := fun σ ρ st H vs xs Q l hs p => by
  unfold opOr at p
  cases hg : opLen xs with
  | stuck =>
    rw [hg] at p
    exact os_lenO (G := G) (N := N) (W := W) σ ρ st H vs xs Q l hs p
  | ok s outs =>
    rw [hg] at p
    exact os_len (G := G) (N := N) (W := W) σ ρ st H vs xs Q l hs (by rw [hg]; exact p)
  | exc c q outs =>
    rw [hg] at p
    exact os_len (G := G) (N := N) (W := W) σ ρ st H vs xs Q l hs (by rw [hg]; exact p)
end
end DL
/-! the data layer: dicts with tuple keys: list(d.items()), d == {}, x in d.values() -/
namespace DL
open PySem PySem.Spec PyProof.Rows L2 PySem.W
/-! ### d == {}, d != {} -/
/-! ### x in d.values() -/
/-! ### sorted(d, reverse=True) -/
/-! ### list(text) -/
/-! ### sorted(d, key=..), the keys of d tuples -/
/-! ### an object != a text -/
end DL
/-! the data layer: generator expressions of two clauses, the walk -/
namespace DL
open PySem PySem.Spec PyProof.Rows L2 GenW
/-- .. with two iterators, ahead of turn i and of turn j -/
def Lvj (X : Cx) (G : Gx) (N : Pn) (own : List Addr) (L : Stk) (fp : List Addr) (tn : Nat → Heap → Prop) (fp1 : List Addr) (tn1 : Nat → Heap → Prop) (i j : Nat) (ρ : List S) (s : Shared) : Prop :=
  ∃ ps σ H, PnOf own ps ∧ Inv X ps σ H s ∧ Hs G N H σ ρ L ∧ (tn i s.heap ∧ ∀ b ∈ fp, FpOk X ps H b) ∧ tn1 j s.heap ∧ ∀ b ∈ fp1, FpOk X ps H b ∧ b ∉ fp
section
variable {X : Cx} {G : Gx} {N : Pn} {own fp fp1 : List Addr} {L : Stk} {tn tn1 : Nat → Heap → Prop} {i j : Nat} {ρ : List S} {s s' : Shared}
theorem Lvj.lv (h : Lvj X G N own L fp tn fp1 tn1 i j ρ s) : Lv X G N own L ρ s := let ⟨ps, σ, H, a, b, c, _⟩ := h; ⟨ps, σ, H, a, b, c⟩
theorem Lvj.woken (h : Lvj X G N own L fp tn fp1 tn1 i j ρ s) (hA : OwnOk X own) (z : Slp own s s') (k : ∀ i h h', tn i h → (∀ b ∈ fp, ∀ o, h.get? b = some o → h'.get? b = some o) → tn i h')
    (k1 : ∀ i h h', tn1 i h → (∀ b ∈ fp1, ∀ o, h.get? b = some o → h'.get? b = some o) → tn1 i h') : Lvj X G N own L fp tn fp1 tn1 i j ρ s' := by
  obtain ⟨ps, σ, H, a, I, c, ⟨st, f⟩, st1, f1⟩ := h
  obtain ⟨ps', a', I'⟩ := Inv.woken I a hA z
  exact ⟨ps', σ, H, a', I', c, ⟨k _ _ _ st fun b hb o e => z.keep b o (FpOk.nown (f b hb) a) e, fun b hb => FpOk.repin (f b hb) a a'⟩,
    k1 _ _ _ st1 fun b hb o e => z.keep b o (FpOk.nown (f1 b hb).1 a) e, fun b hb => ⟨FpOk.repin (f1 b hb).1 a a', (f1 b hb).2⟩⟩
end
abbrev g2 (elt target iter : Expr) (ifs : List Expr) (target1 iter1 : Expr) (ifs1 : List Expr) (scope : Scope) (pos : Pos) : Expr := .GeneratorExp elt [⟨target, iter, ifs, 0⟩, ⟨target1, iter1, ifs1, 0⟩] scope pos
end DL
/-! the data layer: generator expressions of two clauses, made and consumed -/
namespace DL
open PySem PySem.Spec PyProof.Rows L2 GenW
/-! ### made -/
theorem ev2 (e i0 t0 i1 t1 : Expr) (f0 f1 : List Expr) (sc : Scope) (p : Pos) (env : Env) (hco : sc.isCoroutine = false) :
    eval (g2 e t0 i0 f0 t1 i1 f1 sc p) env = ((eval i0 env) >>= fun x => (standAt i0.pos) >>= fun _ => (genFold i0 env x) >>= fun x => (holding [x] (pyIter x)) >>= fun it => enterFrame >>= fun _ =>
      (closureFor sc env) >>= fun cl => (genexprCode env p (env.qual ++ "<genexpr>") sc) >>= fun code => (builtinsFor env.globals env.builtins) >>= fun bi =>
      (newFunctionEnv sc env.globals cl [(".0", it)] (env.qual ++ "<genexpr>.") none code none bi) >>= fun ce => newGenerator (.compStart (g2 e t0 i0 f0 t1 i1 f1 sc p) 0 it .none ce) "<genexpr>" (env.qual ++ "<genexpr>")) := by
  rw [arm_eval_GeneratorExp]
  simp only [hco, Bool.false_eq_true, if_false]
  cases i0 <;> rfl
def Stp (stp : S → Bool) (tr : List (S × List S)) (en : Option (List S)) : Prop := (en = none → tr ≠ []) ∧ ∀ (j : Nat) (x : S × List S), tr[j]? = some x → stp x.1 = (en.isNone && j + 1 == tr.length)
theorem Stp.app {stp : S → Bool} {tr1 tr2 : List (S × List S)} {en : Option (List S)} {ρ5 : List S} (h1 : Stp stp tr1 (some ρ5)) (h2 : Stp stp tr2 en) : Stp stp (tr1 ++ tr2) en := by
  refine ⟨fun e => ?_, fun j x e => ?_⟩
  · have := h2.1 e
    intro z
    exact this (List.append_eq_nil_iff.mp z).2
  · by_cases hj : j < tr1.length
    · rw [List.getElem?_append_left hj] at e
      have h := h1.2 j x e
      simp only [Option.isNone_some, Bool.false_and] at h
      rw [h]
      cases en with
      | some _ => rfl
      | none =>
        have : tr2.length ≠ 0 := fun z => h2.1 rfl (List.length_eq_zero_iff.mp z)
        have hn : ¬ (j + 1 = (tr1 ++ tr2).length) := by
          rw [List.length_append]
          omega
        simp [hn]
        omega
    · rw [List.getElem?_append_right (Nat.le_of_not_lt hj)] at e
      have h := h2.2 _ x e
      rw [h, List.length_append]
      congr 1
      have : (j - tr1.length + 1 = tr2.length) ↔ (j + 1 = tr1.length + tr2.length) := by omega
      rw [Bool.eq_iff_iff]
      simp only [beq_iff_eq, this]
end DL
/-! the data layer: zip of tuples -/
namespace DL
open PySem PySem.Spec PyProof.Rows L2
end DL
/-! the data layer: tuple(reversed(a tuple)) -/
namespace DL
open PySem PySem.Spec PyProof.Rows L2
end DL
/-! the data layer: comprehensions of many clauses -/
namespace DL
open PySem PySem.Spec PyProof.Rows L2 PySem.W
end DL
/-! the data layer: methods of a dict in a field (get, pop); pop of dicts with tuple keys -/
namespace DL
open PySem PySem.Spec PyProof.Rows L2
end DL
/-! ### d.pop(k), d.pop(k, x), the keys tuples -/
namespace DL
open PySem PySem.W PySem.Calls PyProof.Rows PyProof.V PySem.Spec L2
/-! the slots' side -/
end DL
/-! the data layer: walks of locked dicts with tuple keys, in fields and in slots; a statement with a slot's dict locked -/
namespace DL
open PySem PySem.Spec PyProof.Rows L2 PySem.W
/-! ### d.values(), the keys tuples -/
/-! ### what the walks see -/
/-! ### slots -/
end DL
/-! the data layer: dict(d.items()) with tuple keys; methods of a field's dict -/
namespace DL
open PySem PySem.Spec PyProof.Rows L2 PySem.W
end DL
/-! the data layer: dict(d), the keys triples of ints below three -/
namespace DL
open PySem PySem.Spec PyProof.Rows L2 PySem.W
end DL
namespace DL
open PySem PySem.Spec PyProof.Rows L2 PySem.W
/-! dicts whose keys are tuples of any depth: the machine's side -/
mutual
/-- v is the key k -/
def NkV (H : Hp) : NestedKey → V → Prop
  | .none, v => v = .non
  | .num i, v => v = .int i
  | .text x, v => v = .str x
  | .tup ks, v => ∃ b vs, v = .ref b ∧ H b = some (.tup vs) ∧ NkVs H ks vs
def NkVs (H : Hp) : List NestedKey → List V → Prop
  | [], vs => vs = []
  | k :: ks, vs => ∃ v r, vs = v :: r ∧ NkV H k v ∧ NkVs H ks r
end
section
variable {P : Program} {w : World} {H H' : Hp} {h : Heap} {a : Addr} {xs : List (NestedKey × Addr × Value)}
/-- the keys of a dict, where they stand -/
def NKs (H : Hp) (xs : List (NestedKey × Addr × Value)) : Prop := ∀ x ∈ xs, NkV H x.1 (.ref x.2.1) ∧ x.1.depth ≤ 8
/-! ### k in d, d[k] = v, len, list, {k: v}: the machine -/
variable {X : Cx} {pins : List (Addr × Obj)} {σ : L2.St} {s : Shared} {b : Addr} {k : NestedKey}
end
end DL
namespace DL
open PySem PySem.Spec PyProof.Rows L2 PySem.W
/-! dicts whose keys are tuples of any depth: the data's side -/
def okN : D → Bool
  | .tup xs => match keyN (.tup xs) with
    | some k => decide (k.depth ≤ 8)
    | none => false
  | _ => false
section
variable {G : Gx} {N : Pn} {X : Cx} {W : WX} {F H H' : Hp} {σ : L2.St} {ρ : List S} {st st' : Stk} {w : World} {xs : List (NestedKey × Addr × Value)} {ks : List D}
theorem tup_sub (sb : Sub F H) {a : Addr} {vs : List V} (q : F a = some (.tup vs)) : H a = some (.tup vs) := by
  obtain ⟨_, z | ⟨z, _⟩⟩ := sb a _ q
  · exact z
  · rcases z with ⟨_, z⟩ | ⟨_, z⟩ <;> cases z
mutual
theorem nk_rd (sb : Sub F H) : ∀ (x : D) (k : NestedKey) (v : V), keyN x = some k → RD G F x v → NkV H k v
  | .non, k, v, e, r => by
    unfold keyN at e
    cases e
    unfold NkV
    exact r
  | .int i, k, v, e, r => by
    unfold keyN at e
    cases e
    unfold NkV
    exact r
  | .str x, k, v, e, r => by
    unfold keyN at e
    cases e
    unfold NkV
    exact r
  | .tup xs, k, v, e, r => by
    unfold keyN at e
    obtain ⟨ks, e1, e2⟩ := Option.map_eq_some_iff.mp e
    subst e2
    obtain ⟨a, vs, ev, q, r2⟩ := r
    unfold NkV
    exact ⟨a, vs, ev, tup_sub sb q, nks_rd sb xs ks vs e1 r2⟩
  | .bl b, k, v, e, r => by unfold keyN at e; cases e
  | .lst xs, k, v, e, r => by unfold keyN at e; cases e
  | .dic ks vs, k, v, e, r => by unfold keyN at e; cases e
  | .obj c xs, k, v, e, r => by unfold keyN at e; cases e
  | .kt xs, k, v, e, r => by unfold keyN at e; cases e
theorem nks_rd (sb : Sub F H) : ∀ (xs : List D) (ks : List NestedKey) (vs : List V), keyNs xs = some ks → RDs G F xs vs → NkVs H ks vs
  | [], ks, vs, e, r => by
    unfold keyNs at e
    cases e
    unfold NkVs
    exact r
  | x :: xs, ks, vs, e, r => by
    unfold keyNs at e
    split at e
    · rename_i k r1 e1 e2
      cases e
      obtain ⟨v, r', ev, h1, h2⟩ := r
      unfold NkVs
      exact ⟨v, r', ev, nk_rd sb x k v e1 h1, nks_rd sb xs r1 r' e2 h2⟩
    · cases e
end
theorem okN_key {k : D} (h : okN k = true) : ∃ q, keyN k = some q ∧ q.depth ≤ 8 := by
  unfold okN at h
  split at h
  · split at h
    · rename_i e
      exact ⟨_, e, by simpa using h⟩
    · cases h
  · cases h
theorem nks_of (sb : Sub F H) : ∀ {ks : List D} {xs : List (NestedKey × Addr × Value)}, ks.all okN = true → ks.map keyN = xs.map (fun x => some x.1) → RDs G F ks (xs.map fun x => V.ref x.2.1) → NKs H xs
  | [], [], _, _, _ => fun x hx => by cases hx
  | [], x :: xs, _, e, _ => by cases e
  | k :: ks, [], _, e, _ => by cases e
  | k :: ks, x :: xs, ha, e, r => by
    rw [List.all_cons, Bool.and_eq_true] at ha
    rw [List.map_cons, List.map_cons] at e
    injection e with e1 e2
    obtain ⟨v, r', ev, h1, h2⟩ := r
    rw [List.map_cons] at ev
    injection ev with ev1 ev2
    subst ev1 ev2
    obtain ⟨q, eq, hd⟩ := okN_key ha.1
    rw [e1] at eq
    cases eq
    intro y hy
    rcases List.mem_cons.mp hy with rfl | hy
    · exact ⟨nk_rd sb k _ _ e1 h1, hd⟩
    · exact nks_of sb ha.2 e2 h2 y hy
/-- such a dict on the stack -/
theorem Hs.nd {v : V} (h : Hs G N H σ ρ ((some v, .n ks) :: st)) (hw : G.w = some w) (ha : ks.all okN = true) : ∃ a xs F, v = .ref a ∧ H a = some (.ext (NdP w a xs)) ∧ NKs H xs ∧ ks.map keyN = xs.map (fun x => some x.1) ∧ Sub F H ∧ RDs G F ks (xs.map fun x => V.ref x.2.1) := by
  obtain ⟨F, fp, sb, ⟨fa, fr, ef, q, r⟩, n⟩ := h.ex
  obtain ⟨a, w0, xs, e1, e2, e3, e4, e5, e6, r2⟩ := q
  cases e1
  rw [hw] at e4
  cases e4
  exact ⟨a, xs, F, rfl, e5.1, nks_of sb ha e6 r2, e6, sb, r2⟩
end
end DL
namespace DL
open PySem PySem.Spec PyProof.Rows L2 PySem.W
/-! dicts whose keys are tuples of any depth: d[k] = v, {k: v} -/
end DL
namespace DL
open PySem PySem.Spec PyProof.Rows L2 PySem.W
end DL
/-! an exception class of the text whose __init__ calls the base's by super() and keeps a field -/
namespace DL
open PySem PySem.Spec PyProof.Rows L2 PySem.W
section
variable {prog : Program} {w : World} {A : Around} {E : Value → Shared → Prop} {h : Heap} {g : Array GenState} {d : Drawn} {t : Nat} {os : OsState}
variable {nm q : Str} {C N : Addr} {bs bm : List Value} {hdct : Bool} {sn : List Str} {sub : List Value} {ab : Bool} {col : Option Bool} {dd : Option Addr} {k0 k1 k2 k3 k5 : Option Value}
/-- the wrapper of ValueError.__init__, bound to an exception, called -/
theorem mw_call {u e t0 : Addr} {rest : List Value} {Q : Value → Shared → Prop}
    (hC : h.get? C = some (excClassObj nm q C N bs bm hdct sn sub ab col dd k0 k1 k2 k3 k5 "ValueError.__new__")) (he : h.get? e = some (excObj C t0 none .none)) (hu : h.get? u = some (kxs_mw "ValueError.__init__" e)) (hz : rest.length ≤ sizeLine)
    (hq : ∀ h' t1, (∀ b o, b ≠ e → h.get? b = some o → h'.get? b = some o) → h'.get? e = some (excObj C t1 none .none) → Q .none ⟨h', g, d, t, os⟩) :
    wpAny (model prog w) A (call (.ref u) rest) Q E ⟨h, g, d, t, os⟩ := by
  refine wpAny_call (codeAny_of_tree ?_)
  show wpAny _ A.in1 (callAny (.ref u) ⟨rest, []⟩) _ _ _
  simp only [callAny]
  refine wpAny_bind (wpAny_load hu ?_)
  have hmw : (Value.type "method-wrapper" == Value.type "method" || Value.type "method-wrapper" == Value.type "builtin_function_or_method" || Value.type "method-wrapper" == Value.type "method-wrapper") = true := by decide
  simp only [kxs_mw, hmw, if_true]
  refine KFB.if_so (by decide) ?_
  refine wpAny_bind (check_bound_init F.excBase_ValueError.toExcCallFacts hC he rfl ?_)
  refine wpAny_bind (wpAny_pure (wpAny_pure ?_))
  refine ⟨plainId_quiet F.excBase_ValueError.init.plain _, codeAny_builtin F.excBase_ValueError.initEntry ?_⟩
  refine exc_init_tree (cls := .ref C) (t0 := t0) (dv := none) (c2 := .none) (c3 := .none) (b4 := .bool false) he hz fun h' k e' _ => ?_
  exact hq h' _ k e'
end
end DL
namespace DL
open PySem PySem.Spec PyProof.Rows L2 PySem.W NdefX
/-- what the head tells of such a class at C -/
structure BtK (P : Program) (K : PySem.W.Frag) (mg : Str → Option Value) (C fI cell cda : Addr) (qual fld : Str) (stm : Stmt) (fd : FuncData) : Prop where
  oex : OexC K C
  fn : ∃ (oc : Value) (od : Option Addr) (kV doc pm : Value) (an : Option Addr) (ct : Value) (osl : Array (Option Value)), fd = ksFn "__init__" qual (defArgs stm) (defBody stm) (defScope stm) .none kV doc pm an (.ref cda) ct cell ∧ K.lookup fI = some ⟨oc, od, .func fd, osl⟩ ∧ codeIn K (.ref cda) qual = true
  file : ∃ (ccl : Value) (cdd : Option Addr) (vs : Array Value) (ccs : Array (Option Value)) (file : Str) (tf : Tok), K.lookup cda = some ⟨ccl, cdd, .fields vs, ccs⟩ ∧ vs[2]? = some (.str file tf) ∧ ((P.main.file : Str) == file) = true
  cel : ∃ (cl : Value) (cld : Option Addr) (csl : Array (Option Value)), K.lookup cell = some ⟨cl, cld, .cell (some (.ref C)), csl⟩
  sup : ks_superIn K C C "__init__" = some (some (.builtin "ValueError.__init__"))
  ve : subIn K (.ref C) (.type "ValueError") = some true
  slf : mroIn K C (.ref C) = some true
  fld : findIn K (.ref C) fld = some none
  opq : nsIn K cStatics "thirdparty.any" = some none
  gsup : mg "super" = none
  top : (P.main.scope.names.lookup ("super" : Str)).isSome = false
/-- what such an __init__ keeps -/
def spBt (C : Addr) (fld : Str) : Sp := fun vs H Q _ => ∃ (a : Addr) (y : V), vs = [.ref a, y] ∧ H a = some (exo a C none) ∧ ∀ dx, H dx = none → dx ≠ a → Q .non (upd (upd H dx (exd dx [(fld, y)])) a (exo a C (some dx)))
abbrev envB (qual : Str) (sc : Scope) (cell cda f L : Addr) : Env := envX qual sc L f (.ref cda) [("__class__", cell)]
/-- the body's two statements, its scope -/
structure BtS (qual fld m par : Str) (stm : Stmt) (p0 p1 p2 p3 p4 p5 p6 p7 p8 p9 : Pos) (j : Nat) : Prop where
  sc : NScope ["self", par, "__class__"] ["self", par] ["__class__"] (defScope stm)
  ks : (defScope stm).names.lookup ("super" : Str) = some .globalImplicit
  arg1 : ∃ ar : PySem.Arg, ((defArgs stm).posonlyargs ++ (defArgs stm).args).head? = some ar ∧ ar.arg = "self"
  body : defBody stm = [.Expr (.Call (.Attribute (.Call (.Name "super" p0) [] [] p1) "__init__" p2) [.Constant (.str m) j p3] [] p4) p5, .Assign [.Attribute (.Name "self" p6) fld p7] (.Name par p8) p9]
  hd : (par == ("__debug__" : Str)) = false
  hcd : (par == ("__classdict__" : Str)) = false
  hi : ∀ cell cda f L : Addr, interactive (envB qual (defScope stm) cell cda f L) = false
  sw1 : ∀ cell cda f L : Addr, swapsWith (.Call (.Attribute (.Call (.Name "super" p0) [] [] p1) "__init__" p2) [.Constant (.str m) j p3] [] p4) none p5.line (envB qual (defScope stm) cell cda f L) = pure false
  sw2 : ∀ cell cda f L : Addr, swapsWith (.Name par p8) (some (.Attribute (.Name "self" p6) fld p7)) p9.line (envB qual (defScope stm) cell cda f L) = pure false
  ev : ∀ cell cda f L : Addr, ∃ pl : Sem Bool, eval (.Call (.Attribute (.Call (.Name "super" p0) [] [] p1) "__init__" p2) [.Constant (.str m) j p3] [] p4) (envB qual (defScope stm) cell cda f L) = (do
      let ov ← attributeBase (.Call (.Name "super" p0) [] [] p1) "__init__" (envB qual (defScope stm) cell cda f L) (eval (.Call (.Name "super" p0) [] [] p1) (envB qual (defScope stm) cell cda f L))
      standAt p2.atName
      let (f1, first) ← holding [ov] (getMethod ov "__init__" pl)
      callWith p4 f1 first (backTo p4 (starEach [.Constant (.str m) j p3] (envB qual (defScope stm) cell cda f L))) [])
  st : ∀ cell cda f L : Addr, starEach [.Constant (.str m) j p3] (envB qual (defScope stm) cell cda f L) = [(false, eval (.Constant (.str m) j p3) (envB qual (defScope stm) cell cda f L))]
section
variable {P : Program} {w : World} {K : PySem.W.Frag} {mg : Str → Option Value} {base : Heap} {C fI cell cda : Addr} {qual fld m par : Str} {stm : Stmt} {fd : FuncData} {k : Nat} {p0 p1 p2 p3 p4 p5 p6 p7 p8 p9 : Pos} {j : Nat} {ar : PySem.Arg}
theorem bt_fn (B : BtK P K mg C fI cell cda qual fld stm fd) (T : BtS qual fld m par stm p0 p1 p2 p3 p4 p5 p6 p7 p8 p9 j) :
    FnOk P w K mg base (L2.CX P w) (k + 1) fI fd ["self", par] (spBt C fld) := by
  obtain ⟨oc, od, kV, doc, pm, an, ct, osl, efd, lk, hcode⟩ := B.fn
  subst efd
  obtain ⟨S, hks, ⟨ar, hp, har⟩, hbody, hd, hcd, hi, sw1, sw2, hev, hst⟩ := T
  refine ⟨fun vs H Q E h => ?_, fun A outer s H args us vs Q E hr e0 hb r hsp => ?_⟩
  · obtain ⟨a, y, e, _⟩ := h
    rw [e]
    rfl
  · obtain ⟨a, y, evs, ha, hq⟩ := hsp
    have KX : K.In s.heap := e0.mod.kin.keeps fun b o e => (e0.bs b o e).1
    have lim : s.heap.NoLimit := e0.mod.nolimit.keeps fun b o e => (e0.bs b o e).1
    have KX1 : ∀ {h₁ : Heap}, (∀ b o, s.heap.get? b = some o → h₁.get? b = some o) → K.In h₁ := fun k => KX.keeps k
    have hkind : ∀ y ∈ (["self", par] : List Str).zip us, (defScope stm).names.lookup y.1 = some .local := fun ⟨n, v⟩ hy => S.par n (List.of_mem_zip hy).1
    obtain ⟨ccl, cdd, cvs, ccs, file, tf, hcc, hvs, hfile⟩ := B.file
    obtain ⟨cl, cld, csl, hcel⟩ := B.cel
    obtain ⟨nm, q, Nn, bs, bm, sn, sub, ab, col, dd, k0, k1, k2, k3, k5, hC, hbm⟩ := B.oex.cls
    have hcls : clsIn K C = some { name := nm, bases := bs, mro := .ref C :: bm, ns := Nn, qualname := q, hasDict := true, slotNames := sn, subclasses := sub, abstract := ab, collection := col, hasDel := false } := by unfold clsIn; rw [hC] <;> rfl
    refine codeAny_call_function hr.depth (KX _ _ lk) rfl S.co S.gen rfl (codeRec_of KX hcode) (hb _ _ _ _ ?_)
    refine wpAny_newFunctionEnv S.nocell hkind (fun h₁ hns hsb => ⟨lim.fresh _ hsb, ?_⟩) S.kind
    have kp : ∀ b o, s.heap.get? b = some o → h₁.get? b = some o := fun b o e => hsb.extBut b o (Nat.ne_of_lt (Heap.lt_size e)) (Heap.get?_push_of_some _ e)
    show codeAny _ _ (.func (defBody stm) (envF ⟨"__init__", qual, defArgs stm, defBody stm, defScope stm, [("__class__", cell)], cda⟩ fI s.heap.objs.size)) _ _
    have look1 : ∀ {y : Str} {c : Addr}, ([("__class__", cell)] : List (Str × Addr)).lookup y = some c → y = "__class__" ∧ c = cell := fun {y c} e => by
      rw [List.lookup_cons] at e
      cases hb : (y == ("__class__" : Str)) with
      | true =>
        rw [hb] at e
        exact ⟨beq_iff_eq.mp hb, (Option.some.inj e).symm⟩
      | false =>
        rw [hb] at e
        cases e
    have hcells : CellsAt [("__class__", cell)] ["__class__"] [none] s.heap H := {
      len := rfl
      all := fun y c e => by
        obtain ⟨_, rfl⟩ := look1 e
        exact ⟨(e0.bs _ _ (e0.mod.kin _ _ hcel)).2, some (.ref C), ⟨_, KX _ _ hcel, rfl⟩⟩
      inj := fun x y c e1 e2 => (look1 e1).1.trans (look1 e2).1.symm
      has := fun i y e => by
        cases i with
        | zero =>
          have e : some ("__class__" : Str) = some y := e
          cases e
          exact ⟨cell, rfl, fun v z => by
            have z : (some (none : Option V)) = some (some v) := z
            cases z⟩
        | succ i => simp at e }
    have I : L2.Inv (ncx (L2.CX P w) P w K mg base ["self", par, "__class__"] ⟨"__init__", qual, defArgs stm, defBody stm, defScope stm, [("__class__", cell)], cda⟩ fI A outer s H E) [] (startF ["self", par, "__class__"] vs [none]) H { s with heap := h₁, toks := s.toks + ((["self", par] : List Str).zip us).length } := inv_startN S hr.hd e0 (by rw [evs]; rfl) r hcells hns kp
    subst evs
    cases r with
    | @cons _ u0 _ ur ra rw' =>
    obtain rfl : u0 = Value.ref a := ra
    cases rw' with
    | @cons _ u1 _ ur2 ry rn =>
    cases rn
    obtain ⟨t1, ho⟩ := exo_at e0.hok ha
    have ndP : (["self", par] : List Str).Nodup := by
      have z := S.nd.sublist (List.take_sublist 2 _)
      exact z
    refine ks_codeAny_funcAt ?_
    rw [hbody]
    obtain ⟨pl, ev⟩ := hev cell cda fI s.heap.objs.size
    refine ks_wpAt_execs_cons (ks_wpAt_Expr_any (ks_wpAt_MethodCall ?_ ev) (hi cell cda fI s.heap.objs.size) (sw1 cell cda fI s.heap.objs.size))
    have KX2 := KX1 kp
    have ho1 := kp _ _ ho
    refine ks_wpAt_super_base hks (S.frk "__class__" (by simp)) rfl rfl (KX2 _ _ lk) rfl hp rfl (KX2 _ _ hcc) rfl hvs hfile B.top ?_
    refine ks_loadName_global S.kind hks ?_
    obtain ⟨mb, hb1, hb2⟩ := e0.mod.blt
    have b2 : ∀ b o, base.get? b = some o → h₁.get? b = some o := fun b o e => kp b o (e0.bs b o e).1
    refine Calls.loadGlobal_builtin (v := .type "super") (e0.mod.glob.keeps b2) B.gsup (hb1.keeps b2) ((hb2 "super" (by decide)).trans (by kernel_rfl)) ⟨rfl, ?_⟩
    refine wpAny_loadName_free S.kind (S.frk "__class__" (by simp)) rfl ⟨_, KX2 _ _ hcel, rfl⟩ ?_
    rw [har]
    refine wpAny_loadName_local (v := .ref a) S.kind (S.par "self" (by simp)) hns ?_ ?_
    · exact NdefX.zip_look (i := 0) ndP rfl rfl
    obtain ⟨oD, hD1, hD2⟩ : ∃ oD, h₁.get? C = some oD ∧ oD.data = .cls { name := nm, bases := bs, mro := .ref C :: bm, ns := Nn, qualname := q, hasDict := true, slotNames := sn, subclasses := sub, abstract := ab, collection := col, hasDel := false } := ⟨_, KX2 _ _ hC, rfl⟩
    refine ks_wpAny_isType_cls hD1 hD2 ⟨rfl, ?_⟩
    refine ks_wpAny_call_super hD1 hD2 ho1 rfl (fun c e => by cases e) (looks_mroIn KX2 B.slf) (fun h2 e2 kk2 => ?_)
    have KX3 := KX2.keeps kk2
    have ho2 := kk2 _ _ ho1
    have haC : a ≠ C := fun z => by
      have := (e0.bs _ _ (e0.mod.kin _ _ hC)).2
      rw [← z, ha] at this
      cases this
    refine kxs_getMethod (B := "ValueError") (i := "ValueError.__init__") kxs_ValueError e2 (looks_opaque KX3 B.opq) (l₀ := .ref C :: bm) (fun A Q E s k q => wpAny_bind ((looks_clsIn KX3 hcls) A _ E s k (wpAny_pure q))) rfl KX3 ?_ ?_ haC (by decide) ?_
    · have z := B.sup
      unfold ks_superIn at z
      rw [hcls] at z
      exact z
    · have II : InstAt h2 a (excObj C t1 none .none) C none := ⟨ho2, rfl, rfl, trivial⟩
      exact II.type.andThen (looks_subIn KX3 B.ve)
    have e3 : (h2.push (kxs_mw "ValueError.__init__" a)).get? h2.objs.size = some (kxs_mw "ValueError.__init__" a) := Heap.get?_push_at rfl rfl
    have kk3 : ∀ b o, h2.get? b = some o → (h2.push (kxs_mw "ValueError.__init__" a)).get? b = some o := fun b o e => Heap.get?_push_of_some _ e
    rw [hst cell cda fI s.heap.objs.size]
    have KX4 := KX3.keeps kk3
    refine kxs_callWith (i := "ValueError.__init__") (x := a) rfl (Calls.evalArgs_plain (Calls.spliced_cons (Calls.Constant_str (k := j) (pos := p3) (Calls.spliced_nil ⟨e3, ?_⟩))))
    refine mw_call (KX4 _ _ hC) (kk3 _ _ ho2) e3 (by rw [sizeLine_eq]; simp) fun h4 t4 kk4 he4 => ?_
    -- the state is kept, but for the exception's arguments
    have I4 : L2.Inv (ncx (L2.CX P w) P w K mg base ["self", par, "__class__"] ⟨"__init__", qual, defArgs stm, defBody stm, defScope stm, [("__class__", cell)], cda⟩ fI A outer s H E) [] (startF ["self", par, "__class__"] [.ref a, y] [none]) H { s with heap := h4, toks := s.toks + ((["self", par] : List Str).zip [Value.ref a, u1]).length + 1 + 1 } := by
      have J : L2.Inv (ncx (L2.CX P w) P w K mg base ["self", par, "__class__"] ⟨"__init__", qual, defArgs stm, defBody stm, defScope stm, [("__class__", cell)], cda⟩ fI A outer s H E) [] (startF ["self", par, "__class__"] [.ref a, y] [none]) H { s with heap := h2.push (kxs_mw "ValueError.__init__" a), toks := s.toks + ((["self", par] : List Str).zip [Value.ref a, u1]).length + 1 + 1 } := I.kept fun b o e => kk3 _ _ (kk2 _ _ e)
      have J2 := J.write (t' := s.toks + ((["self", par] : List Str).zip [Value.ref a, u1]).length + 1 + 1) (x := a) (e := a) (o := exo a C none) (by rw [ha]; exact True.intro) (.inl rfl) kk4 ⟨_, he4⟩ (exo_ok he4)
      have eu : upd H a (exo a C none) = H := by
        funext b
        by_cases hb : b = a
        · rw [hb, upd_same, ha]
        · rw [upd_ne hb]
      rw [eu] at J2
      exact J2
    show PySem.wpAt _ _ _ (execs [.Assign [.Attribute (.Name "self" p6) fld p7] (.Name par p8) p9] _) _ _ _
    refine wpAt_of_wpAny ?_
    have pst : PSs (ncx (L2.CX P w) P w K mg base ["self", par, "__class__"] ⟨"__init__", qual, defArgs stm, defBody stm, defScope stm, [("__class__", cell)], cda⟩ fI A outer s H E) [.Assign [.Attribute (.Name "self" p6) fld p7] (.Name par p8) p9] (tOst K fld (tVar 0) (tVar 1)) :=
      pss_one (ps_ost (pe_var (i := 0) rfl (.inl (S.par "self" (by simp)))) (pe_var (i := 1) rfl (.inl (S.par par (by simp))) hd hcd) (sw2 cell cda fI s.heap.objs.size))
    refine wpAny_mono (pst.run [] _ _ H { nx := fun _ H' => Q .non H', rt := Q } I4 ?_) (fun fl s' hs => ?_) fun e s' hs => hs
    · exact ⟨y, rfl, .ref a, rfl, a, C, rfl, B.oex, B.fld, .inl ⟨ha, fun dx n ne => hq dx n ne⟩⟩
    · cases fl with
      | ret u =>
        obtain ⟨v, σ', H', J, rv, q⟩ := hs
        exact ⟨v, H', J.os, J.bare, J.base, J.hok, rv, q⟩
      | next =>
        obtain ⟨σ', H', J, q⟩ := hs
        exact ⟨.non, H', J.os, J.bare, J.base, J.hok, rfl, q⟩
      | brk =>
        obtain ⟨_, _, _, q⟩ := hs
        exact False.elim q
      | cont =>
        obtain ⟨_, _, _, q⟩ := hs
        exact False.elim q
end
end DL
/-! raise C(e), C's own __init__ keeping e in the field row -/
namespace DL
open PySem PySem.Spec PyProof.Rows L2
structure CalB (P : Program) (w : World) (K : PySem.W.Frag) (mg : Str → Option Value) (base : Heap) (G : Gx) (k : Nat) (x : Str) (c : Nat) : Prop where
  ex : ∃ fI fd, OexC K (G.cl c) ∧ PySem.W.findIn K (.ref (G.cl c)) "__init__" = some (some (.ref fI)) ∧ PySem.W.typeIn K (.ref fI) = some (.type "function") ∧ FnOk P w K mg base (L2.CX P w) k fI fd ["self", "row"] (spBt (G.cl c) "row") ∧ Binds K fd ["self", "row"] []
  mg : mg x = some (.ref (G.cl c))
def rowE (c : Nat) : S → B := fun s ρ => match s with
  | .d (.int i) => .exc c (.int i) ρ
  | _ => .stuck
def bRaiseR (c : Nat) (f : M S) : B := bdo f (rowE c)
theorem upd_mid (H : Hp) (a d : Addr) (x1 x2 x3 o : HO) (ha : H a = none) (hd : d ≠ a) : upd (del (upd (upd (upd H a x1) d x2) a x3) a) d o = upd H d o := by
  funext b
  by_cases h : b = d
  · subst h
    rw [upd_same, upd_same]
  · rw [upd_ne h, upd_ne h]
    by_cases h2 : b = a
    · subst h2
      rw [del_same, ha]
    · rw [del_ne h2, upd_ne h2, upd_ne h, upd_ne h2]
section
variable {G : Gx} {N : Pn} {X : Cx} {W : WX} {e : Expr} {f : M S} {pos pos' p : Pos}
theorem sx_raiseR {x : Str} {k c : Nat} (F : CalB X.prog X.w X.K X.mg X.base G k x c) (hr : Room (k + 1) X.A) (hc : X.calm = true) (tk : Takes X W) (he : EX G N X W e f) (hg : Gl X x := by rfl) (hdb : (x == ("__debug__" : Str)) = false := by decide)
    (hs : starEach [e] X.env = (false, eval e X.env) :: starEach [] X.env := by rfl) (hpl : (backTo pos (starEach [] X.env)).any (·.1) = false := by rfl) :
    SX G N X W (.Raise (some (.Call (.Name x p) [e] [] pos)) none pos') (bRaiseR c f) := fun σ ρ st H D h q => by
  obtain ⟨fI, fd, T, iC, tI, F1, hb⟩ := F.ex
  refine sS_of (ps_raise hc tk (pmk_oex (dvs := []) (ds := []) T iC tI F1 hr hb .nil (passes_call tk fun _ _ _ _ z => z.elim) hg F.mg (pa_cons pe_sem pa_nil hs) hdb hs hpl)) ?_
  refine he.bdo h q fun s ρ1 v H1 h1 p1 => ?_
  cases s with
  | d y =>
    cases y with
    | int i =>
      have ev := h1.int
      subst ev
      refine ⟨by simp, fun a ha => ⟨a, .int i, rfl, upd_same, fun dx hn ne => ⟨rfl, dx, [("row", .int i)], upd_same, by rw [upd_ne ne, upd_same], ?_, ?_⟩⟩⟩
      · rw [upd_ne ne] at hn
        exact hn
      · rw [upd_ne ne] at hn
        rw [upd_mid _ _ _ _ _ _ _ ha ne]
        have key : ∀ b o, H1 b = some o → (upd H1 dx (.xd [("row", .int i)])) b = some o := fun b o e => by
          rw [upd_ne (ne_of_none e hn)]
          exact e
        exact p1 _ _ σ _ ⟨rfl, dx, rfl, upd_same⟩ (h1.drop.grow ⟨LamX.ExtN.of key, h1.drop.tb.ext key⟩)
    | _ => exact p1.elim
  | _ => exact p1.elim
end
end DL
/-! a lambda whose object stays known: it stands frozen -/
namespace DL
open PySem PySem.Spec PyProof.Rows L2
def fzO (c' : Addr) (o : Obj) : HO := .frz o (.own c')
theorem fzO_ok {P : Program} {w : World} {H : Hp} {h : Heap} {f c' : Addr} {o : Obj} (e : h.get? f = some o) : ObjOk P w H h f (fzO c' o) := ⟨e, ⟨o, e⟩⟩
section
variable {G : Gx} {N : Pn} {X : Cx} {pins : List (Addr × Obj)} {σ : L2.St} {H : Hp} {s : Shared}
abbrev lmO (X : Cx) (params : Arguments) (body : Expr) (scope : Scope) (pm : Value) (c' : Addr) (ctv : Value) : Obj := PySem.W.kla_obj "<lambda>" (X.env.qual ++ "<lambda>") params body scope (cloFrom X.env.cells scope.names []) pm c' ctv
theorem lam_makeF {c P : Addr} {q0 : Str} {params : Arguments} {body : Expr} {scope : Scope} {pos : Pos} {E : Value → Shared → Prop} {Q : Value → Shared → Prop} (I : Inv X pins σ H s) (TB : LamX.TabB X.base X.mg c P) (hcode : X.env.code = .ref c)
    (hIn : InT G P (X.env.qual ++ "<lambda>") q0) (hT : Tb G N H) (hdef : defaultsOf params X.env = ([], [])) (hfree : ∀ y ∈ scope.names, y.2 = .free → ∃ c, X.env.cells.lookup y.1 = some c)
    (h : ∀ (f c' : Addr) (q' : Str) (pm ctv : Value) (H1 : Hp) (s' : Shared), LamX.ExtN H H1 → Tb G N H1 → H1 f = none → f ≠ c' → (q0 = anyQ ∨ q' = X.env.qual ++ "<lambda>") → H1 c' = some (LamX.CodeO c' q') →
      Inv X pins σ (upd H1 f (fzO c' (lmO X params body scope pm c' ctv))) s' → Q (.ref f) s') :
    wpAny (model X.prog X.w) X.A (eval (.Lambda params body scope pos) X.env) Q E s := by
  obtain ⟨ps, hP, ht, ha⟩ := hT.at hIn
  refine PySem.W.kla_eval hdef ?_
  have bP : s.heap.BuiltinsAt X.mg P := TB.bm.keeps I.bk
  have hP' : s.heap.get? P = some { cls := .none, data := .fields ps } := I.hok P _ hP
  cases hc : codeAmong pos ps.toList with
  | none =>
    refine PySem.W.kla_makeFunction (mg := X.mg) (c := c) (P := P) (ps := ps) (closure_ok hfree) I.ok.glob (I.mod.glob.keeps I.bk) hcode (TB.code.keeps I.bk) hP' ht hc TB.gP bP fun c' ctv h' tk hx hge hlt hrec htb => ?_
    obtain ⟨c2, oc, vs, t, e2, hoc, hd, hv⟩ := hrec
    cases e2
    have nC : H c' = none := I.hok.fresh hge
    have I1 := LamX.inv_table (t' := tk) (more := #[rawInt pos.line, rawInt pos.col, .ref c']) (h' := h') I hP hx htb hge ⟨oc, vs, t, hoc, hd, hv⟩
    obtain ⟨hE, hT1⟩ := hT.put (pos := pos) hIn hP nC
    have nf := I1.hok.fresh (Nat.le_refl h'.objs.size)
    refine h h'.objs.size c' _ ((X.mg "__name__").getD .none) ctv _ _ hE hT1 nf (Nat.ne_of_gt hlt) (.inr rfl) upd_same ?_
    exact I1.laid (t' := tk) (fun b u e => Heap.get?_push_of_some _ e) (Nat.le_refl _) (fzO_ok (Heap.get?_push_size _ rfl))
  | some cv =>
    obtain ⟨c', q', e, hq, hco⟩ := ha pos cv hc
    subst e
    refine PySem.W.kla_makeFunctionHit (mg := X.mg) (c := c) (P := P) (ps := ps) (closure_ok hfree) I.ok.glob (I.mod.glob.keeps I.bk) hcode (TB.code.keeps I.bk) hP' ht hc bP fun ctv h' tk hx hsz => ?_
    have I1 : Inv X pins σ H { s with heap := h', toks := tk } := I.kept hx
    have nf := I1.hok.fresh (Nat.le_refl h'.objs.size)
    refine h h'.objs.size c' q' ((X.mg "__name__").getD .none) ctv H _ (LamX.ExtN.refl H) hT nf (fun z => ?_) hq hco ?_
    · rw [z] at nf
      exact absurd (hco.symm.trans nf) (by simp)
    · exact I1.laid (t' := tk) (fun b u e => Heap.get?_push_of_some _ e) (Nat.le_refl _) (fzO_ok (Heap.get?_push_size _ rfl))
end
end DL
/-! isinstance(e, C), e a caught exception, whether it has a dict or not -/
namespace DL
open PySem PySem.Spec PyProof.Rows L2 PySem.W
section
variable {prog : Program} {w : World} {A : Around} {E : Value → Shared → Prop} {s : Shared} {K : Frag} {x D : Addr} {ox : Obj} {od : Option Obj}
theorem find_data {C : Addr} {name : Str} {a g : Value} (hc : (clsIn K C).isSome = true) (ha : findIn K (.ref C) name = some (some a)) (hg : specialIn K a "__get__" = some (some g)) (ht : takesIn K a = some true) : findObj K C od name = some (.bind g a) := by
  obtain ⟨cd, e⟩ := Option.isSome_iff_exists.mp hc
  unfold findObj
  rw [e, Option.bind_some, ha, Option.bind_some]
  simp [hg, ht]
theorem cls_of_exc {Q : Option Value → Shared → Prop} (C : ExcC K D) (X : K.In s.heap) (I : InstAt s.heap x ox D od) (q : Q (some (.ref D)) { s with toks := s.toks + 1 }) : wpAny (model prog w) A (getAttr? (.ref x) "__class__") Q E s := by
  have hf : findObj K D od "__class__" = some (.bind (.builtin "getset_descriptor.__get__") (.builtin "object.__class__")) := find_data (by
    obtain ⟨cd, e, _⟩ := any_some C.hd
    rw [e]
    rfl) C.ha C.hn C.ht
  obtain ⟨hp, g, d, t, os⟩ := s
  have k0 := I.type (M := model prog w)
  have k1 := looks_findIn (M := model prog w) X C.hg
  have k2 := looks_findIn (M := model prog w) X C.hk
  have k3 := looks_find (M := model prog w) X I hf
  have sb : Looks (model prog w) hp (isInstance (.ref x) (.type "BaseException")) true := k0.andThen (looks_subIn X C.hs)
  have n2 : (Value.builtin "BaseException.__getattribute__" == Value.builtin "object.__getattribute__") = false := by decide +kernel
  have n1 : (onTheHeap (Value.ref D) && Value.builtin "BaseException.__getattribute__" == Value.builtin "object.__getattribute__") = false := by
    rw [n2]
    rfl
  have n0 : (false && onTheHeap (Value.builtin "BaseException.__getattribute__")) = false := rfl
  unfold getAttr? getAttrBy? getAttrBy
  refine wpAny_bind (wpAny_mkText (wpAny_bind (wpAny_attempt (wpAny_holding (wpAny_bind (k0.at (wpAny_bind (k1.at ?_))))))))
  show wpAny _ _ (if (onTheHeap (Value.ref D) && Value.builtin "BaseException.__getattribute__" == Value.builtin "object.__getattribute__") = true then _ else _) _ _ _
  rw [n1, if_neg Bool.false_ne_true]
  unfold getAttrByItsOwn hookBefore
  refine wpAny_bind ?_
  rw [if_pos (show onTheHeap (Value.ref D) = true from rfl)]
  refine k2.at ?_
  refine wpAny_bind (wpAny_attempt (wpAny_holding ?_))
  unfold callGetattribute
  rw [n0, if_neg Bool.false_ne_true]
  unfold boundAndCalled
  rw [PySem.F.excAttr_ValueError.ga.bind (.ref x)]
  refine wpAny_bind (wpAny_pure ?_)
  show wpAny _ _ (call (.builtin "BaseException.__getattribute__") [.ref x, .str "__class__" t]) _ _ _
  refine wpAny_call (codeAny_call_builtin PySem.F.excAttr_ValueError.ga.plain PySem.F.entry_bexc_ga ?_)
  refine @check_slot (model prog w) _ _ ⟨hp, g, d, t + 1, os⟩ "BaseException.__getattribute__" "BaseException" "__getattribute__" (.ref x) [.str "__class__" t] [] _ (by decide +kernel) (by decide +kernel) sb (PySem.F.args_bexc_ga (.ref x) (.str "__class__" t)) ?_
  unfold Builtin.«object.__getattribute__»
  refine wpAny_bind (wpAny_of_eq (a := ((Value.ref x : Value), [Value.str "__class__" t])) (by first | rfl | (simp only [slotArgs]; rfl)) ?_)
  refine wpAny_bind (wpAny_pure (wpAny_bind (k0.at (wpAny_bind (k3.at ?_)))))
  show wpAny _ _ (holding [Value.builtin "object.__class__"] (call (.builtin "getset_descriptor.__get__") [.builtin "object.__class__", .ref x, .ref D]) >>= ret) _ _ _
  refine wpAny_bind (wpAny_holding (wpAny_call (class_get (s := ⟨hp, g, d, t + 1, os⟩) (ox := ox) (od := od) X I C.hm ?_)))
  refine wpAny_pure ?_
  show wpAny _ _ (handedOut (.ref D)) _ _ _
  rw [handedOut_of (v := .ref D) rfl]
  first
    | exact wpAny_pure (wpAny_pure q)
    | exact wpAny_pure q
    | exact wpAny_pure (wpAny_bind (wpAny_pure (wpAny_pure q)))
theorem kitX_exc (C : ExcC K D) : KitX K (.ref x) (.ref D) (fun h => InstAt h x ox D od) := by
  have base := handS_kitx_exc (x := x) (ox := ox) C.hg C.hk C.hs C.hd C.ha C.hn C.ht C.hm
  refine ⟨fun _ _ _ I => I.type, fun _ _ X _ => ?_, base.ne, fun X I k => cls_of_exc C X I k⟩
  obtain ⟨cdD, hcD, _⟩ := any_some C.hd
  unfold clsIn at hcD
  split at hcD
  · rename_i c' d' cd' sl' ho
    intro A' Q' E' s' k q
    unfold isType loadHead
    exact wpAny_bind (wpAny_loadPart (k _ _ (X _ _ ho)) (wpAny_pure q))
  · cases hcD
end
def rIsD (K : PySem.W.Frag) (D a : Addr) : List V → Hp → VK → Prop := fun xs H Q => ∃ (c : V) (cv : Value) (b : Bool), xs = [.ref a, c] ∧ (∀ u, RelV c u → u = cv) ∧ PySem.W.kitOne K (.ref D) cv = some b ∧ Q (.bl b) H
theorem call_isD {X : Cx} {a D : Addr} {d : Option Addr} {oe : Obj} {pn : List (Addr × Obj)} (C : ExcC X.K D) (hz : Zc (.ref D) d oe) (hf : ∃ vs, oe.data = .fields vs) : CallR (X.suite a ((a, oe) :: pn)) (.builtin "isinstance")
    (fun xs H Q => (∀ dd, d = some dd → ∃ fs, H dd = some (.xd fs)) ∧ rIsD X.K D a xs H Q) := by
  intro pins s σ H xs us Q I r h
  obtain ⟨hd, c, cv, b, rfl, hcv, e, q⟩ := h
  cases r with
  | cons rx rr =>
    cases rr with
    | cons rt rr =>
      cases rr
      cases rx
      have ec := hcv _ rt
      subst ec
      obtain ⟨hget, _⟩ := I.pin (a, oe) (List.mem_append.mpr (.inl List.mem_cons_self))
      obtain ⟨vs, hv⟩ := hf
      obtain ⟨odx, J⟩ : ∃ odx, PySem.W.InstAt s.heap a oe D odx := by
        obtain ⟨oc, odd, oda, osl⟩ := oe
        obtain ⟨h1, h2⟩ := hz
        dsimp only at h1 h2 hv
        subst h1 h2 hv
        cases odd with
        | none => exact ⟨none, hget, rfl, rfl, trivial⟩
        | some dd =>
          obtain ⟨fs, hx⟩ := hd dd rfl
          obtain ⟨mA, ⟨o, _, _, ho, _⟩, _⟩ := I.hok dd _ hx
          exact ⟨some o, hget, rfl, rfl, ho⟩
      exact PySem.W.kia_one (kitX_exc C) I.kIn J e (fun z => nomatch z) fun tk => ⟨.bl b, H, I.kept (t' := tk) fun _ _ z => z, rfl, q⟩
end DL
/-! the suite of an except clause that tells the classes of what it caught -/
namespace DL
open PySem PySem.Spec PyProof.Rows L2
def KitL (K : PySem.W.Frag) (D : Addr) : List (V × Value) → List Bool → Prop
  | [], [] => True
  | c :: cs, b :: bs => PySem.W.kitOne K (.ref D) c.2 = some b ∧ KitL K D cs bs
  | _, _ => False
inductive IsE (Z : Cx) : List Expr → List (V × Value) → Prop
  | nil : IsE Z [] []
  | cons {x : Str} {v : V} {cv : Value} {p p2 p3 pos : Pos} {es : List Expr} {cs : List (V × Value)} (h : PE Z (.Name x p3) (tC v)) (hv : ∀ u, RelV v u → u = cv) (r : IsE Z es cs) : IsE Z (.Call (.Name "isinstance" p) [.Name "e" p2, .Name x p3] [] pos :: es) ((v, cv) :: cs)
def XdOk (d : Option Addr) (H : Hp) : Prop := ∀ dd, d = some dd → ∃ fs, H dd = some (.xd fs)
section
variable {Y : Cx} {a D : Addr} {d : Option Addr} {oe : Obj} {pn : List (Addr × Obj)}
def tIs (K : PySem.W.Frag) (a D : Addr) (d : Option Addr) (cs : List (V × Value)) : TA := fun σ H Q => σ[1]? = some (some (.ref a)) ∧ XdOk d H ∧ ∃ bs, KitL K D cs bs ∧ Q (bs.map .bl) H
theorem pa_is (C : ExcC Y.K D) (hz : Zc (.ref D) d oe) (hf : ∃ vs, oe.data = .fields vs) (hN : Y.N[1]? = some ("e" : Str)) (hv : Vis Y.env.scope "e") (hg : Gl Y "isinstance") (hm : Y.mg "isinstance" = none) :
    ∀ {es : List Expr} {cs : List (V × Value)}, IsE (Y.suite a ((a, oe) :: pn)) es cs → PA (Y.suite a ((a, oe) :: pn)) es (tIs Y.K a D d cs)
  | _, _, .nil => ⟨fun pos pins s σ H Q I h => by
    obtain ⟨_, _, bs, hk, q⟩ := h
    cases bs with
    | cons => exact hk.elim
    | nil => exact pa_nil.run pos pins s σ H Q I q⟩
  | _, _, @IsE.cons _ x v cv p p2 p3 pos es cs h h2 r => by
    have ih := pa_is C hz hf hN hv hg hm r
    have one : PE (Y.suite a ((a, oe) :: pn)) (.Call (.Name "isinstance" p) [.Name "e" p2, .Name x p3] [] pos) _ := pe_callB (call_isD C hz hf) hg hm (by kernel_rfl) (pa_cons (pe_var (i := 1) hN hv) (pa_cons h pa_nil))
    refine ⟨fun ps pins s σ H Q I q => (pa_cons one ih).run ps pins s σ H Q I ?_⟩
    obtain ⟨h1, hd, bs, hk, q⟩ := q
    cases bs with
    | nil => exact hk.elim
    | cons b bs =>
      obtain ⟨k1, k2⟩ := hk
      exact ⟨.ref a, h1, ⟨hd, v, cv, b, rfl, h2, k1, h1, hd, bs, k2, q⟩⟩
theorem KitL.len {K : PySem.W.Frag} : ∀ {cs : List (V × Value)} {bs : List Bool}, KitL K D cs bs → bs.length = cs.length
  | [], [], _ => rfl
  | [], _ :: _, h => h.elim
  | _ :: _, [], h => h.elim
  | c :: cs, b :: bs, h => by simp [KitL.len h.2]
abbrev bV (bs : List Bool) : List V := bs.map .bl
/-- what the suite gives: the list of the answers -/
def tSuite (K : PySem.W.Frag) (a D : Addr) (d : Option Addr) (c1 c2 c3 : List (V × Value)) : TS := fun Q σ H => σ[1]? = some (some (.ref a)) ∧ σ.length = 3 ∧ XdOk d H ∧ ∃ b1 b2 b3, KitL K D c1 b1 ∧ KitL K D c2 b2 ∧ KitL K D c3 b3 ∧
  ∀ H' l, (∀ b o, H b = some o → H' b = some o) → H' l = none → Q.rt (.ref l) (upd H' l (.lst (bV (b1 ++ b2 ++ b3))))
theorem upd_up {H H1 : Hp} {l : Addr} {o : HO} (h : ∀ b u, H b = some u → H1 b = some u) (n : H1 l = none) : ∀ b u, H b = some u → upd H1 l o b = some u := fun b u e => by
  have e1 := h b u e
  rw [upd_ne (ne_of_none e1 n)]
  exact e1
theorem xd_up {H H1 : Hp} (x : XdOk d H) (h : ∀ b u, H b = some u → H1 b = some u) : XdOk d H1 := fun dd e => by
  obtain ⟨fs, y⟩ := x dd e
  exact ⟨fs, h _ _ y⟩
theorem pss_suite {e1 e2 e3 : List Expr} {c1 c2 c3 : List (V × Value)} {q1 q2 q3 q4 q5 q6 q7 q8 q9 qa qb qc : Pos} (C : ExcC Y.K D) (hz : Zc (.ref D) d oe) (hf : ∃ vs, oe.data = .fields vs) (hNd : Y.N.Nodup) (hN : Y.N[1]? = some ("e" : Str)) (hN2 : Y.N[2]? = some ("some" : Str)) (hv : Vis Y.env.scope "e") (hl : Y.env.scope.names.lookup ("some" : Str) = some .local)
    (hg : Gl Y "isinstance") (hm : Y.mg "isinstance" = none) (i1 : IsE (Y.suite a ((a, oe) :: pn)) e1 c1) (i2 : IsE (Y.suite a ((a, oe) :: pn)) e2 c2) (i3 : IsE (Y.suite a ((a, oe) :: pn)) e3 c3) (hlen : c1.length + c2.length + c3.length ≤ 100)
    (s1 : swapsWith (.List e1 q1) (some (.Name "some" q2)) q3.line Y.env = pure false) (s2 : swapsWith (.BinOp (.Name "some" q4) .Add (.List e2 q5) q6) (some (.Name "some" q7)) q8.line Y.env = pure false) :
    PSs (Y.suite a ((a, oe) :: pn)) [.Assign [.Name "some" q2] (.List e1 q1) q3, .Assign [.Name "some" q7] (.BinOp (.Name "some" q4) .Add (.List e2 q5) q6) q8, .Return (some (.BinOp (.Name "some" q9) .Add (.List e3 qa) qb)) qc] (tSuite Y.K a D d c1 c2 c3) := by
  have pa {es cs} (i : IsE (Y.suite a ((a, oe) :: pn)) es cs) := pa_is C hz hf hN hv hg hm i
  have v2 {q : Pos} : PE (Y.suite a ((a, oe) :: pn)) (.Name "some" q) (tVar 2) := pe_var (i := 2) hN2 (.inl hl)
  have st : PSs (Y.suite a ((a, oe) :: pn)) [.Assign [.Name "some" q2] (.List e1 q1) q3, .Assign [.Name "some" q7] (.BinOp (.Name "some" q4) .Add (.List e2 q5) q6) q8, .Return (some (.BinOp (.Name "some" q9) .Add (.List e3 qa) qb)) qc] _ :=
    pss_cons (ps_set (i := 2) hNd hN2 (.inl hl) (pe_lst (pa i1)) s1 (.inr hl)) (pss_cons (ps_set (i := 2) hNd hN2 (.inl hl) (pe_op op_catL v2 (pe_lst (pa i2))) s2 (.inr hl)) (pss_one (ps_ret (pe_op op_catL v2 (pe_lst (pa i3))))))
  refine ⟨fun pins s σ H Q I h => st.run pins s σ H Q I ?_⟩
  obtain ⟨h1, h3, hx, b1, b2, b3, k1, k2, k3, q⟩ := h
  have l1 := k1.len
  have l2 := k2.len
  have l3 := k3.len
  have hsz : 100 ≤ sizeLine := by rw [sizeLine_eq]; omega
  have bl : ∀ bs : List Bool, (bV bs).length = bs.length := fun bs => List.length_map _
  have g1 : ∀ (τ : L2.St) (x : V), τ[1]? = some (some (.ref a)) → (τ.set 2 (some x))[1]? = some (some (.ref a)) := fun τ x e => by rw [List.getElem?_set_ne (by decide)]; exact e
  have g2 : ∀ (τ : L2.St) (x : V), τ.length = 3 → (τ.set 2 (some x))[2]? = some (some x) := fun τ x e => by rw [List.getElem?_set_self (by omega)]
  refine ⟨h1, hx, b1, k1, by rw [bl]; omega, fun p1 n1 => ?_⟩
  have u1 : ∀ b u, H b = some u → upd H p1 (.lst (bV b1)) b = some u := upd_up (fun _ _ e => e) n1
  refine ⟨.ref p1, g2 _ _ h3, g1 _ _ h1, xd_up hx u1, b2, k2, by rw [bl]; omega, fun p2 n2 => ?_⟩
  have u2 := upd_up (o := .lst (bV b2)) u1 n2
  refine ⟨p1, p2, bV b1, bV b2, rfl, rfl, .inl (.inl (by rw [upd_ne (ne_of_none upd_same n2), upd_same])), .inl (.inl upd_same), by rw [bl, bl]; omega, fun p3 n3 => ?_⟩
  have u3 := upd_up (o := .lst (bV b1 ++ bV b2)) u2 n3
  refine ⟨.ref p3, g2 _ _ (by rw [List.length_set]; exact h3), g1 _ _ (g1 _ _ h1), xd_up hx u3, b3, k3, by rw [bl]; omega, fun p4 n4 => ?_⟩
  have u4 := upd_up (o := .lst (bV b3)) u3 n4
  refine ⟨p3, p4, bV b1 ++ bV b2, bV b3, rfl, rfl, .inl (.inl (by rw [upd_ne (ne_of_none upd_same n4), upd_same])), .inl (.inl upd_same), by rw [List.length_append, bl, bl, bl]; omega, fun p5 n5 => ?_⟩
  have e : bV b1 ++ bV b2 ++ bV b3 = bV (b1 ++ b2 ++ b3) := by simp [bV]
  rw [e]
  exact q _ _ u4 n5
end
end DL
/-! a frozen lambda called by a def that tells the classes of what it raises -/
namespace DL
open PySem PySem.Spec PyProof.Rows L2
section
variable {X : Cx} {pins : List (Addr × Obj)} {σ : L2.St} {H : Hp} {s : Shared}
/-- the frozen lambda at f, called within the def that got it -/
theorem pe_actF {CXg : CXT} {Eg : XK} {Ng : List Str} {qg : Str} {sg : Scope} {g f c' : Addr} {cdg pm ctv : Value} {params : Arguments} {body : Expr} {scope : Scope} {k i : Nat} {a : Str} {pn : List (Addr × Obj)} {xe : Value → Shared → Prop} {W : WX} {E : XK} {tb : TE} {p1 p2 : Pos} {u : HO}
    (I : Inv X pins σ H s) (L : LamX.LamS X.env.scope scope) (hz : H f = some (.frz (lmO X params body scope pm c' ctv) u)) (hbind : bindArgs (PySem.W.kla_fn "<lambda>" (X.env.qual ++ "<lambda>") params body scope (cloFrom X.env.cells scope.names []) pm (.ref c') ctv) ⟨[], []⟩ = pure [])
    (tk : Takes ((cxOf CXg X.prog X.w X.K X.mg X.base Ng qg sg g cdg X.A X.stack s H Eg).tr pn xe) W) (hW : ∀ cls d σ' H', E cls d H' → W cls d σ' H') (hr : Room (k + 1) (X.A.deeper (envOfC qg sg s.heap.objs.size g cdg)))
    (hbody : ∀ (A : Around) (outer : List Env) (s : Shared) (H : Hp), Room k (A.deeper (LamX.lamEnv X scope s.heap.objs.size f c')) → PE (LamX.lamCx X A outer s H E scope f c') body tb)
    (hN : Ng[i]? = some a) (hv : Vis sg a) (hd : (a == ("__debug__" : Str)) = false := by decide) (hcd : (a == ("__classdict__" : Str)) = false := by decide) :
    PE ((cxOf CXg X.prog X.w X.K X.mg X.base Ng qg sg g cdg X.A X.stack s H Eg).tr pn xe) (.Call (.Name a p1) [] [] p2)
      (fun τ Z Q => τ[i]? = some (some (.ref f)) ∧ Z c' = some (LamX.CodeO c' (X.env.qual ++ "<lambda>")) ∧ tb σ Z Q) := by
  refine ⟨fun pinsZ sZ τ Z Q IZ h => ?_⟩
  obtain ⟨hs, hc, ht⟩ := h
  refine wpAny_Call_Name_kw (thn ((pe_var (pos := p1) (i := i) hN hv hd hcd).run pinsZ sZ τ Z (fun v H1 => v = .ref f ∧ H1 = Z) IZ ⟨.ref f, hs, rfl, rfl⟩) fun uu s1 ⟨v, H1, I1, r1, q1⟩ => ?_)
  obtain ⟨ev, eH⟩ := q1
  subst ev
  rw [eH] at I1
  obtain rfl : uu = Value.ref f := r1
  have un : Un (frs X.stack) [] H Z s.heap s1.heap := I1.base
  have of1 : s1.heap.get? f = some (lmO X params body scope pm c' ctv) := (I1.hok f _ (un.frzs f _ _ hz)).1
  refine PySem.W.callWith_F0 ⟨_, _, _, _, of1⟩ ?_
  obtain ⟨⟨oc, vs, t, hoc, hdc, hvc⟩, _, _⟩ := I1.hok c' _ hc
  have rc : codeAny (model X.prog X.w) (X.A.deeper (envOfC qg sg s.heap.objs.size g cdg)) (.call (.ref f) ⟨[], []⟩) (CR (L2.CX X.prog X.w) (envOfC qg sg s.heap.objs.size g cdg :: X.stack) X.prog X.w Z s1 Q E) s1 := by
    refine PySem.W.kla_callFunE hr.depth of1 rfl L.co L.gen rfl ⟨c', oc, vs, t, rfl, hoc, hdc, hvc⟩ ?_
    rw [hbind]
    refine wpAny_pure (wpAny_newFunctionEnv (fun y hy => (L.own y hy).2) (fun y hy => absurd hy (by simp)) (fun h₁ hns hsb => ⟨I1.nolimit.fresh _ hsb, ?_⟩) L.kind)
    show codeAny _ _ (.expr body (LamX.lamEnv X scope s1.heap.objs.size f c')) _ _
    have kp : ∀ b o, s1.heap.get? b = some o → h₁.get? b = some o := fun b o e => hsb.extBut b o (Nat.ne_of_lt (Heap.lt_size e)) (Heap.get?_push_of_some _ e)
    have J : Inv (LamX.lamCx X (X.A.deeper (envOfC qg sg s.heap.objs.size g cdg)) (envOfC qg sg s.heap.objs.size g cdg :: X.stack) s1 Z E scope f c') [] σ Z { s1 with heap := h₁, toks := s1.toks + ([] : List (Str × Value)).length } :=
      LamX.lam_start2 I L I1.env0 hr.hd un hns kp
    refine PySem.W.kla_codeExpr (wpAny_mono ((hbody _ _ s1 Z (hr.deeper _)).run [] _ _ Z Q J ht) (fun v s' hq => ?_) fun e s' hq => hq)
    obtain ⟨w', H', J', rv, q⟩ := hq
    exact ⟨w', H', J'.os, J'.bare, J'.base, J'.hok, rv, q⟩
  have hx : Passes (L2.CX X.prog X.w) ((cxOf CXg X.prog X.w X.K X.mg X.base Ng qg sg g cdg X.A X.stack s H Eg).tr pn xe) E := passes_call tk hW
  refine wpAny_call (codeAny_mono rc fun r s' hq => ?_)
  cases r with
  | error e => exact hx pinsZ τ Z s1 e s' I1 hq
  | ok fl =>
    cases fl with
    | ret w => exact I1.after hq
    | next => exact False.elim hq
    | brk => exact False.elim hq
    | cont => exact False.elim hq
end
end DL
/-! f(ls[k]): f calls the k-th of a list of lambdas and tells the classes of what it raises -/
namespace DL
open PySem PySem.Spec PyProof.Rows L2
def mUnd (rows : List (Nat × List Bool)) (f : M S) : M S := fun ρ => match f ρ with
  | .ok _ ρ' => .ok (.l []) ρ'
  | .exc k _ ρ' => match rows.lookup k with
    | some bs => .ok (.l (bs.map .bl)) ρ'
    | none => .stuck
  | .stuck => .stuck
def mPick (j : Nat) (fs : List (M S)) (rows : List (Nat × List Bool)) : M S := fun ρ => match ρ[j]? with
  | some (.d (.int n)) => if 0 ≤ n then (match fs[n.toNat]? with
    | some f => mUnd rows f ρ
    | none => .stuck) else .stuck
  | _ => .stuck
/-- the names of classes that isinstance is asked with -/
inductive IsS (sg : Scope) (mg : Str → Option Value) : List Expr → List (V × Value) → Prop
  | nil : IsS sg mg [] []
  | own {x : Str} {C : Addr} {p p2 p3 pos : Pos} {es : List Expr} {cs : List (V × Value)} (hn : sg.names.lookup x = some .globalImplicit) (hm : mg x = some (.ref C)) (hd : (x == ("__debug__" : Str)) = false) (r : IsS sg mg es cs) :
      IsS sg mg (.Call (.Name "isinstance" p) [.Name "e" p2, .Name x p3] [] pos :: es) ((.ref C, .ref C) :: cs)
  | blt {x : Str} {T : String} {p p2 p3 pos : Pos} {es : List Expr} {cs : List (V × Value)} (hn : sg.names.lookup x = some .globalImplicit) (hm : mg x = none) (hb : bootBuiltins x = some (.type T)) (hnn : x ≠ "__name__") (hd : (x == ("__debug__" : Str)) = false) (r : IsS sg mg es cs) :
      IsS sg mg (.Call (.Name "isinstance" p) [.Name "e" p2, .Name x p3] [] pos :: es) ((.ty T, .type T) :: cs)
theorem IsS.toE {sg : Scope} {mg : Str → Option Value} {Z : Cx} (h1 : Z.env.scope = sg) (h2 : Z.mg = mg) : ∀ {es : List Expr} {cs : List (V × Value)}, IsS sg mg es cs → IsE Z es cs
  | _, _, .nil => .nil
  | _, _, .own hn hm hd r => .cons (pe_glob (v := .ref _) (by show Z.env.scope.names.lookup _ = _; rw [h1]; exact hn) (by rw [h2]; exact hm) rfl hd) (fun u e => e) (IsS.toE h1 h2 r)
  | _, _, .blt hn hm hb hnn hd r => .cons (pe_bltn (v := .ty _) (by show Z.env.scope.names.lookup _ = _; rw [h1]; exact hn) (by rw [h2]; exact hm) hb rfl hnn hd) (fun u e => e) (IsS.toE h1 h2 r)
/-- the def that tells the classes -/
structure UndF (K : PySem.W.Frag) (mg : Str → Option Value) (G : Gx) (x : Str) (rows : List (Nat × List Bool)) : Prop where
  ex : ∃ (stm : Stmt) (g cg Cf : Addr) (fd : FuncData) (ce : Str) (e1 e2 e3 : List Expr) (c1 c2 c3 : List (V × Value)) (p1 p2 p3 p4 p5 p6 p7 p8 q1 q2 q3 q4 q5 q6 q7 q8 q9 qa qb qc : Pos), FunC K x x stm g cg fd ∧ mg x = some (.ref g) ∧ Binds K fd ["what"] [] ∧ FnScope ["what", "e", "some"] ["what"] (defScope stm) ∧
    defBody stm = [.Try [.Expr (.Call (.Name "what" p1) [] [] p2) p3] [.ExceptHandler (some (.Name ce p4)) (some "e") [.Assign [.Name "some" q2] (.List e1 q1) q3, .Assign [.Name "some" q7] (.BinOp (.Name "some" q4) .Add (.List e2 q5) q6) q8, .Return (some (.BinOp (.Name "some" q9) .Add (.List e3 qa) qb)) qc] p5] [] [] p6, .Return (some (.List [] p7)) p8] ∧
    (defScope stm).names.lookup ("e" : Str) = some .local ∧ (defScope stm).names.lookup ("some" : Str) = some .local ∧ (defScope stm).names.lookup ("isinstance" : Str) = some .globalImplicit ∧ (defScope stm).names.lookup ce = some .globalImplicit ∧ mg ce = some (.ref Cf) ∧ (ce == ("__debug__" : Str)) = false ∧ mg "isinstance" = none ∧
    IsS (defScope stm) mg e1 c1 ∧ IsS (defScope stm) mg e2 c2 ∧ IsS (defScope stm) mg e3 c3 ∧ c1.length + c2.length + c3.length ≤ 100 ∧
    (∀ r ∈ rows, PySem.W.exmOne K (.ref (G.cl r.1)) (.ref Cf) = some true ∧ ExcC K (G.cl r.1) ∧ ∃ b1 b2 b3, KitL K (G.cl r.1) c1 b1 ∧ KitL K (G.cl r.1) c2 b2 ∧ KitL K (G.cl r.1) c3 b3 ∧ r.2 = b1 ++ b2 ++ b3) ∧
    (∀ (cdv : Addr) (f L : Addr), swapsWith (.List e1 q1) (some (.Name "some" q2)) q3.line (envOfC x (defScope stm) L f (.ref cdv)) = pure false ∧ swapsWith (.BinOp (.Name "some" q4) .Add (.List e2 q5) q6) (some (.Name "some" q7)) q8.line (envOfC x (defScope stm) L f (.ref cdv)) = pure false ∧ swapsWith (.Call (.Name "what" p1) [] [] p2) none p3.line (envOfC x (defScope stm) L f (.ref cdv)) = pure false)
structure LamD where
  params : Arguments
  body : Expr
  scope : Scope
  pos : Pos
abbrev LT := Addr × Value × Addr × Value
structure LamK (X : Cx) (G : Gx) (N : Pn) (k : Nat) (l : LamD) (f : M S) : Prop where
  sc : LamX.LamS X.env.scope l.scope
  bind : ∀ (q : Str) (cl : List (Str × Addr)) (pm cv ctv : Value), bindArgs (PySem.W.kla_fn "<lambda>" q l.params l.body l.scope cl pm cv ctv) ⟨[], []⟩ = pure []
  body : ∀ (A : Around) (outer : List Env) (s : Shared) (H : Hp) (E : XK) (f' c' : Addr), Room k (A.deeper (LamX.lamEnv X l.scope s.heap.objs.size f' c')) → EX G N (LamX.lamCx X A outer s H E l.scope f' c') (fun cls d _ H => E cls d H) l.body f
theorem lookup_mem {c : Nat} {r : List Bool} : ∀ {rows : List (Nat × List Bool)}, rows.lookup c = some r → (c, r) ∈ rows
  | [], h => by cases h
  | (d, z) :: rows, h => by
    rw [List.lookup_cons] at h
    cases hb : c == d with
    | true =>
      rw [hb] at h
      cases h
      rw [beq_iff_eq.mp hb]
      exact List.mem_cons_self
    | false =>
      rw [hb] at h
      exact List.mem_cons_of_mem _ (lookup_mem h)
theorem rds_bls {G : Gx} {F : Hp} : ∀ bs : List Bool, RDs G F (bs.map D.bl) (bs.map V.bl)
  | [] => rfl
  | b :: bs => ⟨.bl b, _, rfl, rfl, rds_bls bs⟩
theorem exR_xd {G : Gx} {H : Hp} {c : Nat} {p : D} {cls : Value} {d : Option Addr} (h : ExR G H c p cls d) : XdOk d H := fun dd e => by
  obtain ⟨_, h2⟩ := h
  cases p with
  | int i =>
    obtain ⟨dx, e1, e2⟩ := h2
    rw [e1] at e
    cases e
    exact ⟨_, e2⟩
  | _ =>
    have h2 : d = none := h2
    rw [h2] at e
    cases e
section
variable {G : Gx} {N : Pn} {X : Cx} {W : WX}
theorem ex_und {x xs xk : Str} {i j k : Nat} {la : Addr} {lo : Obj} {ls : List LamD} {ts : List LT} {fs : List (M S)} {rows : List (Nat × List Bool)} {p pos q1 q2 q3 : Pos} (U : UndF X.K X.mg G x rows) (hr : Room (k + 2) X.A) (hGK : X.K = G.K)
    (hi : i ∈ N.J) (hi2 : N.s0[i]? = some (some (.ref la))) (hl : (la, lo, .lst (ts.map fun t => V.ref t.1)) ∈ N.L) (hlen : ts.length = fs.length)
    (hf : ∀ (n : Nat) (t : LT) (f : M S), ts[n]? = some t → fs[n]? = some f → ∃ l : LamD, (t.1, lmO X l.params l.body l.scope t.2.1 t.2.2.1 t.2.2.2, HO.own t.2.2.1) ∈ N.L ∧ LamK X G N k l f)
    (hN1 : X.N[i]? = some xs) (hN2 : X.N[j]? = some xk) (hv1 : Vis X.env.scope xs) (hv2 : Vis X.env.scope xk) (d1 : (xs == ("__debug__" : Str)) = false) (d2 : (xk == ("__debug__" : Str)) = false) (d3 : (xs == ("__classdict__" : Str)) = false) (d4 : (xk == ("__classdict__" : Str)) = false)
    (hgl : Gl X x := by rfl) (hdb : (x == ("__debug__" : Str)) = false := by decide)
    (he : starEach [.Subscript (.Name xs q1) (.Name xk q2) q3] X.env = (false, eval (.Subscript (.Name xs q1) (.Name xk q2) q3) X.env) :: starEach [] X.env := by rfl) (hpl : (backTo pos (starEach [] X.env)).any (·.1) = false := by rfl) :
    EX G N X W (.Call (.Name x p) [.Subscript (.Name xs q1) (.Name xk q2) q3] [] pos) (mPick j fs rows) := fun σ ρ st H Q h q => by
  unfold mPick at q
  cases ej : ρ[j]? with
  | none => rw [ej] at q; exact q.elim
  | some sj =>
  rw [ej] at q
  cases sj with
  | d dj =>
    cases dj with
    | int n =>
      dsimp only at q
      by_cases h0 : 0 ≤ n
      · rw [if_pos h0] at q
        cases ef : fs[n.toNat]? with
        | none => rw [ef] at q; exact q.elim
        | some f =>
          rw [ef] at q
          dsimp only at q
          obtain ⟨v, ev, hv⟩ := h.copy ej
          have e2 := hv.int
          subst e2
          have hs1 : σ[i]? = some (some (.ref la)) := (h.pin i hi).trans hi2
          have hlock := h.tb.2 _ hl
          have hn : n.toNat < ts.length := by rw [hlen]; exact (List.getElem?_eq_some_iff.mp ef).1
          obtain ⟨t, et⟩ : ∃ t, ts[n.toNat]? = some t := ⟨_, List.getElem?_eq_getElem hn⟩
          obtain ⟨l, hlt, K⟩ := hf _ _ _ et ef
          have hz := h.tb.2 _ hlt
          have hco := h.tb.1.2 _ hlt _ _ rfl rfl
          have hat : atI (ts.map fun t => V.ref t.1) n = some (.ref t.1) := by
            unfold atI
            have e3 : ixN (ts.map fun t => V.ref t.1).length n = some n.toNat := by
              unfold ixN
              rw [if_pos h0, if_pos (by rw [List.length_map]; omega)]
            rw [e3]
            show (ts.map fun t => V.ref t.1)[n.toNat]? = _
            rw [List.getElem?_map, et]
            rfl
          intro pins s I
          obtain ⟨stm, g, cg, Cf, fd, ce, e1, e2, e3, c1, c2, c3, p1, p2, p3, p4, p5, p6, p7, p8, y1, y2, y3, y4, y5, y6, y7, y8, y9, ya, yb, yc, FC, hm, hb, Sg, ebody, he1, hs2, hisn, hce, hmce, hdce, hmis, i1, i2, i3, hsz, hrows, hsw⟩ := U.ex
          obtain ⟨oc, od, kV, doc, pm, an, ct, osl, rfl, lk, hcg⟩ := FC.ex
          rw [ebody] at lk hb
          refine wpAny_Call_Name_kw (ld_glob I hgl hm ?_ hdb)
          have pa := pa_cons (pe_ix (pos := q3) ix_seq (pe_var (pos := q1) hN1 hv1 d1 d3) (pe_var (pos := q2) hN2 hv2 d2 d4) (fun _ _ => rfl)) pa_nil he
          refine PySem.W.callWith_K (h₀ := X.base) I.ok.mod.kin FC.kp (thn (pa.run pos pins s σ H (fun vs H1 => vs = [.ref t.1] ∧ H1 = H) I ?_) fun us s1 ⟨vs, H1, I1, r1, evs, eH⟩ => ⟨I1.kIn, ?_⟩) he hpl
          · exact ⟨.ref la, hs1, .int n, ev, .inl ⟨la, _, n, .ref t.1, rfl, rfl, .inl (.inr ⟨lo, hlock⟩), hat, rfl, rfl⟩⟩
          · subst evs eH
            cases r1 with
            | @cons _ u0 _ ur ra rn =>
            cases rn
            obtain rfl : u0 = Value.ref t.1 := ra
            show wpAny _ _ (call (.ref g) [.ref t.1]) _ _ _
            have rc : codeAny (model X.prog X.w) X.A (.call (.ref g) ⟨[.ref t.1], []⟩) (CR C8.CX0 X.stack X.prog X.w H1 s1 Q C8.E0) s1 := by
              refine LamX.run_ofS (N := ["what", "e", "some"]) (ps := ["what"]) (us := [.ref t.1]) (vs := [.ref t.1]) lk hcg Sg hr I1.env0 (hb s1 [.ref t.1] I1.kIn rfl) (.cons rfl .nil) rfl fun hr' => ?_
              obtain ⟨w1, w2, w3⟩ := hsw cg g s1.heap.objs.size
              have va : Vis (defScope stm) "what" := by
                rcases Sg.par "what" List.mem_cons_self with z | z
                · exact .inl z
                · exact .inr (.inl z)
              have P1 : PS (cxOf C8.CX0 X.prog X.w X.K X.mg X.base ["what", "e", "some"] x (defScope stm) g (.ref cg) X.A X.stack s1 H1 C8.E0).nox _ _ := ps_try_as (i := 1) (body := [.Expr (.Call (.Name "what" p1) [] [] p2) p3]) (b₀ := .Assign [.Name "some" y2] (.List e1 y1) y3) (suite := [.Assign [.Name "some" y7] (.BinOp (.Name "some" y4) .Add (.List e2 y5) y6) y8, .Return (some (.BinOp (.Name "some" y9) .Add (.List e3 ya) yb)) yc]) (Wout := fun _ _ _ _ => False) (pos := p6) (pos' := p5) (np := p4) (c := .ref Cf)
                (tb := fun W D τ Z => ∃ Ech : XK, (∀ cls d τ' Z', Ech cls d Z' → W cls d τ' Z') ∧ τ[0]? = some (some (.ref t.1)) ∧ Z t.2.2.1 = some (LamX.CodeO t.2.2.1 (X.env.qual ++ "<lambda>")) ∧
                  (∀ (A : Around) (outer : List Env) (s : Shared) (H0 : Hp) (f' c' : Addr), Room k (A.deeper (LamX.lamEnv X l.scope s.heap.objs.size f' c')) → sE (LamX.lamCx X A outer s H0 Ech l.scope f' c') l.body σ Z fun _ Z' => D.nx τ Z'))
                (ts := fun a cls d D τ Z => ∃ r ∈ rows, cls = .ref (G.cl r.1) ∧ (τ.length = 3 → tSuite X.K a (G.cl r.1) d c1 c2 c3 D τ Z))
                rfl rfl Sg.nd rfl he1 ⟨hce, hdce, .inl hmce⟩ LamX.takes0 (fun W pn xe tk _ => ?_) (fun a oe cls d pn hz' hf' => ?_)
              · refine ⟨_, (pss_cons P1 (pss_one (ps_ret (pos := p8) (pe_lst (pos := p7) pa_nil)))).nox, ?_⟩
                refine ⟨fun cls d Z => ∃ r ∈ rows, cls = .ref (G.cl r.1) ∧ XdOk d Z ∧ ∀ Z2 l, (∀ b o, Z b = some o → Z2 b = some o) → Z2 l = none → Q (.ref l) (upd Z2 l (.lst (bV r.2))), fun cls d τ Z hE => ?_, rfl, hco, fun A outer s0 H0 f' c' hr2 => ?_⟩
                · obtain ⟨r, hr1, ecls, hx, hQ⟩ := hE
                  subst ecls
                  obtain ⟨exm, EC, b1, b2, b3, k1, k2, k3, eb⟩ := hrows r hr1
                  refine ⟨true, exm, fun _ a na => ⟨r, hr1, rfl, fun e3 => ⟨?_, e3, hx, b1, b2, b3, k1, k2, k3, fun Z2 l u nl => ?_⟩⟩, fun z => by cases z⟩
                  · rw [List.length_set] at e3
                    rw [List.getElem?_set_self (by omega)]
                  · rw [← eb]
                    exact hQ Z2 l u nl
                · refine K.body A outer s0 H0 _ f' c' hr2 σ ρ st H1 _ h ?_
                  unfold mUnd at q
                  cases hfr : f ρ with
                  | stuck => rw [hfr] at q; exact q
                  | ok s' ρ1 =>
                    rw [hfr] at q
                    intro v1 Z h1
                    exact ⟨by simp, fun l nl => q (.ref l) _ (h1.drop.newF (fun _ => rfl) nl)⟩
                  | exc kc pd ρ1 =>
                    rw [hfr] at q
                    dsimp only at q
                    cases hlk : rows.lookup kc with
                    | none => rw [hlk] at q; exact q.elim
                    | some bs =>
                      rw [hlk] at q
                      intro cls d Z hE h2
                      refine ⟨(kc, bs), ?_, hE.1, exR_xd hE, fun Z2 l u nl => ?_⟩
                      · exact lookup_mem hlk
                      · exact q (.ref l) _ ((h2.grow ⟨LamX.ExtN.of u, h2.tb.ext u⟩).newF (fun F => rds_bls bs) nl)
              · refine ⟨fun pinsZ s' τ Z D IZ h' => ?_⟩
                obtain ⟨Ech, hW, a1, a2, a3⟩ := h'
                have act := pe_actF (CXg := C8.CX0) (Eg := C8.E0) (p1 := p1) (p2 := p2) (tb := fun τ Z Q' => ∀ (A : Around) (outer : List Env) (s : Shared) (H0 : Hp) (f' c' : Addr), Room k (A.deeper (LamX.lamEnv X l.scope s.heap.objs.size f' c')) → sE (LamX.lamCx X A outer s H0 Ech l.scope f' c') l.body τ Z Q') (i := 0) I1 K.sc hz (K.bind _ _ _ _ _) tk hW hr'
                  (fun A outer s0 H0 hr2 => ⟨fun pins s' σ' H' Q' I' q' => q' A outer s0 H0 _ _ hr2 pins s' I'⟩) (Ng := ["what", "e", "some"]) (a := "what") rfl va
                exact (pss_one (ps_expr (pos := p3) act w3)).run pinsZ s' τ Z D IZ ⟨a1, a2, a3⟩
              · refine ⟨fun pinsZ s' τ Z D IZ h' => ?_⟩
                obtain ⟨r, hr1, ecls, hS⟩ := h'
                subst ecls
                obtain ⟨exm, EC, _⟩ := hrows r hr1
                exact (pss_suite (Y := (cxOf C8.CX0 X.prog X.w X.K X.mg X.base ["what", "e", "some"] x (defScope stm) g (.ref cg) X.A X.stack s1 H1 C8.E0).nox) EC hz' hf' Sg.nd rfl rfl (.inl he1) hs2 hisn hmis (i1.toE rfl rfl) (i2.toE rfl rfl) (i3.toE rfl rfl) hsz w1 w2).run pinsZ s' τ Z D IZ (hS IZ.len)
            refine wpAny_call (codeAny_mono rc fun r s2 hq => ?_)
            cases r with
            | error e => exact (show False from hq).elim
            | ok fl =>
              cases fl with
              | ret w => exact I1.after hq
              | next => exact False.elim hq
              | brk => exact False.elim hq
              | cont => exact False.elim hq
      · rw [if_neg h0] at q
        exact q.elim
    | _ => exact q.elim
  | _ => exact q.elim
end
end DL
/-! x = [lambda: .., ..]: the list and its functions stand locked for what follows -/
namespace DL
open PySem PySem.Spec PyProof.Rows L2
abbrev lamE (l : LamD) : Expr := .Lambda l.params l.body l.scope l.pos
section
variable {G : Gx} {N N' : Pn} {X : Cx} {W : WX} {H H1 : Hp} {σ : L2.St} {ρ : List S} {st : Stk}
def LsAt (X : Cx) (H : Hp) : List LamD → List LT → Prop
  | [], [] => True
  | l :: ls, t :: ts => (H t.1 = some (fzO t.2.2.1 (lmO X l.params l.body l.scope t.2.1 t.2.2.1 t.2.2.2)) ∧ H t.2.2.1 = some (LamX.CodeO t.2.2.1 (X.env.qual ++ "<lambda>"))) ∧ LsAt X H ls ts
  | _, _ => False
theorem LsAt.ext (e : LamX.ExtN H H1) : ∀ {ls : List LamD} {ts : List LT}, LsAt X H ls ts → LsAt X H1 ls ts
  | [], [], _ => trivial
  | [], _ :: _, h => h.elim
  | _ :: _, [], h => h.elim
  | l :: ls, t :: ts, h => ⟨⟨e _ _ h.1.1 (fun _ z => nomatch z), e _ _ h.1.2 LamX.codeO_ne⟩, LsAt.ext e h.2⟩
def lockL (X : Cx) : List LamD → List LT → List (Addr × Obj × HO)
  | l :: ls, t :: ts => (t.1, lmO X l.params l.body l.scope t.2.1 t.2.2.1 t.2.2.2, .own t.2.2.1) :: lockL X ls ts
  | _, _ => []
theorem LsAt.len : ∀ {ls : List LamD} {ts : List LT}, LsAt X H ls ts → ts.length = ls.length
  | [], [], _ => rfl
  | [], _ :: _, h => h.elim
  | _ :: _, [], h => h.elim
  | l :: ls, t :: ts, h => by simp [LsAt.len h.2]
theorem LsAt.frz : ∀ {ls : List LamD} {ts : List LT}, LsAt X H ls ts → ∀ p ∈ lockL X ls ts, H p.1 = some (.frz p.2.1 p.2.2) ∧ ∀ c fd, p.2.2 = .own c → p.2.1.data = .func fd → H c = some (LamX.CodeO c fd.qualname)
  | [], [], _, p, hp => by cases hp
  | [], _ :: _, h, _, _ => h.elim
  | _ :: _, [], h, _, _ => h.elim
  | l :: ls, t :: ts, h, p, hp => by
    rcases List.mem_cons.mp hp with e | hp
    · subst e
      refine ⟨h.1.1, fun c fd e1 e2 => ?_⟩
      cases e1
      cases e2
      exact h.1.2
    · exact LsAt.frz h.2 p hp
theorem lock_at : ∀ {ls : List LamD} {ts : List LT} {n : Nat} {l : LamD} {t : LT}, ls[n]? = some l → ts[n]? = some t → (t.1, lmO X l.params l.body l.scope t.2.1 t.2.2.1 t.2.2.2, HO.own t.2.2.1) ∈ lockL X ls ts
  | [], _, _, _, _, h, _ => by simp at h
  | _ :: _, [], _, _, _, _, h => by simp at h
  | a :: ls, b :: ts, 0, l, t, h1, h2 => by
    simp at h1 h2
    subst h1 h2
    exact List.mem_cons_self
  | a :: ls, b :: ts, n + 1, l, t, h1, h2 => List.mem_cons_of_mem _ (lock_at (n := n) (by simpa using h1) (by simpa using h2))
/-- what a lambda's place must say -/
structure LamW (X : Cx) (G : Gx) (l : LamD) (c P : Addr) : Prop where
  tb : LamX.TabB X.base X.mg c P
  code : X.env.code = .ref c
  inT : InT G P (X.env.qual ++ "<lambda>") (X.env.qual ++ "<lambda>")
  dfl : defaultsOf l.params X.env = ([], [])
  sc : LamX.LamS X.env.scope l.scope
def tLamF (G : Gx) (N : Pn) (X : Cx) (l : LamD) : TE := fun _ H Q => Tb G N H ∧ ∀ (t : LT) H1, LamX.ExtN H H1 → Tb G N H1 → LsAt X H1 [l] [t] → Q (.ref t.1) H1
theorem pe_lamF {l : LamD} {c P : Addr} (M : LamW X G l c P) : PE X (lamE l) (tLamF G N X l) := ⟨fun pins s σ H Q I h => by
  refine lam_makeF I M.tb M.code M.inT h.1 M.dfl (M.sc.has I.ok) fun f c' q' pm ctv H1 s' eN T1 nf nfc hq hco I1 => ?_
  have hq : q' = X.env.qual ++ "<lambda>" := hq.resolve_left any_ne
  subst hq
  have up : ∀ b o, H1 b = some o → upd H1 f (fzO c' (lmO X l.params l.body l.scope pm c' ctv)) b = some o := fun b o e => by
    rw [upd_ne (ne_of_none e nf)]
    exact e
  exact ⟨.ref f, _, I1, rfl, h.2 (f, pm, c', ctv) _ (eN.trans (LamX.ExtN.of up)) (T1.ext up) ⟨⟨upd_same, up _ _ hco⟩, trivial⟩⟩⟩
def tLams (G : Gx) (N : Pn) (X : Cx) (ls : List LamD) : TA := fun _ H Q => Tb G N H ∧ ∀ (ts : List LT) H1, LamX.ExtN H H1 → Tb G N H1 → LsAt X H1 ls ts → Q (ts.map fun t => .ref t.1) H1
theorem pa_lams {c P : Addr} : ∀ {ls : List LamD}, (∀ l ∈ ls, LamW X G l c P) → PA X (ls.map lamE) (tLams G N X ls)
  | [], _ => ⟨fun pos pins s σ H Q I h => pa_nil.run pos pins s σ H Q I (h.2 [] H (LamX.ExtN.refl H) h.1 trivial)⟩
  | l :: ls, M => ⟨fun pos pins s σ H Q I h => by
    refine (pa_cons (pe_lamF (N := N) (M l List.mem_cons_self)) (pa_lams fun l' hl => M l' (List.mem_cons_of_mem _ hl))).run pos pins s σ H Q I ?_
    refine ⟨h.1, fun t H1 e1 T1 a1 => ⟨T1, fun ts H2 e2 T2 a2 => h.2 (t :: ts) H2 (e1.trans e2) T2 ⟨(LsAt.ext e2 a1).1, a2⟩⟩⟩⟩
theorem Hs.weak (h : Hs G N' H σ ρ st) (hJ : ∀ j ∈ N.J, j ∈ N'.J ∧ N'.s0[j]? = N.s0[j]?) (hL : ∀ p ∈ N.L, p ∈ N'.L) : Hs G N H σ ρ st :=
  ⟨h.len, h.ex, ⟨⟨h.tb.1.1, fun p hp => h.tb.1.2 p (hL p hp)⟩, fun p hp => h.tb.2 p (hL p hp)⟩, fun j hj => (h.pin j (hJ j hj).1).trans (hJ j hj).2⟩
theorem fps.weak {D : Ends} {r : Fl} (p : fps G N W st D r) (hJ : ∀ j ∈ N.J, j ∈ N'.J ∧ N'.s0[j]? = N.s0[j]?) (hL : ∀ p ∈ N.L, p ∈ N'.L) : fps G N' W st D r := by
  cases r with
  | nx ρ => exact fun σ H h => p σ H (h.weak hJ hL)
  | rt s ρ => exact fun v σ H h => p v σ H (h.weak hJ hL)
  | bk ρ => exact fun σ H h => p σ H (h.weak hJ hL)
  | ct ρ => exact fun σ H h => p σ H (h.weak hJ hL)
  | exc c q ρ => exact fun cls d σ H x h => p cls d σ H x (h.weak hJ hL)
  | stuck => exact p
theorem Hs.gone (h : Hs G N H σ ρ st) (o : Option V) : Hs G N H σ ρ ((o, .gone) :: st) := by
  obtain ⟨F, fp, sb, r, n⟩ := h.ex
  exact ⟨h.len, ⟨F, fp, sb, ⟨[], fp, rfl, rfl, r⟩, n⟩, h.tb, h.pin⟩
def bGone (i : Nat) : B := fun ρ => if i < ρ.length then .nx (ρ.set i .gone) else .stuck
theorem bx_lams {x : Str} {i : Nat} {c P : Addr} {ls : List LamD} {lp p' pos : Pos} {rest : List Stmt} {g : B} (M : ∀ l ∈ ls, LamW X G l c P) (hj : i ∉ N.J) (hNd : X.N.Nodup) (hi : X.N[i]? = some x) (hx : Loc X.env.scope x) (hlen : ls.length ≤ 100)
    (hrest : ∀ (s0 : L2.St) (la : Addr) (lo : Obj) (ts : List LT), s0[i]? = some (some (.ref la)) → ts.length = ls.length → BX G ⟨i :: N.J, s0, (la, lo, .lst (ts.map fun t => V.ref t.1)) :: (lockL X ls ts ++ N.L)⟩ X W rest g)
    (hs : swapsWith (.List (ls.map lamE) lp) (some (.Name x p')) pos.line X.env = pure false) (hf : X.fn x = true ∨ X.env.scope.names.lookup x = some .local) :
    BX G N X W (.Assign [.Name x p'] (.List (ls.map lamE) lp) pos :: rest) (bseq (bGone i) g) := fun σ ρ st H D h p => by
  refine sB_of (pss_cons (ps_set (i := i) hNd hi hx (pe_lst (pa_lams (N := N) M)) hs hf) pss_sem) ?_
  unfold bseq bGone at p
  by_cases hl : i < ρ.length
  · rw [if_pos hl] at p
    refine ⟨h.tb, fun ts H1 eN T1 hA => ⟨by rw [List.length_map, hA.len, sizeLine_eq]; omega, fun la nl => ?_⟩⟩
    intro pins sh I
    obtain ⟨lo, I2⟩ := I.lock upd_same trivial
    have h1 : Hs G N H1 σ ρ st := h.grow ⟨eN, T1⟩
    have up : ∀ b o, H1 b = some o → upd (upd H1 la (.lst (ts.map fun t => V.ref t.1))) la (.frz lo (.lst (ts.map fun t => V.ref t.1))) b = some o := fun b o e => by
      rw [upd_ne (ne_of_none e nl), upd_ne (ne_of_none e nl)]
      exact e
    have h2 : Hs G N (upd (upd H1 la (.lst (ts.map fun t => V.ref t.1))) la (.frz lo (.lst (ts.map fun t => V.ref t.1)))) σ ρ st := h1.grow ⟨LamX.ExtN.of up, T1.ext up⟩
    have hls : σ.length = ρ.length := h.len
    have h3 := (h2.gone (some (.ref la))).assign hl hj
    have hs0 : (σ.set i (some (V.ref la)))[i]? = some (some (.ref la)) := by rw [List.getElem?_set_self (by omega)]
    have hJ : ∀ j ∈ N.J, j ∈ (⟨i :: N.J, σ.set i (some (.ref la)), (la, lo, .lst (ts.map fun t => V.ref t.1)) :: (lockL X ls ts ++ N.L)⟩ : Pn).J ∧ (σ.set i (some (V.ref la)))[j]? = N.s0[j]? := fun j hj' => ⟨List.mem_cons_of_mem _ hj', by
      have ne : i ≠ j := fun z => hj (by rw [z]; exact hj')
      rw [List.getElem?_set_ne ne]
      exact h.pin j hj'⟩
    have hL : ∀ p ∈ N.L, p ∈ (⟨i :: N.J, σ.set i (some (.ref la)), (la, lo, .lst (ts.map fun t => V.ref t.1)) :: (lockL X ls ts ++ N.L)⟩ : Pn).L := fun q hq => List.mem_cons_of_mem _ (List.mem_append_right _ hq)
    have hA2 : LsAt X (upd (upd H1 la (.lst (ts.map fun t => V.ref t.1))) la (.frz lo (.lst (ts.map fun t => V.ref t.1)))) ls ts := hA.ext (LamX.ExtN.of up)
    have h4 : Hs G ⟨i :: N.J, σ.set i (some (.ref la)), (la, lo, .lst (ts.map fun t => V.ref t.1)) :: (lockL X ls ts ++ N.L)⟩ (upd (upd H1 la (.lst (ts.map fun t => V.ref t.1))) la (.frz lo (.lst (ts.map fun t => V.ref t.1)))) (σ.set i (some (.ref la))) (ρ.set i .gone) st := by
      refine ⟨h3.len, h3.ex, ⟨⟨h3.tb.1.1, fun q hq c' fd e1 e2 => ?_⟩, fun q hq => ?_⟩, fun j _ => rfl⟩
      · rcases List.mem_cons.mp hq with e | hq
        · subst e
          cases e1
        · rcases List.mem_append.mp hq with hq | hq
          · exact (hA2.frz q hq).2 c' fd e1 e2
          · exact h3.tb.1.2 q hq c' fd e1 e2
      · rcases List.mem_cons.mp hq with e | hq
        · subst e
          exact upd_same
        · rcases List.mem_append.mp hq with hq | hq
          · exact (hA2.frz q hq).1
          · exact h3.tb.2 q hq
    exact hrest _ la lo ts hs0 hA.len _ _ _ _ _ h4 (p.weak hJ hL) pins sh I2
  · rw [if_neg hl] at p
    exact p.elim
end
end DL
/-! what the head tells of an exception class with an __init__ of its own; the hook that tells it -/
namespace DL
open PySem PySem.Spec PyProof.Rows L2 PySem.W
def btCls (K : PySem.W.Frag) (C : Addr) : Bool := match K.lookup C with
  | some ⟨.type "type", _, .cls cd, sl⟩ => (match cd.mro, sl.toList with
    | .ref C' :: bm, [_, _, _, _, some (.builtin n), _] => C' == C && n == "ValueError.__new__" && !cd.hasDel && PySem.HandSPX.refsVE bm && cd.hasDict
    | _, _ => false)
  | _ => false
theorem btCls_ok {K : PySem.W.Frag} {C : Addr} (q : btCls K C = true) : ∃ nm q N bs bm sn sub ab col dd k0 k1 k2 k3 k5, K.lookup C = some (excClassObj nm q C N bs bm true sn sub ab col dd k0 k1 k2 k3 k5 "ValueError.__new__") ∧ PySem.HandSPX.refsVE bm = true := by
  unfold btCls at q
  split at q
  · rename_i dd cd sl ho
    split at q
    · rename_i C' bm k0 k1 k2 k3 n k5 hm hs
      simp only [Bool.and_eq_true, beq_iff_eq, Bool.not_eq_true'] at q
      obtain ⟨⟨⟨⟨e1, e2⟩, hdel⟩, ht⟩, hh⟩ := q
      subst e1 e2
      obtain ⟨nm, bs, mro, ns, qn, hd, sn, sub, ab, col, del⟩ := cd
      dsimp only at hm hdel hh
      subst hm hdel hh
      have hsl : sl = #[k0, k1, k2, k3, some (.builtin "ValueError.__new__"), k5] := by
        obtain ⟨l⟩ := sl
        simp only at hs
        rw [hs]
      subst hsl
      exact ⟨nm, qn, ns, bs, bm, sn, sub, ab, col, dd, k0, k1, k2, k3, k5, ho, ht⟩
    · cases q
  · cases q
abbrev FnB : Type := Option (Str × Str × Arguments × FuncBody × Scope × Addr × Addr)
def fnB (K : PySem.W.Frag) (C : Addr) : FnB := match K.lookup (He.ma K C "__init__") with
  | some ⟨_, _, .func fd, _⟩ => some (fd.name, fd.qualname, fd.params, fd.body, fd.scope, fd.globals, fd.builtins)
  | _ => none
def fnBV (qual : Str) (stm : Stmt) : FnB := some ("__init__", qual, defArgs stm, .stmts (defBody stm), defScope stm, mainGlobals, builtinsNs)
def btCell (K : PySem.W.Frag) (C cell : Addr) : Bool := match K.lookup cell with
  | some ⟨_, _, .cell (some (.ref D)), _⟩ => decide (D = C)
  | _ => false
def btFile (K : PySem.W.Frag) (file : Str) (cda : Addr) : Bool := match K.lookup cda with
  | some ⟨_, _, .fields vs, _⟩ => (match (vs[2]? : Option Value) with
    | some (.str f _) => file == f
    | _ => false)
  | _ => false
def btFn (K : PySem.W.Frag) (C : Addr) (file qual : Str) : Bool := match K.lookup (He.ma K C "__init__") with
  | some ⟨_, _, .func fd, _⟩ => (match fd.closure, fd.code, fd.defaults with
    | [(x, cell)], .ref cda, .none => decide (x = "__class__") && (btCell K C cell && (btFile K file cda && PySem.W.codeIn K (.ref cda) qual))
    | _, _, _ => false)
  | _ => false
def eqB (a b : Option Bool) : Bool := decide (a = b)
theorem eqB_ok {a b : Option Bool} (h : eqB a b = true) : a = b := of_decide_eq_true h
def eqV1 (a b : Option Value) : Bool := decide (a = b)
theorem eqV1_ok {a b : Option Value} (h : eqV1 a b = true) : a = b := of_decide_eq_true h
def btB (K : PySem.W.Frag) (C : Addr) (file qual fld : Str) : Bool :=
  btCls K C && (He.eqO (findIn K (.ref C) "__setattr__") (some (some (.builtin "object.__setattr__"))) && (eqB (subIn K (.ref C) (.type "BaseException")) (some true) && (eqV1 (typeIn K (.ref C)) (some (.type "type")) && (keepIn K (.ref C) && (btFn K C file qual &&
  (He.eqO (ks_superIn K C C "__init__") (some (some (.builtin "ValueError.__init__"))) && (eqB (subIn K (.ref C) (.type "ValueError")) (some true) && (eqB (mroIn K C (.ref C)) (some true) && (He.eqO (findIn K (.ref C) fld) (some none) && (He.eqO (nsIn K cStatics "thirdparty.any") (some none) &&
  (He.eqO (findIn K (.ref C) "__init__") (some (some (.ref (He.ma K C "__init__")))) && eqV1 (typeIn K (.ref (He.ma K C "__init__"))) (some (.type "function")))))))))))))
/-- the class at C, all told -/
structure BtF (P : Program) (K : PySem.W.Frag) (mg : Str → Option Value) (C : Addr) (qual fld : Str) (stm : Stmt) : Prop where
  ex : ∃ cell cda fd, BtK P K mg C (He.ma K C "__init__") cell cda qual fld stm fd
  ini : findIn K (.ref C) "__init__" = some (some (.ref (He.ma K C "__init__")))
  ty : typeIn K (.ref (He.ma K C "__init__")) = some (.type "function")
theorem btF_of {P : Program} {K : PySem.W.Frag} {mg : Str → Option Value} {C : Addr} {file qual fld : Str} {stm : Stmt} (h : btB K C file qual fld = true) (e : fnB K C = fnBV qual stm) (hfile : P.main.file = file) (hsup : mg "super" = none) (htop : (P.main.scope.names.lookup ("super" : Str)).isSome = false) : BtF P K mg C qual fld stm := by
  unfold btB at h
  obtain ⟨h1, h⟩ := He.ba h
  obtain ⟨h2, h⟩ := He.ba h
  obtain ⟨h3, h⟩ := He.ba h
  obtain ⟨h4, h⟩ := He.ba h
  obtain ⟨h5, h⟩ := He.ba h
  obtain ⟨h6, h⟩ := He.ba h
  obtain ⟨h7, h⟩ := He.ba h
  obtain ⟨h8, h⟩ := He.ba h
  obtain ⟨h9, h⟩ := He.ba h
  obtain ⟨h10, h⟩ := He.ba h
  obtain ⟨h11, h⟩ := He.ba h
  obtain ⟨h12, h13⟩ := He.ba h
  refine ⟨?_, He.eqO_ok h12, eqV1_ok h13⟩
  unfold fnB fnBV at e
  unfold btFn at h6
  cases q : K.lookup (He.ma K C "__init__") with
  | none => rw [q] at e; cases e
  | some o =>
    obtain ⟨oc, od, dt, osl⟩ := o
    rw [q] at e h6
    cases dt with
    | func fd =>
      obtain ⟨n1, n2, n3, n4, n5, n6, n7, n8, n9, n10, n11, n12, n13, n14, n15⟩ := fd
      dsimp only at e h6
      simp only [Option.some.injEq, Prod.mk.injEq] at e
      obtain ⟨e1, e2, e3, e4, e5, e6, e7⟩ := e
      subst e1 e2 e3 e4 e5 e6 e7
      split at h6
      · rename_i x cell cda
        obtain ⟨g1, g⟩ := He.ba h6
        obtain ⟨g2, g⟩ := He.ba g
        obtain ⟨g3, g4⟩ := He.ba g
        have g1 := of_decide_eq_true g1
        subst g1
        refine ⟨cell, cda, _, ⟨⟨btCls_ok h1, He.eqO_ok h2, eqB_ok h3, eqV1_ok h4, h5⟩, ⟨oc, od, n9, n10, n11, n12, n14, osl, rfl, q, g4⟩, ?_, ?_, He.eqO_ok h7, eqB_ok h8, eqB_ok h9, He.eqO_ok h10, He.eqO_ok h11, hsup, htop⟩⟩
        · unfold btFile at g3
          cases q2 : K.lookup cda with
          | none => rw [q2] at g3; cases g3
          | some o2 =>
            obtain ⟨a1, a2, a3, a4⟩ := o2
            rw [q2] at g3
            cases a3 with
            | fields vs =>
              dsimp only at g3
              cases q3 : vs[2]? with
              | none => rw [q3] at g3; cases g3
              | some v =>
                rw [q3] at g3
                cases v with
                | str f tf => exact ⟨a1, a2, vs, a4, f, tf, rfl, q3, by rw [hfile]; exact g3⟩
                | _ => cases g3
            | _ => cases g3
        · unfold btCell at g2
          cases q2 : K.lookup cell with
          | none => rw [q2] at g2; cases g2
          | some o2 =>
            obtain ⟨a1, a2, a3, a4⟩ := o2
            rw [q2] at g2
            cases a3 with
            | cell v =>
              cases v with
              | none => cases g2
              | some v =>
                cases v with
                | ref D =>
                  have g2 := of_decide_eq_true g2
                  subst g2
                  exact ⟨a1, a2, a4, rfl⟩
                | _ => cases g2
            | _ => cases g2
      · cases h6
    | _ => cases e
/-! ### the hook -/
def asY (g : Addr → Option Obj) (n : Nat) : List Addr := cStatics :: He.asD g n
abbrev AlY : Type := He.AlX × FnB
def obsY (n : Nat) (fa : List He.Fa) (fn : List He.DefD) (tf : List He.Defn) (ex : PySem.W.Frag → Bool) (cn : Str) (g : Addr → Option Obj) : AlY :=
  ((He.obsT fa fn [] (He.frT g (asY g n)), ex (He.frT g (asY g n)) && He.tabsB g tf (He.frT g (asY g n))), fnB (He.frT g (asY g n)) (He.ga (He.frT g (asY g n)) cn))
theorem saysY_of {n : Nat} {fa : List He.Fa} {fn : List He.DefD} {tf : List He.Defn} {ex : PySem.W.Frag → Bool} {cn qual : Str} {stm : Stmt} {w : World} {h : Heap} (e : obsY n fa fn tf ex cn h.get? = (He.valX fn [] w, fnBV qual stm)) :
    He.SaysX fa fn [] tf ex w h (He.frT h.get? (asY h.get? n)) ∧ fnB (He.frT h.get? (asY h.get? n)) (He.ga (He.frT h.get? (asY h.get? n)) cn) = fnBV qual stm := by
  have e0 := congrArg Prod.fst e
  have eB := congrArg Prod.snd e
  refine ⟨?_, eB⟩
  have e1 : He.obsT fa fn [] (He.frT h.get? (asY h.get? n)) = He.valT fn [] w := congrArg Prod.fst e0
  have e2 : (ex (He.frT h.get? (asY h.get? n)) && He.tabsB h.get? tf (He.frT h.get? (asY h.get? n))) = true := congrArg Prod.snd e0
  obtain ⟨h1, h2⟩ := He.ba e2
  have key : ∀ p ∈ tf, codeHdIn (He.frT h.get? (asY h.get? n)) (He.cT (He.frT h.get? (asY h.get? n)) p).1 (He.cT (He.frT h.get? (asY h.get? n)) p).2 = true ∧ ∃ o, h.get? (He.cT (He.frT h.get? (asY h.get? n)) p).2 = some o ∧ He.emptyTab o = true := fun p hp => by
    obtain ⟨g1, g2⟩ := He.ba (List.all_eq_true.mp h2 p hp)
    refine ⟨g1, ?_⟩
    cases q : h.get? (He.cT (He.frT h.get? (asY h.get? n)) p).2 with
    | none => rw [q] at g2; cases g2
    | some o => rw [q] at g2; exact ⟨o, rfl, g2⟩
  refine ⟨e1, h1, fun p hp => (key p hp).1, fun p hp => ?_, fun p hp => ?_⟩
  · obtain ⟨_, o, q, z⟩ := key p hp
    exact He.frT_none q z
  · obtain ⟨_, o, q, z⟩ := key p hp
    rw [q, He.emptyTab_eq z]
def hookY (n : Nat) (fa : List He.Fa) (fn : List He.DefD) (tf : List He.Defn) (ex : PySem.W.Frag → Bool) (cn qual : Str) (stm : Stmt) : PySem.W.Hook where
  α := AlY
  obs := fun s => obsY n fa fn tf ex cn s.heap.get?
  val := fun w => (He.valX fn [] w, fnBV qual stm)
  says := fun w h => ∃ K : PySem.W.Frag, K.In h ∧ (He.SaysX fa fn [] tf ex w h K ∧ fnB K (He.ga K cn) = fnBV qual stm)
  of := fun _ _ e => ⟨_, He.frT_in, saysY_of e⟩
  keeps := fun _ _ _ ⟨K, hK, c, e⟩ k => ⟨K, hK.keeps k, ⟨c.t, c.more, c.hd, c.out, fun p hp => k _ _ (c.empty p hp)⟩, e⟩
theorem obsY_eq {n : Nat} {fa : List He.Fa} {fn : List He.DefD} {tf : List He.Defn} {ex : PySem.W.Frag → Bool} {cn qual : Str} {stm : Stmt} {g : Addr → Option Obj} {s : Shared} (h : ∀ a, g a = s.heap.get? a) : obsY n fa fn tf ex cn g = (hookY n fa fn tf ex cn qual stm).obs s := by
  have e : g = s.heap.get? := funext h
  subst e
  rfl
end DL
/-! lists of lambdas as they stand in the text -/
namespace DL
open PySem PySem.Spec PyProof.Rows L2
inductive LWs (X : Cx) : List Expr → List LamD → Prop
  | nil : LWs X [] []
  | cons {params : Arguments} {body : Expr} {scope : Scope} {pos : Pos} {es : List Expr} {ls : List LamD} (d : defaultsOf params X.env = ([], [])) (sc : LamX.LamS X.env.scope scope) (r : LWs X es ls) : LWs X (.Lambda params body scope pos :: es) (⟨params, body, scope, pos⟩ :: ls)
theorem LWs.map {X : Cx} : ∀ {es : List Expr} {ls : List LamD}, LWs X es ls → es = ls.map lamE
  | _, _, .nil => rfl
  | _, _, .cons _ _ r => by rw [List.map_cons, ← LWs.map r]
theorem LWs.all {X : Cx} {G : Gx} {c P : Addr} (h1 : LamX.TabB X.base X.mg c P) (h2 : X.env.code = .ref c) (h3 : InT G P (X.env.qual ++ "<lambda>") (X.env.qual ++ "<lambda>")) : ∀ {es : List Expr} {ls : List LamD}, LWs X es ls → ∀ l ∈ ls, LamW X G l c P
  | _, _, .nil, l, hl => by cases hl
  | _, _, .cons d sc r, l, hl => by
    rcases List.mem_cons.mp hl with e | hl
    · subst e
      exact ⟨h1, h2, h3, d, sc⟩
    · exact LWs.all h1 h2 h3 r l hl
theorem LWs.len {X : Cx} : ∀ {es : List Expr} {ls : List LamD}, LWs X es ls → ls.length = es.length
  | _, _, .nil => rfl
  | _, _, .cons _ _ r => by rw [List.length_cons, List.length_cons, LWs.len r]
inductive LKs (X : Cx) (G : Gx) (N : Pn) (k : Nat) : List LamD → List (M S) → Prop
  | nil : LKs X G N k [] []
  | cons {params : Arguments} {body : Expr} {scope : Scope} {pos : Pos} {ls : List LamD} {f : M S} {fs : List (M S)} (sc : LamX.LamS X.env.scope scope) (bind : ∀ (q : Str) (cl : List (Str × Addr)) (pm cv ctv : Value), bindArgs (PySem.W.kla_fn "<lambda>" q params body scope cl pm cv ctv) ⟨[], []⟩ = pure [])
      (b : ∀ (A : Around) (outer : List Env) (s : Shared) (H : Hp) (E : XK) (f' c' : Addr), Room k (A.deeper (LamX.lamEnv X scope s.heap.objs.size f' c')) → EX G N (LamX.lamCx X A outer s H E scope f' c') (fun cls d _ H => E cls d H) body f) (r : LKs X G N k ls fs) :
      LKs X G N k (⟨params, body, scope, pos⟩ :: ls) (f :: fs)
theorem LKs.at {X : Cx} {G : Gx} {N : Pn} {k : Nat} : ∀ {ls : List LamD} {fs : List (M S)}, LKs X G N k ls fs → ls.length = fs.length ∧ ∀ (n : Nat) (f : M S), fs[n]? = some f → ∃ l, ls[n]? = some l ∧ LamK X G N k l f
  | _, _, .nil => ⟨rfl, fun n f e => by simp at e⟩
  | _, _, .cons sc bind b r => by
    obtain ⟨h1, h2⟩ := LKs.at r
    refine ⟨by simp [h1], fun n f e => ?_⟩
    cases n with
    | zero =>
      simp at e
      subst e
      exact ⟨_, rfl, sc, bind, b⟩
    | succ n =>
      obtain ⟨l, e1, K⟩ := h2 n f (by simpa using e)
      exact ⟨l, by simpa using e1, K⟩
section
variable {G : Gx} {X : Cx} {W : WX} {J : List Nat} {s0 : L2.St} {LL : List (Addr × Obj × HO)}
theorem bx_lamL {x : Str} {i : Nat} {c P : Addr} {es : List Expr} {ls : List LamD} {lp p' pos : Pos} {rest : List Stmt} {g : B} (h1 : LamX.TabB X.base X.mg c P) (h2 : X.env.code = .ref c) (h3 : InT G P (X.env.qual ++ "<lambda>") (X.env.qual ++ "<lambda>")) (M : LWs X es ls) (hj : i ∉ J) (hNd : X.N.Nodup)
    (hrest : ∀ (s0 : L2.St) (la : Addr) (lo : Obj) (ts : List LT), s0[i]? = some (some (.ref la)) → ts.length = ls.length → BX G ⟨i :: J, s0, (la, lo, .lst (ts.map fun t => V.ref t.1)) :: (lockL X ls ts ++ LL)⟩ X W rest g)
    (hi : X.N[i]? = some x := by rfl) (hx : Loc X.env.scope x := by first | exact .inl rfl | exact .inr rfl) (hlen : es.length ≤ 100 := by decide)
    (hs : swapsWith (.List es lp) (some (.Name x p')) pos.line X.env = pure false := by rfl) (hf : X.fn x = true ∨ X.env.scope.names.lookup x = some .local := by first | exact .inl rfl | exact .inr rfl) :
    BX G ⟨J, s0, LL⟩ X W (.Assign [.Name x p'] (.List es lp) pos :: rest) (bseq (bGone i) g) := by
  have e := M.map
  have hl := M.len
  have M2 := M.all h1 h2 h3
  rw [← hl] at hlen
  subst e
  exact bx_lams (N := ⟨J, s0, LL⟩) M2 hj hNd hi hx hlen hrest hs hf
theorem ex_undL {x xs xk : Str} {i j k : Nat} {la : Addr} {lo : Obj} {ls : List LamD} {ts : List LT} {fs : List (M S)} {rows : List (Nat × List Bool)} {p pos q1 q2 q3 : Pos} (U : UndF X.K X.mg G x rows) (hr : Room (k + 2) X.A) (hGK : X.K = G.K) (hi2 : s0[i]? = some (some (.ref la))) (hts : ts.length = ls.length)
    (Ks : LKs X G ⟨i :: J, s0, (la, lo, .lst (ts.map fun t => V.ref t.1)) :: (lockL X ls ts ++ LL)⟩ k ls fs)
    (hN1 : X.N[i]? = some xs := by rfl) (hN2 : X.N[j]? = some xk := by rfl) (hv1 : Vis X.env.scope xs := by first | exact Or.inl rfl | exact Or.inr (Or.inl rfl) | exact Or.inr (Or.inr rfl)) (hv2 : Vis X.env.scope xk := by first | exact Or.inl rfl | exact Or.inr (Or.inl rfl) | exact Or.inr (Or.inr rfl))
    (d1 : (xs == ("__debug__" : Str)) = false := by decide) (d2 : (xk == ("__debug__" : Str)) = false := by decide) (d3 : (xs == ("__classdict__" : Str)) = false := by decide) (d4 : (xk == ("__classdict__" : Str)) = false := by decide) (hgl : Gl X x := by rfl) (hdb : (x == ("__debug__" : Str)) = false := by decide)
    (he : starEach [.Subscript (.Name xs q1) (.Name xk q2) q3] X.env = (false, eval (.Subscript (.Name xs q1) (.Name xk q2) q3) X.env) :: starEach [] X.env := by rfl) (hpl : (backTo pos (starEach [] X.env)).any (·.1) = false := by rfl) :
    EX G ⟨i :: J, s0, (la, lo, .lst (ts.map fun t => V.ref t.1)) :: (lockL X ls ts ++ LL)⟩ X W (.Call (.Name x p) [.Subscript (.Name xs q1) (.Name xk q2) q3] [] pos) (mPick j fs rows) := by
  obtain ⟨l1, l2⟩ := Ks.at
  refine ex_und (i := i) (ls := ls) U hr hGK List.mem_cons_self hi2 List.mem_cons_self (hts.trans l1) (fun n t f et ef => ?_) hN1 hN2 hv1 hv2 d1 d2 d3 d4 hgl hdb he hpl
  obtain ⟨l, el, K⟩ := l2 n f ef
  exact ⟨l, List.mem_cons_of_mem _ (List.mem_append_left _ (lock_at el et)), K⟩
end
end DL
/-! the facts of a law with such a class, packed -/
namespace DL
open PySem PySem.Spec PyProof.Rows L2 PySem.W
structure EnB (P : Program) (fa : List He.Fa) (fn : List He.DefD) (tq : TQ) (w : World) (K : PySem.W.Frag) (mg : Str → Option Value) (base : Heap) (cn qual fld : Str) (stm : Stmt) (more : PySem.W.Frag → Bool) : Prop extends En fa fn tq w K mg base where
  bt : BtF P K mg (He.ga K cn) qual fld stm
  mr : more K = true
/-- what stands in the hook's Bool -/
def exB (fa : List He.Fa) (tq : TQ) (cn file qual fld : Str) (more : PySem.W.Frag → Bool) (K : PySem.W.Frag) : Bool := tabE fa tq K && (btB K (He.ga K cn) file qual fld && more K)
theorem says_tab {fa : List He.Fa} {fn : List He.DefD} {tq : TQ} {tf : List He.Defn} {cn file qual fld : Str} {more : PySem.W.Frag → Bool} {w : World} {h : Heap} {K : PySem.W.Frag} (c : He.SaysX fa fn [] tf (exB fa tq cn file qual fld more) w h K) : He.SaysX fa fn [] tf (tabE fa tq) w h K :=
  ⟨c.t, (He.ba c.more).1, c.hd, c.out, c.empty⟩
def excCB (K : PySem.W.Frag) (D : Addr) : Bool :=
  He.eqO (findIn K (.ref D) "__getattribute__") (some (some (.builtin "BaseException.__getattribute__"))) && (He.eqO (findIn K (.ref D) "__getattr__") (some none) && (eqB (subIn K (.ref D) (.type "BaseException")) (some true) && (hasDictIn K D && (He.eqO (findIn K (.ref D) "__class__") (some (some (.builtin "object.__class__"))) &&
  (He.eqO (specialIn K (.builtin "object.__class__") "__get__") (some (some (.builtin "getset_descriptor.__get__"))) && (eqB (takesIn K (.builtin "object.__class__")) (some true) && eqB (mroIn K D (.type "object")) (some true)))))))
theorem excCB_ok {K : PySem.W.Frag} {D : Addr} (h : excCB K D = true) : ExcC K D := by
  unfold excCB at h
  obtain ⟨h1, h⟩ := He.ba h
  obtain ⟨h2, h⟩ := He.ba h
  obtain ⟨h3, h⟩ := He.ba h
  obtain ⟨h4, h⟩ := He.ba h
  obtain ⟨h5, h⟩ := He.ba h
  obtain ⟨h6, h⟩ := He.ba h
  obtain ⟨h7, h8⟩ := He.ba h
  exact ⟨He.eqO_ok h1, He.eqO_ok h2, eqB_ok h3, h4, He.eqO_ok h5, He.eqO_ok h6, eqB_ok h7, eqB_ok h8⟩
def kitLB (K : PySem.W.Frag) (D : Addr) : List (V × Value) → List Bool → Bool
  | [], [] => true
  | c :: cs, b :: bs => eqB (kitOne K (.ref D) c.2) (some b) && kitLB K D cs bs
  | _, _ => false
theorem kitLB_ok {K : PySem.W.Frag} {D : Addr} : ∀ {cs : List (V × Value)} {bs : List Bool}, kitLB K D cs bs = true → KitL K D cs bs
  | [], [], _ => trivial
  | [], _ :: _, h => by cases h
  | _ :: _, [], h => by cases h
  | c :: cs, b :: bs, h => by
    obtain ⟨h1, h2⟩ := He.ba (show (eqB (kitOne K (.ref D) c.2) (some b) && kitLB K D cs bs) = true from h)
    exact ⟨eqB_ok h1, kitLB_ok h2⟩
def ownC (K : PySem.W.Frag) (x : Str) : V × Value := (.ref (He.ga K x), .ref (He.ga K x))
/-- per class: its name, what isinstance answers for it -/
def undB (cf : Str) (n1 n2 : List Str) (T : String) (rows : List (Str × List Bool × List Bool × List Bool)) (K : PySem.W.Frag) : Bool := rows.all fun r =>
  eqB (exmOne K (.ref (He.ga K r.1)) (.ref (He.ga K cf))) (some true) && (excCB K (He.ga K r.1) && (kitLB K (He.ga K r.1) (n1.map (ownC K)) r.2.1 && (kitLB K (He.ga K r.1) (n2.map (ownC K)) r.2.2.1 && kitLB K (He.ga K r.1) [(.ty T, .type T)] r.2.2.2)))
theorem undB_ok {cf : Str} {n1 n2 : List Str} {T : String} {rows : List (Str × List Bool × List Bool × List Bool)} {K : PySem.W.Frag} (h : undB cf n1 n2 T rows K = true) {r : Str × List Bool × List Bool × List Bool} (hr : r ∈ rows) :
    exmOne K (.ref (He.ga K r.1)) (.ref (He.ga K cf)) = some true ∧ ExcC K (He.ga K r.1) ∧ KitL K (He.ga K r.1) (n1.map (ownC K)) r.2.1 ∧ KitL K (He.ga K r.1) (n2.map (ownC K)) r.2.2.1 ∧ KitL K (He.ga K r.1) [(.ty T, .type T)] r.2.2.2 := by
  have h := List.all_eq_true.mp h r hr
  obtain ⟨h1, h⟩ := He.ba h
  obtain ⟨h2, h⟩ := He.ba h
  obtain ⟨h3, h⟩ := He.ba h
  obtain ⟨h4, h5⟩ := He.ba h
  exact ⟨eqB_ok h1, excCB_ok h2, kitLB_ok h3, kitLB_ok h4, kitLB_ok h5⟩
theorem IsS.app {sg : Scope} {mg : Str → Option Value} : ∀ {es es' : List Expr} {cs cs' : List (V × Value)}, IsS sg mg es cs → IsS sg mg es' cs' → IsS sg mg (es ++ es') (cs ++ cs')
  | _, _, _, _, .nil, h => h
  | _, _, _, _, .own a b c r, h => .own a b c (IsS.app r h)
  | _, _, _, _, .blt a b c d e r, h => .blt a b c d e (IsS.app r h)
section
variable {P : Program} {fa : List He.Fa} {fn : List He.DefD} {tq : TQ} {w : World} {K : PySem.W.Frag} {mg : Str → Option Value} {base : Heap} {cn qual m : Str} {stm : Stmt} {more : PySem.W.Frag → Bool} {p0 p1 p2 p3 p4 p5 p6 p7 p8 p9 : Pos} {j : Nat}
theorem EnB.calB (E : EnB P fa fn tq w K mg base cn qual "row" stm more) {G : Gx} {c : Nat} (hc : G.cl c = He.ga K cn) (hg : He.Fa.glo cn ∈ fa) (T : ∃ (m : Str) (p0 p1 p2 p3 p4 p5 p6 p7 p8 p9 : Pos) (j : Nat), BtS qual "row" m "row" stm p0 p1 p2 p3 p4 p5 p6 p7 p8 p9 j)
    (hb : ∀ (kV doc pm : Value) (an : Option Addr) (cdv ct : Value) (cell : Addr) (us : List Value), us.length = 2 → bindArgs (ksFn "__init__" qual (defArgs stm) (defBody stm) (defScope stm) .none kV doc pm an cdv ct cell) ⟨us, []⟩ = pure ((["self", "row"] : List Str).zip us)) : CalB P w K mg base G 1 cn c := by
  obtain ⟨cell, cda, fd, B⟩ := E.bt.ex
  obtain ⟨m, p0, p1, p2, p3, p4, p5, p6, p7, p8, p9, j, T⟩ := T
  refine ⟨⟨He.ma K (He.ga K cn) "__init__", fd, by rw [hc]; exact B.oex, by rw [hc]; exact E.bt.ini, E.bt.ty, by rw [hc]; exact bt_fn B T, ?_⟩, by rw [hc]; exact E.glo cn hg⟩
  obtain ⟨oc, od, kV, doc, pm, an, ct, osl, rfl, lk, hcode⟩ := B.fn
  exact .all (hb kV doc pm an (.ref cda) ct cell)
end
end DL
/-! reckoning with the mirrors: each form evaluated once its parts are -/
namespace DL
open PySem PySem.Spec PyProof.Rows L2
/-! ### what waits for its value -/
def rb {α β : Type} (r : Res α) (g : α → M β) : Res β := match r with
  | .ok a ρ => g a ρ
  | .exc c p ρ => .exc c p ρ
  | .stuck => .stuck
def fb (r : Fl) (h : B) : Fl := match r with
  | .nx ρ => h ρ
  | r => r
def db {α : Type} (r : Res α) (k : α → B) : Fl := match r with
  | .ok a ρ => k a ρ
  | .exc c p ρ => .exc c p ρ
  | .stuck => .stuck
def ib {α : Type} (r : Res Bool) (g h : List S → α) (e : Nat → D → List S → α) (z : α) : α := match r with
  | .ok b ρ => if b then g ρ else h ρ
  | .exc c p ρ => e c p ρ
  | .stuck => z
section
variable {α β : Type} {a : α} {ρ : List S} {c : Nat} {p : D}
theorem rb_ok (g : α → M β) : rb (.ok a ρ) g = g a ρ := (rfl)
theorem rb_exc (g : α → M β) : rb (.exc c p ρ) g = .exc c p ρ := (rfl)
theorem fb_nx (h : B) : fb (.nx ρ) h = h ρ := (rfl)
theorem fb_rt {s : S} (h : B) : fb (.rt s ρ) h = .rt s ρ := (rfl)
theorem fb_exc (h : B) : fb (.exc c p ρ) h = .exc c p ρ := (rfl)
theorem fb_bk (h : B) : fb (.bk ρ) h = .bk ρ := (rfl)
theorem fb_ct (h : B) : fb (.ct ρ) h = .ct ρ := (rfl)
theorem db_ok (k : α → B) : db (.ok a ρ) k = k a ρ := (rfl)
theorem db_exc (k : α → B) : db (.exc c p ρ) k = .exc c p ρ := (rfl)
theorem ib_t (g h : List S → α) (e : Nat → D → List S → α) (z : α) : ib (.ok true ρ) g h e z = g ρ := (rfl)
theorem ib_f (g h : List S → α) (e : Nat → D → List S → α) (z : α) : ib (.ok false ρ) g h e z = h ρ := (rfl)
theorem ib_exc (g h : List S → α) (e : Nat → D → List S → α) (z : α) : ib (.exc c p ρ) g h e z = e c p ρ := (rfl)
theorem ib_d {q : Prop} [Decidable q] (g h : List S → α) (e : Nat → D → List S → α) (z : α) : ib (.ok (decide q) ρ) g h e z = if q then g ρ else h ρ := by
  by_cases hq : q <;> simp [ib, hq]
theorem ib_nd {q : Prop} [Decidable q] (g h : List S → α) (e : Nat → D → List S → α) (z : α) : ib (.ok (!decide q) ρ) g h e z = if q then h ρ else g ρ := by
  by_cases hq : q <;> simp [ib, hq]
end
/-! ### statements -/
section
variable {α : Type} (ρ : List S)
theorem e_mbind {β : Type} (f : M α) (g : α → M β) : mbind f g ρ = rb (f ρ) g := (rfl)
theorem e_mpure (a : α) : mpure a ρ = .ok a ρ := (rfl)
theorem e_bnx : bnx ρ = .nx ρ := (rfl)
theorem e_bseq (g h : B) : bseq g h ρ = fb (g ρ) h := by
  unfold bseq fb
  cases g ρ <;> rfl
theorem e_bdo (f : M α) (k : α → B) : bdo f k ρ = db (f ρ) k := (rfl)
theorem e_bset (i : Nat) (s : S) (h : i < ρ.length) : bset i s ρ = .nx (ρ.set i s) := if_pos h
theorem e_bAsg (i : Nat) (f : M S) : bAsg i f ρ = db (f ρ) (bset i) := (rfl)
theorem e_bRet (f : M S) : bRet f ρ = db (f ρ) fun s ρ => .rt s ρ := (rfl)
theorem e_bExp (f : M S) : bExp f ρ = db (f ρ) fun _ ρ => .nx ρ := (rfl)
theorem e_bIf (t : M Bool) (g h : B) : bIf t g h ρ = ib (t ρ) g h (fun c p ρ => .exc c p ρ) .stuck := by
  unfold bIf bdo ib
  cases t ρ with
  | ok b ρ' => cases b <;> rfl
  | exc c p ρ' => rfl
  | stuck => rfl
theorem e_mIf (t : M Bool) (f g : M α) : mIf t f g ρ = ib (t ρ) f g (fun c p ρ => .exc c p ρ) .stuck := by
  unfold mIf mbind ib
  cases t ρ with
  | ok b ρ' => cases b <;> rfl
  | exc c p ρ' => rfl
  | stuck => rfl
theorem e_mAnd (t u : M Bool) : mAnd t u ρ = ib (t ρ) u (fun ρ => .ok false ρ) (fun c p ρ => .exc c p ρ) .stuck := by
  unfold mAnd mbind ib
  cases t ρ with
  | ok b ρ' => cases b <;> rfl
  | exc c p ρ' => rfl
  | stuck => rfl
theorem e_mOr (t u : M Bool) : mOr t u ρ = ib (t ρ) (fun ρ => .ok true ρ) u (fun c p ρ => .exc c p ρ) .stuck := by
  unfold mOr mbind ib
  cases t ρ with
  | ok b ρ' => cases b <;> rfl
  | exc c p ρ' => rfl
  | stuck => rfl
def nb (r : Res Bool) : Res Bool := match r with
  | .ok b ρ => .ok (!b) ρ
  | r => r
theorem e_mNot (t : M Bool) : mNot t ρ = nb (t ρ) := by
  unfold mNot mbind nb mpure
  cases t ρ <;> rfl
def vb (r : Res S) : Res Bool := match r with
  | .ok (.d (.bl b)) ρ => .ok b ρ
  | .exc c p ρ => .exc c p ρ
  | _ => .stuck
theorem e_mT (f : M S) : mT f ρ = vb (f ρ) := by
  unfold mT mbind vb
  cases h : f ρ with
  | ok s ρ' => cases s with
    | d x => cases x <;> rfl
    | _ => rfl
  | exc c p ρ' => rfl
  | stuck => rfl
def sb (r : Res S) (k : Bool → M S) : Res S := match r with
  | .ok (.d (.bl b)) ρ => k b ρ
  | .exc c p ρ => .exc c p ρ
  | _ => .stuck
theorem e_mAndV (f g : M S) : mAndV f g ρ = sb (f ρ) fun b => if b then g else mpure (.d (.bl false)) := by
  unfold mAndV mbind sb
  cases h : f ρ with
  | ok s ρ' => cases s with
    | d x => cases x <;> rfl
    | _ => rfl
  | exc c p ρ' => rfl
  | stuck => rfl
theorem e_mOrV (f g : M S) : mOrV f g ρ = sb (f ρ) fun b => if b then mpure (.d (.bl true)) else g := by
  unfold mOrV mbind sb
  cases h : f ρ with
  | ok s ρ' => cases s with
    | d x => cases x <;> rfl
    | _ => rfl
  | exc c p ρ' => rfl
  | stuck => rfl
theorem e_mNotV (f : M S) : mNotV f ρ = sb (f ρ) fun b => mpure (.d (.bl (!b))) := by
  unfold mNotV mbind sb
  cases h : f ρ with
  | ok s ρ' => cases s with
    | d x => cases x <;> rfl
    | _ => rfl
  | exc c p ρ' => rfl
  | stuck => rfl
end
section
variable {ρ : List S} {b : Bool} {c : Nat} {p : D}
theorem nb_ok : nb (.ok b ρ) = .ok (!b) ρ := (rfl)
theorem nb_exc : nb (.exc c p ρ) = .exc c p ρ := (rfl)
theorem vb_ok : vb (.ok (.d (.bl b)) ρ) = .ok b ρ := (rfl)
theorem vb_exc : vb (.exc c p ρ) = .exc c p ρ := (rfl)
theorem sb_ok (k : Bool → M S) : sb (.ok (.d (.bl b)) ρ) k = k b ρ := (rfl)
theorem sb_exc (k : Bool → M S) : sb (.exc c p ρ) k = .exc c p ρ := (rfl)
end
/-! ### arguments -/
def slotB {α : Type} (o : Option S) (k : Res α) : Res α := match o with
  | none => .stuck
  | some .gone => .stuck
  | some _ => k
section
variable {α : Type} {k : Res α}
theorem slotB_d (x : D) : slotB (some (.d x)) k = k := (rfl)
theorem slotB_l (xs : List D) : slotB (some (.l xs)) k = k := (rfl)
theorem slotB_ls (xs : List S) : slotB (some (.ls xs)) k = k := (rfl)
theorem slotB_m (ks vs : List D) : slotB (some (.m ks vs)) k = k := (rfl)
theorem slotB_o (c : Nat) (fs : List S) : slotB (some (.o c fs)) k = k := (rfl)
end
section
variable (ρ : List S)
theorem e_args_nil : mArgs [] ρ = .ok [] ρ := (rfl)
theorem e_args_v (f : M S) (r : List Arg) : mArgs (.v f :: r) ρ = rb (f ρ) fun s => mbind (mArgs r) fun avs => mpure (.s s :: avs) := (rfl)
theorem e_args_b (i : Nat) (r : List Arg) : mArgs (.b i :: r) ρ = slotB ρ[i]? (rb (mArgs r ρ) fun avs => mpure (.n i :: avs)) := by
  conv => lhs; unfold mArgs
  unfold slotB
  cases ρ[i]? with
  | none => rfl
  | some s => cases s <;> rfl
def gm (x : S) (o : Option (List S × List S)) : Option (List S × List S) := o.map fun p => (x :: p.1, p.2)
theorem gm_some (x : S) (a b : List S) : gm x (some (a, b)) = some (x :: a, b) := (rfl)
def grabS (o : Option S) (ρ : List S) (i : Nat) (r : List AV) : Option (List S × List S) := match o with
  | none => none
  | some .gone => none
  | some (.d x) => gm (.d x) (grab ρ r)
  | some s => gm s (grab (ρ.set i .gone) r)
variable (i : Nat) (r : List AV)
theorem grabS_d (x : D) : grabS (some (.d x)) ρ i r = gm (.d x) (grab ρ r) := (rfl)
theorem grabS_l (x : List D) : grabS (some (.l x)) ρ i r = gm (.l x) (grab (ρ.set i .gone) r) := (rfl)
theorem grabS_ls (x : List S) : grabS (some (.ls x)) ρ i r = gm (.ls x) (grab (ρ.set i .gone) r) := (rfl)
theorem grabS_m (x y : List D) : grabS (some (.m x y)) ρ i r = gm (.m x y) (grab (ρ.set i .gone) r) := (rfl)
theorem grabS_o (c : Nat) (x : List S) : grabS (some (.o c x)) ρ i r = gm (.o c x) (grab (ρ.set i .gone) r) := (rfl)
theorem e_grab_nil : grab ρ [] = some ([], ρ) := (rfl)
theorem e_grab_s (x : S) : grab ρ (.s x :: r) = gm x (grab ρ r) := (rfl)
theorem e_grab_n : grab ρ (.n i :: r) = grabS ρ[i]? ρ i r := by
  conv => lhs; unfold grab
  unfold grabS gm
  cases ρ[i]? with
  | none => rfl
  | some s => cases s <;> rfl
def fin1 (op : List S → ORes) (avs : List AV) (o : Option (List S × List S)) (k : ORes → List S → List S → Res S) : Res S := match o with
  | none => .stuck
  | some p => k (op p.1) p.1 p.2
def fin2 (avs : List AV) (r : ORes) (xs ρ : List S) : Res S := match r with
  | .ok z outs => if outs.length = xs.length then .ok z (lay ρ avs xs outs) else .stuck
  | .exc c q outs => if outs.length = xs.length then .exc c q (lay ρ avs xs outs) else .stuck
  | .stuck => .stuck
theorem e_mFin (op : List S → ORes) (avs : List AV) : mFin op avs ρ = fin1 op avs (grab ρ avs) (fin2 avs) := by
  unfold mFin fin1 fin2
  cases grab ρ avs with
  | none => rfl
  | some p => rfl
theorem e_mOp (op : List S → ORes) (as : List Arg) : mOp op as ρ = rb (mArgs as ρ) (mFin op) := (rfl)
end
theorem fin1_some (op : List S → ORes) (avs : List AV) (xs ρ : List S) (k : ORes → List S → List S → Res S) : fin1 op avs (some (xs, ρ)) k = k (op xs) xs ρ := (rfl)
theorem fin2_ok (avs : List AV) (z : S) (outs xs ρ : List S) (h : outs.length = xs.length) : fin2 avs (.ok z outs) xs ρ = .ok z (lay ρ avs xs outs) := if_pos h
theorem fin2_exc (avs : List AV) (c : Nat) (p : D) (outs xs ρ : List S) (h : outs.length = xs.length) : fin2 avs (.exc c p outs) xs ρ = .exc c p (lay ρ avs xs outs) := if_pos h
section
variable (ρ : List S) (i : Nat) (r : List AV) (x y : S) (xs ys : List S)
theorem lay_nil : lay ρ [] xs ys = ρ := by cases xs <;> cases ys <;> rfl
theorem lay_s : lay ρ (.s x :: r) (y :: xs) (z :: ys) = lay ρ r xs ys := (rfl)
theorem lay_d (w : D) : lay ρ (.n i :: r) (.d w :: xs) (y :: ys) = lay ρ r xs ys := (rfl)
theorem lay_l (w : List D) : lay ρ (.n i :: r) (.l w :: xs) (y :: ys) = (lay ρ r xs ys).set i y := (rfl)
theorem lay_ls (w : List S) : lay ρ (.n i :: r) (.ls w :: xs) (y :: ys) = (lay ρ r xs ys).set i y := (rfl)
theorem lay_m (w v : List D) : lay ρ (.n i :: r) (.m w v :: xs) (y :: ys) = (lay ρ r xs ys).set i y := (rfl)
theorem lay_o (c : Nat) (w : List S) : lay ρ (.n i :: r) (.o c w :: xs) (y :: ys) = (lay ρ r xs ys).set i y := (rfl)
end
/-! ### names, constants -/
def varS (o : Option S) (ρ : List S) : Res S := match o with
  | some (.d x) => .ok (.d x) ρ
  | _ => .stuck
def movS (o : Option S) (ρ : List S) (i : Nat) : Res S := match o with
  | some .gone => .stuck
  | some s => .ok s (ρ.set i .gone)
  | none => .stuck
def frzS (o : Option S) (ρ : List S) (i : Nat) : Res S := match o with
  | some (.d x) => .ok (.d x) ρ
  | some s => match s.frz with
    | some x => .ok (.d x) (ρ.set i (.d x))
    | none => .stuck
  | none => .stuck
section
variable (ρ : List S) (i : Nat)
theorem e_mCon (x : D) : mCon x ρ = .ok (.d x) ρ := (rfl)
theorem e_mVar : mVar i ρ = varS ρ[i]? ρ := by
  unfold mVar varS
  cases ρ[i]? with
  | none => rfl
  | some s => cases s <;> rfl
theorem e_mMov : mMov i ρ = movS ρ[i]? ρ i := by
  unfold mMov movS
  cases ρ[i]? with
  | none => rfl
  | some s => cases s <;> rfl
theorem e_mFrz : mFrz i ρ = frzS ρ[i]? ρ i := by
  unfold mFrz frzS
  cases h : ρ[i]? with
  | none => rfl
  | some s => cases s with
    | d x =>
      show Res.ok (S.d x) (ρ.set i (S.d x)) = Res.ok (S.d x) ρ
      rw [set_same h]
    | _ => rfl
theorem varS_d (x : D) : varS (some (.d x)) ρ = .ok (.d x) ρ := (rfl)
theorem movS_d (x : D) : movS (some (.d x)) ρ i = .ok (.d x) (ρ.set i .gone) := (rfl)
theorem movS_l (x : List D) : movS (some (.l x)) ρ i = .ok (.l x) (ρ.set i .gone) := (rfl)
theorem movS_ls (x : List S) : movS (some (.ls x)) ρ i = .ok (.ls x) (ρ.set i .gone) := (rfl)
theorem movS_m (x y : List D) : movS (some (.m x y)) ρ i = .ok (.m x y) (ρ.set i .gone) := (rfl)
theorem movS_o (c : Nat) (x : List S) : movS (some (.o c x)) ρ i = .ok (.o c x) (ρ.set i .gone) := (rfl)
theorem frzS_d (x : D) : frzS (some (.d x)) ρ i = .ok (.d x) ρ := (rfl)
theorem frzS_l (x : List D) : frzS (some (.l x)) ρ i = .ok (.d (.lst x)) (ρ.set i (.d (.lst x))) := (rfl)
theorem frzS_m (x y : List D) : frzS (some (.m x y)) ρ i = .ok (.d (.dic x y)) (ρ.set i (.d (.dic x y))) := (rfl)
def frzO (c : Nat) (o : Option (List D)) (ρ : List S) (i : Nat) : Res S := match o with
  | some xs => .ok (.d (.obj c xs)) (ρ.set i (.d (.obj c xs)))
  | none => .stuck
theorem frzS_o (c : Nat) (x : List S) : frzS (some (.o c x)) ρ i = frzO c (S.frzs x) ρ i := by
  unfold frzS frzO
  simp only [S.frz]
  cases S.frzs x <;> rfl
theorem frzO_some (c : Nat) (x : List D) : frzO c (some x) ρ i = .ok (.d (.obj c x)) (ρ.set i (.d (.obj c x))) := (rfl)
end
/-! ### settling -/
def fc (o : Option D) (r : Option (List D)) : Option (List D) := match o, r with
  | some x, some xs => some (x :: xs)
  | _, _ => none
theorem fc_some (x : D) (xs : List D) : fc (some x) (some xs) = some (x :: xs) := (rfl)
theorem e_frzs_nil : S.frzs [] = some [] := (rfl)
theorem e_frzs_cons (s : S) (r : List S) : S.frzs (s :: r) = fc s.frz (S.frzs r) := (rfl)
theorem e_frz_d (x : D) : S.frz (.d x) = some x := (rfl)
theorem e_frz_l (x : List D) : S.frz (.l x) = some (.lst x) := (rfl)
theorem e_frz_m (x y : List D) : S.frz (.m x y) = some (.dic x y) := (rfl)
theorem e_frz_o (c : Nat) (x : List S) : S.frz (.o c x) = (S.frzs x).map (D.obj c) := (rfl)
theorem e_frz_ls (x : List S) : S.frz (.ls x) = (S.frzs x).map D.lst := (rfl)
/-! ### methods, makers, told -/
section
variable (ρ : List S)
def clsB {α : Type} (o : Option Nat) (c : Nat) (k : Res α) : Res α := if o = some c then k else .stuck
theorem clsB_ok {α : Type} (c : Nat) (k : Res α) : clsB (some c) c k = k := if_pos rfl
def methK (c : Nat) (g : List S → ORes) (as : List Arg) (av : List AV) : M S := fun ρ => clsB (clsA ρ av) c (rb (mArgs as ρ) fun avs => mFin g (av ++ avs))
theorem e_mMeth (c : Nat) (g : List S → ORes) (a : Arg) (as : List Arg) : mMeth c g a as ρ = rb (mArgs [a] ρ) (methK c g as) := (rfl)
theorem e_methK (c : Nat) (g : List S → ORes) (as : List Arg) (av : List AV) : methK c g as av ρ = clsB (clsA ρ av) c (rb (mArgs as ρ) fun avs => mFin g (av ++ avs)) := (rfl)
theorem e_clsA_s (x : S) : clsA ρ [.s x] = clsS x := (rfl)
theorem e_clsA_n (i : Nat) : clsA ρ [.n i] = (ρ[i]?).bind clsS := (rfl)
theorem e_clsS_o (c : Nat) (fs : List S) : clsS (.o c fs) = some c := (rfl)
theorem e_clsS_d (c : Nat) (fs : List D) : clsS (.d (.obj c fs)) = some c := (rfl)
theorem e_bind_some {α β : Type} (x : α) (f : α → Option β) : (some x).bind f = f x := (rfl)
def tyB {α : Type} (o : Option String) (T : String) (k : Res α) : Res α := if o = some T then k else .stuck
theorem tyB_ok {α : Type} (T : String) (k : Res α) : tyB (some T) T k = k := if_pos rfl
def bmK (T : String) (g : List S → ORes) (as : List Arg) (av : List AV) : M S := fun ρ => tyB (tyA ρ av) T (rb (mArgs as ρ) fun avs => mFin g (av ++ avs))
theorem e_mBm (T : String) (g : List S → ORes) (a : Arg) (as : List Arg) : mBm T g a as ρ = rb (mArgs [a] ρ) (bmK T g as) := (rfl)
theorem e_bmK (T : String) (g : List S → ORes) (as : List Arg) (av : List AV) : bmK T g as av ρ = tyB (tyA ρ av) T (rb (mArgs as ρ) fun avs => mFin g (av ++ avs)) := (rfl)
theorem e_tyA_s (x : S) : tyA ρ [.s x] = tyS x := (rfl)
theorem e_tyA_n (i : Nat) : tyA ρ [.n i] = (ρ[i]?).bind tyS := (rfl)
theorem e_tyS_l (x : List D) : tyS (.l x) = some "list" := (rfl)
theorem e_tyS_ls (x : List S) : tyS (.ls x) = some "list" := (rfl)
theorem e_tyS_dl (x : List D) : tyS (.d (.lst x)) = some "list" := (rfl)
theorem e_tyS_str (x : Str) : tyS (.d (.str x)) = some "str" := (rfl)
theorem e_tyS_m (x y : List D) : tyS (.m x y) = some "dict" := (rfl)
def mkR (r : ORes) : ORes := match r with
  | .ok (.d .non) (z :: outs) => .ok z outs
  | .exc k p (_ :: outs) => .exc k p outs
  | _ => .stuck
theorem e_mkOp (c : Nat) (op : List S → ORes) (xs : List S) : mkOp c op xs = mkR (op (.o c [] :: xs)) := (rfl)
theorem mkR_ok (z : S) (outs : List S) : mkR (.ok (.d .non) (z :: outs)) = .ok z outs := (rfl)
theorem mkR_exc (k : Nat) (p : D) (z : S) (outs : List S) : mkR (.exc k p (z :: outs)) = .exc k p outs := (rfl)
def toldR (tbl : List (Nat × Str)) (r : Res S) : Res S := match r with
  | .ok s ρ' => .ok s ρ'
  | .exc c _ ρ' => match tbl.lookup c with
    | some r => .ok (.d (.str r)) ρ'
    | none => .stuck
  | .stuck => .stuck
theorem e_mTold (tbl : List (Nat × Str)) (f : M S) : mTold tbl f ρ = toldR tbl (f ρ) := by
  unfold mTold toldR
  cases f ρ <;> rfl
theorem toldR_ok (tbl : List (Nat × Str)) (s : S) : toldR tbl (.ok s ρ) = .ok s ρ := (rfl)
end
/-! ### defs -/
def fnR (np : Nat) (J : List Nat) (r : Fl) : ORes := match r with
  | .nx ρ => .ok (.d .non) (outsF J ρ 0 np)
  | .rt s ρ => .ok s (outsF J ρ 0 np)
  | .exc c p ρ => .exc c p (outsF J ρ 0 np)
  | _ => .stuck
theorem e_fnOp (np nl : Nat) (J : List Nat) (g : B) (xs : List S) (h : xs.length = np) : fnOp np nl J g xs = fnR np J (g (xs ++ List.replicate (nl - np) .gone)) := by
  unfold fnOp fnR
  rw [if_pos h]
  first | done | (cases g (xs ++ List.replicate (nl - np) .gone) <;> rfl)
section
variable (np : Nat) (J : List Nat) (ρ : List S)
theorem fnR_nx : fnR np J (.nx ρ) = .ok (.d .non) (outsF J ρ 0 np) := (rfl)
theorem fnR_rt (s : S) : fnR np J (.rt s ρ) = .ok s (outsF J ρ 0 np) := (rfl)
theorem fnR_exc (c : Nat) (p : D) : fnR np J (.exc c p ρ) = .exc c p (outsF J ρ 0 np) := (rfl)
theorem e_outs_z (j : Nat) : outsF J ρ j 0 = [] := (rfl)
theorem e_outs_s (j n : Nat) : outsF J ρ j (n + 1) = (if j ∈ J then ρ[j]?.getD .gone else .gone) :: outsF J ρ (j + 1) n := (rfl)
end
/-! ### fields -/
section
variable (ρ : List S)
def fldK (i c k : Nat) (s : S) (ρ : List S) (o : Option S) : Fl := match o with
  | some (.o c' fs) => if c' = c then (match setF fs k s with
    | some fs' => .nx (ρ.set i (.o c fs'))
    | none => .stuck) else .stuck
  | _ => .stuck
theorem e_bFld (i c k : Nat) (f : M S) : bFld i c k f ρ = db (f ρ) fun s ρ => fldK i c k s ρ ρ[i]? := by
  unfold bFld bdo db
  cases f ρ with
  | ok s ρ' =>
    show (match ρ'[i]? with
      | some (.o c' fs) => if c' = c then (match setF fs k s with
        | some fs' => .nx (ρ'.set i (.o c fs'))
        | none => .stuck) else .stuck
      | _ => .stuck) = fldK i c k s ρ' ρ'[i]?
    rfl
  | exc c p ρ' => rfl
  | stuck => rfl
def fldN (i c : Nat) (ρ : List S) (o : Option (List S)) : Fl := match o with
  | some fs' => .nx (ρ.set i (.o c fs'))
  | none => .stuck
theorem e_fldK (i c k : Nat) (s : S) (fs : List S) : fldK i c k s ρ (some (.o c fs)) = fldN i c ρ (setF fs k s) := by
  unfold fldK fldN
  simp only [if_true]
theorem fldN_some (i c : Nat) (fs : List S) : fldN i c ρ (some fs) = .nx (ρ.set i (.o c fs)) := (rfl)
def fldA (c k : Nat) (fs : List S) (o : Option S) : ORes := match o with
  | some s => match s.frz with
    | some x => .ok (.d x) [.o c (fs.set k (.d x))]
    | none => .stuck
  | none => .stuck
theorem e_fld_o (c k : Nat) (fs : List S) : opFld c k [.o c fs] = fldA c k fs fs[k]? := by
  unfold fldA
  simp only [opFld, if_true]
  first | done | (cases fs[k]? with
    | none => rfl
    | some s => cases h : s.frz <;> simp [h])
theorem fldA_d (c k : Nat) (fs : List S) (x : D) : fldA c k fs (some (.d x)) = .ok (.d x) [.o c (fs.set k (.d x))] := (rfl)
theorem fldA_l (c k : Nat) (fs : List S) (x : List D) : fldA c k fs (some (.l x)) = .ok (.d (.lst x)) [.o c (fs.set k (.d (.lst x)))] := (rfl)
theorem fldA_m (c k : Nat) (fs : List S) (x y : List D) : fldA c k fs (some (.m x y)) = .ok (.d (.dic x y)) [.o c (fs.set k (.d (.dic x y)))] := (rfl)
def fldB (c : Nat) (xs : List D) (o : Option D) : ORes := match o with
  | some x => .ok (.d x) [.d (.obj c xs)]
  | none => .stuck
theorem e_fld_d (c k : Nat) (xs : List D) : opFld c k [.d (.obj c xs)] = fldB c xs xs[k]? := by
  unfold fldB
  simp only [opFld, if_true]
  first | done | (cases xs[k]? <;> rfl)
theorem fldB_some (c : Nat) (xs : List D) (x : D) : fldB c xs (some x) = .ok (.d x) [.d (.obj c xs)] := (rfl)
theorem setF_in (fs : List S) (k : Nat) (s : S) (h : k < fs.length) : setF fs k s = some (fs.set k s) := if_pos h
theorem setF_end (fs : List S) (k : Nat) (s : S) (h : k = fs.length) : setF fs k s = some (fs ++ [s]) := by
  unfold setF
  rw [if_neg (by omega), if_pos h]
end
end DL
/-! reckoning with the mirrors: operations -/
namespace DL
open PySem PySem.Spec PyProof.Rows L2
/-! ### ints -/
def oi (o : Option D) (i j : Int) : ORes := match o with
  | some z => .ok (.d z) [.d (.int i), .d (.int j)]
  | none => .stuck
theorem e_opI (f : Int → Int → Option D) (i j : Int) : opI f [.d (.int i), .d (.int j)] = oi (f i j) i j := by
  unfold oi
  simp only [opI]
  first | done | (cases f i j <;> rfl)
theorem oi_some (z : D) (i j : Int) : oi (some z) i j = .ok (.d z) [.d (.int i), .d (.int j)] := (rfl)
def orR (r : ORes) (h : List S → ORes) (xs : List S) : ORes := match r with
  | .stuck => h xs
  | r => r
theorem e_opOr (g h : List S → ORes) (xs : List S) : opOr g h xs = orR (g xs) h xs := by
  unfold opOr orR
  cases g xs <;> rfl
theorem orR_ok (z : S) (o : List S) (h : List S → ORes) (xs : List S) : orR (.ok z o) h xs = .ok z o := (rfl)
theorem orR_exc (c : Nat) (p : D) (o : List S) (h : List S → ORes) (xs : List S) : orR (.exc c p o) h xs = .exc c p o := (rfl)
theorem orR_stuck (h : List S → ORes) (xs : List S) : orR .stuck h xs = h xs := (rfl)
section
variable (i j : Int)
theorem e_fAdd : fAdd i j = some (.int (i + j)) := (rfl)
theorem e_fSub : fSub i j = some (.int (i - j)) := (rfl)
theorem e_fLt : fLt i j = some (.bl (decide (i < j))) := (rfl)
theorem e_fLe : fLe i j = some (.bl (decide (i ≤ j))) := (rfl)
theorem e_fGt : fGt i j = some (.bl (decide (j < i))) := (rfl)
theorem e_fGe : fGe i j = some (.bl (decide (j ≤ i))) := (rfl)
theorem e_fMul_r (h : -18446744073709551616 < j ∧ j < 18446744073709551616) : fMulS i j = some (.int (i * j)) := if_pos (.inr h)
theorem e_fMul_l (h : -18446744073709551616 < i ∧ i < 18446744073709551616) : fMulS i j = some (.int (i * j)) := if_pos (.inl h)
theorem log2_lt {n : Nat} (h : n < 18446744073709551616) : n.log2 < 9000 := by
  by_cases h0 : n = 0
  · subst h0; decide
  · have := (Nat.log2_lt h0 (k := 64)).mpr (by simpa using h)
    omega
theorem e_fDiv (h : 0 < j ∧ j < 18446744073709551616) : fDiv i j = some (.int (i / j)) := if_pos ⟨h.1, log2_lt (by omega)⟩
theorem e_fMod (h : 0 < j) : fMod i j = some (.int (i % j)) := if_pos h
theorem e_fMin : fMin i j = some (.int (if j < i then j else i)) := (rfl)
theorem e_fMax : fMax i j = some (.int (if j > i then j else i)) := (rfl)
theorem e_opNeg : opNeg [.d (.int i)] = .ok (.d (.int (-i))) [.d (.int i)] := (rfl)
theorem e_opInt : opInt [.d (.int i)] = .ok (.d (.int i)) [.d (.int i)] := (rfl)
theorem e_opInt_b (b : Bool) : opInt [.d (.bl b)] = .ok (.d (.int (if b then 1 else 0))) [.d (.bl b)] := (rfl)
theorem e_opI3 (f : Int → Int → Int → Int) (k : Int) : opI3 f [.d (.int i), .d (.int j), .d (.int k)] = .ok (.d (.int (f i j k))) [.d (.int i), .d (.int j), .d (.int k)] := (rfl)
end
def of1 (o : Option D) (i : Int) : ORes := match o with
  | some z => .ok (.d z) [.d (.int i)]
  | none => .stuck
theorem e_opF1 (f : Int → Option D) (i : Int) : opF1 f [.d (.int i)] = of1 (f i) i := by
  unfold of1
  simp only [opF1]
  first | done | (cases f i <;> rfl)
theorem of1_some (z : D) (i : Int) : of1 (some z) i = .ok (.d z) [.d (.int i)] := (rfl)
/-! ### tuples, lists -/
def tupK (o : Option (List D)) : ORes := match o with
  | some ys => if ys.length ≤ 100000 then .ok (.d (.tup ys)) (ys.map .d) else .stuck
  | none => .stuck
def lstK (o : Option (List D)) : ORes := match o with
  | some ys => if ys.length ≤ 100000 then .ok (.l ys) (ys.map .d) else .stuck
  | none => .stuck
theorem e_tup (xs : List S) : opTup xs = tupK (S.frzs xs) := by
  unfold opTup tupK
  cases S.frzs xs <;> rfl
theorem e_lst (xs : List S) : opLst xs = lstK (S.frzs xs) := by
  unfold opLst lstK
  cases S.frzs xs <;> rfl
theorem tupK_some (ys : List D) (h : ys.length ≤ 100000) : tupK (some ys) = .ok (.d (.tup ys)) (ys.map .d) := if_pos h
theorem lstK_some (ys : List D) (h : ys.length ≤ 100000) : lstK (some ys) = .ok (.l ys) (ys.map .d) := if_pos h
theorem e_seq_l (xs : List D) : seqS (.l xs) = some xs := (rfl)
theorem e_seq_dl (xs : List D) : seqS (.d (.lst xs)) = some xs := (rfl)
theorem e_seq_dt (xs : List D) : seqS (.d (.tup xs)) = some xs := (rfl)
theorem e_opLen_l (xs : List D) : opLen [.l xs] = .ok (.d (.int xs.length)) [.l xs] := (rfl)
theorem e_opLen_dl (xs : List D) : opLen [.d (.lst xs)] = .ok (.d (.int xs.length)) [.d (.lst xs)] := (rfl)
theorem e_opLen_dt (xs : List D) : opLen [.d (.tup xs)] = .ok (.d (.int xs.length)) [.d (.tup xs)] := (rfl)
def ixK (o : Option D) (s : S) (i : Int) : ORes := match o with
  | some x => .ok (.d x) [s, .d (.int i)]
  | none => .stuck
theorem ixK_some (x : D) (s : S) (i : Int) : ixK (some x) s i = .ok (.d x) [s, .d (.int i)] := (rfl)
theorem e_opIx_l (xs : List D) (i : Int) : opIx [.l xs, .d (.int i)] = ixK (atI xs i) (.l xs) i := by
  show (match atI xs i with | some x => ORes.ok (.d x) [.l xs, .d (.int i)] | none => .stuck) = _
  unfold ixK
  cases atI xs i <;> rfl
theorem e_opIx_dl (xs : List D) (i : Int) : opIx [.d (.lst xs), .d (.int i)] = ixK (atI xs i) (.d (.lst xs)) i := by
  show (match atI xs i with | some x => ORes.ok (.d x) [.d (.lst xs), .d (.int i)] | none => .stuck) = _
  unfold ixK
  cases atI xs i <;> rfl
theorem e_opIx_dt (xs : List D) (i : Int) : opIx [.d (.tup xs), .d (.int i)] = ixK (atI xs i) (.d (.tup xs)) i := by
  show (match atI xs i with | some x => ORes.ok (.d x) [.d (.tup xs), .d (.int i)] | none => .stuck) = _
  unfold ixK
  cases atI xs i <;> rfl
/-- an item by its place -/
theorem atI_pos {α : Type} (xs : List α) (i : Int) (h : 0 ≤ i ∧ i < xs.length) : atI xs i = xs[i.toNat]? := by
  unfold atI ixN
  rw [if_pos h.1, if_pos h.2]
  rfl
theorem atI_neg {α : Type} (xs : List α) (i : Int) (h : i < 0 ∧ -(xs.length : Int) ≤ i) : atI xs i = xs[(i + xs.length).toNat]? := by
  unfold atI ixN
  rw [if_neg (by omega), if_pos h.2]
  rfl
theorem atI_mapD {α β : Type} (f : α → β) (xs : List α) (i : Int) : atI (xs.map f) i = (atI xs i).map f := by
  unfold atI
  rw [List.length_map]
  cases ixN xs.length i with
  | none => rfl
  | some j => simp
theorem atI_0 {α : Type} (x : α) (xs : List α) : atI (x :: xs) 0 = some x := by
  rw [atI_pos _ _ (by simp only [List.length_cons]; omega)]
  rfl
theorem atI_1 {α : Type} (x y : α) (xs : List α) : atI (x :: y :: xs) 1 = some y := by
  rw [atI_pos _ _ (by simp only [List.length_cons]; omega)]
  rfl
theorem atI_2 {α : Type} (x y z : α) (xs : List α) : atI (x :: y :: z :: xs) 2 = some z := by
  rw [atI_pos _ _ (by simp only [List.length_cons]; omega)]
  rfl
theorem atI_3 {α : Type} (x y z u : α) (xs : List α) : atI (x :: y :: z :: u :: xs) 3 = some u := by
  rw [atI_pos _ _ (by simp only [List.length_cons]; omega)]
  rfl
/-- an int of a list, by an int -/
def nth (ns : List Int) (i : Int) : Int := ns.getD i.toNat 0
theorem atI_int (ns : List Int) (i : Int) (h : 0 ≤ i ∧ i < ns.length) : atI (ns.map D.int) i = some (.int (nth ns i)) := by
  rw [atI_mapD, atI_pos _ _ h]
  have : i.toNat < ns.length := by omega
  simp [nth, List.getD, this]
theorem atI_int_last (ns : List Int) (h : 0 < ns.length) : atI (ns.map D.int) (-1) = some (.int (nth ns (ns.length - 1))) := by
  rw [atI_mapD, atI_neg _ _ (by omega)]
  have h1 : (-1 + (ns.length : Int)).toNat = ns.length - 1 := by omega
  have h2 : ((ns.length : Int) - 1).toNat = ns.length - 1 := by omega
  have : ns.length - 1 < ns.length := by omega
  simp [nth, h1, h2, List.getD, this]
def appK (xs : List D) (o : Option D) : ORes := match o with
  | some x => if xs.length < 100000 then .ok (.d .non) [.l (xs ++ [x]), .d x] else .stuck
  | none => .stuck
theorem e_opApp (xs : List D) (s : S) : opApp [.l xs, s] = appK xs s.frz := by
  unfold appK
  simp only [opApp]
  first | done | (cases s.frz <;> rfl)
theorem appK_some (xs : List D) (x : D) (h : xs.length < 100000) : appK xs (some x) = .ok (.d .non) [.l (xs ++ [x]), .d x] := if_pos h
theorem e_opList_l (xs : List D) : opList [.l xs] = .ok (.l xs) [.l xs] := (rfl)
theorem e_opList_dl (xs : List D) : opList [.d (.lst xs)] = .ok (.l xs) [.d (.lst xs)] := (rfl)
theorem e_opList_dt (xs : List D) : opList [.d (.tup xs)] = .ok (.l xs) [.d (.tup xs)] := (rfl)
theorem e_opTuple_l (xs : List D) : opTuple [.l xs] = .ok (.d (.tup xs)) [.l xs] := (rfl)
theorem e_opTuple_dl (xs : List D) : opTuple [.d (.lst xs)] = .ok (.d (.tup xs)) [.d (.lst xs)] := (rfl)
theorem e_opTuple_dt (xs : List D) : opTuple [.d (.tup xs)] = .ok (.d (.tup xs)) [.d (.tup xs)] := (rfl)
theorem e_opCat (xs ys : List D) (h : xs.length + ys.length ≤ 100000) : opCat [.l xs, .l ys] = .ok (.l (xs ++ ys)) [.l xs, .l ys] := if_pos h
theorem e_opI_l (f : Int → Int → Option D) (xs : List D) (r : List S) : opI f (.l xs :: r) = .stuck := by
  unfold opI
  split <;> simp_all
def setK (s : S) (o : Option D) (xs : List D) (i : Int) (n : Option Nat) : ORes := match o, n with
  | some x, some j => .ok (.d .non) [.d x, .l (xs.set j x), .d (.int i)]
  | _, _ => .stuck
theorem e_opSetL (s : S) (xs : List D) (i : Int) : opSetL [s, .l xs, .d (.int i)] = setK s s.frz xs i (ixN xs.length i) := by
  unfold setK
  simp only [opSetL]
  first | done | (cases s.frz <;> cases ixN xs.length i <;> rfl)
theorem setK_some (s : S) (x : D) (xs : List D) (i : Int) (j : Nat) : setK s (some x) xs i (some j) = .ok (.d .non) [.d x, .l (xs.set j x), .d (.int i)] := (rfl)
theorem ixN_pos (n : Nat) (i : Int) (h : 0 ≤ i ∧ i < n) : ixN n i = some i.toNat := by
  unfold ixN
  rw [if_pos h.1, if_pos h.2]
/-! ### chains -/
def chK (p q : Int → Int → Bool) (fc : M S) (x y : S) : M S := match x, y with
  | .d (.int i), .d (.int j) => if p i j then mbind fc fun z => match z with
      | .d (.int k) => mpure (.d (.bl (q j k)))
      | _ => mstuck
    else mpure (.d (.bl false))
  | _, _ => mstuck
def chZ (q : Int → Int → Bool) (j : Int) (z : S) : M S := match z with
  | .d (.int k) => mpure (.d (.bl (q j k)))
  | _ => mstuck
theorem e_mChain (p q : Int → Int → Bool) (fa fb fc : M S) (ρ : List S) : mChain p q fa fb fc ρ = rb (fa ρ) fun x => mbind fb fun y => chK p q fc x y := (rfl)
theorem e_chK (p q : Int → Int → Bool) (fc : M S) (i j : Int) (ρ : List S) : chK p q fc (.d (.int i)) (.d (.int j)) ρ = if p i j = true then rb (fc ρ) (chZ q j) else .ok (.d (.bl false)) ρ := by
  unfold chK
  dsimp only
  split <;> rfl
theorem e_chZ (q : Int → Int → Bool) (j k : Int) (ρ : List S) : chZ q j (.d (.int k)) ρ = .ok (.d (.bl (q j k))) ρ := (rfl)
/-! ### parallel assignment, targets -/
def nxO (o : Option (List S)) : Fl := match o with
  | some ρ => .nx ρ
  | none => .stuck
theorem nxO_some (ρ : List S) : nxO (some ρ) = .nx ρ := (rfl)
theorem e_bPar (is : List Nat) (as : List Arg) (ρ : List S) : bPar is as ρ = db (mArgs as ρ) fun avs ρ => nxO (setAll is avs ρ) := by
  unfold bPar bdo db
  cases mArgs as ρ with
  | ok avs ρ' =>
    dsimp only
    unfold nxO
    cases setAll is avs ρ' <;> rfl
  | _ => rfl
theorem e_setAll_nil (ρ : List S) : setAll [] [] ρ = some ρ := (rfl)
theorem e_setAll_cons (i : Nat) (is : List Nat) (x : S) (r : List AV) (ρ : List S) (h : i < ρ.length) : setAll (i :: is) (.s x :: r) ρ = setAll is r (ρ.set i x) := by
  rw [setAll]
  exact if_pos h
theorem e_bAsgT (t : Tg) (f : M S) (ρ : List S) : bAsgT t f ρ = db (f ρ) fun s ρ => nxO (asgT t s ρ) := by
  unfold bAsgT bdo db
  cases f ρ with
  | ok s ρ' =>
    dsimp only
    unfold nxO
    cases asgT t s ρ' <;> rfl
  | _ => rfl
theorem e_asgT_n (i : Nat) (s : S) (ρ : List S) (h : i < ρ.length) : asgT (.n i) s ρ = some (ρ.set i s) := by
  rw [asgT]
  exact if_pos h
theorem e_asgT_t (ts : List Tg) (xs : List D) (ρ : List S) : asgT (.t ts) (.d (.tup xs)) ρ = asgTs ts xs ρ := by rw [asgT]
theorem e_asgTs_nil (ρ : List S) : asgTs [] [] ρ = some ρ := by rw [asgTs]
theorem e_asgTs_cons (t : Tg) (ts : List Tg) (x : D) (xs : List D) (ρ : List S) : asgTs (t :: ts) (x :: xs) ρ = (asgT t (.d x) ρ).bind (asgTs ts xs) := by rw [asgTs]
def augK (i : Nat) (op : Int → Int → Int) (f : M S) (ρ : List S) (o : Option S) : Fl := match o with
  | some (.d (.int n)) => bdo f (fun s => match s with
    | .d (.int m) => bset i (.d (.int (op n m)))
    | _ => fun _ => .stuck) ρ
  | _ => .stuck
def augZ (i : Nat) (op : Int → Int → Int) (n : Int) (s : S) : B := match s with
  | .d (.int m) => bset i (.d (.int (op n m)))
  | _ => fun _ => .stuck
theorem e_bAugI (i : Nat) (op : Int → Int → Int) (f : M S) (ρ : List S) : bAugI i op f ρ = augK i op f ρ ρ[i]? := by
  unfold bAugI augK
  rfl
theorem e_augK (i : Nat) (op : Int → Int → Int) (f : M S) (ρ : List S) (n : Int) : augK i op f ρ (some (.d (.int n))) = db (f ρ) (augZ i op n) := (rfl)
theorem e_augZ (i : Nat) (op : Int → Int → Int) (n m : Int) (ρ : List S) (h : i < ρ.length) : augZ i op n (.d (.int m)) ρ = .nx (ρ.set i (.d (.int (op n m)))) := if_pos h
theorem beq_tt : (true == true) = true := (rfl)
theorem beq_ff : (false == false) = true := (rfl)
theorem beq_tf : (true == false) = false := (rfl)
theorem beq_ft : (false == true) = false := (rfl)
end DL
/-! reckoning with the mirrors: ==, loops, comprehensions -/
namespace DL
open PySem PySem.Spec PyProof.Rows L2
/-! ### the same data -/
def strG (x : Str) : Bool := PyData.canLay0 (.str x)
def Sh : Nat → D → Prop
  | _, .non => True
  | _, .bl _ => True
  | _, .int _ => True
  | _, .str x => strG x = true
  | n + 1, .tup xs => ∀ x ∈ xs, Sh n x
  | n + 1, .lst xs => ∀ x ∈ xs, Sh n x
  | _, _ => False
theorem Sh.py : ∀ (n : Nat) (x : D), Sh n x → ∃ p, dPy x = some p ∧ p.canLay0 = true ∧ p.depth ≤ n
  | _, .non, _ => ⟨_, rfl, rfl, Nat.zero_le _⟩
  | _, .bl _, _ => ⟨_, rfl, rfl, Nat.zero_le _⟩
  | _, .int _, _ => ⟨_, rfl, rfl, Nat.zero_le _⟩
  | _, .str x, h => ⟨_, rfl, by cases ‹Nat› <;> exact h, Nat.zero_le _⟩
  | 0, .tup _, h => h.elim
  | 0, .lst _, h => h.elim
  | 0, .dic _ _, h => h.elim
  | 0, .obj _ _, h => h.elim
  | 0, .kt _, h => h.elim
  | _ + 1, .kt _, h => h.elim
  | _ + 1, .dic _ _, h => h.elim
  | _ + 1, .obj _ _, h => h.elim
  | n + 1, .tup xs, h => by
    have go : ∀ ys : List D, (∀ x ∈ ys, Sh n x) → ∃ ps, dPys ys = some ps ∧ PyData.canLayAll0 ps = true ∧ PyData.depthAll ps ≤ n := fun ys => by
      induction ys with
      | nil => exact fun _ => ⟨[], rfl, rfl, Nat.zero_le _⟩
      | cons y ys ih =>
        intro hy
        obtain ⟨p, e1, e2, e3⟩ := Sh.py n y (hy y (by simp))
        obtain ⟨ps, f1, f2, f3⟩ := ih fun x hx => hy x (List.mem_cons_of_mem _ hx)
        refine ⟨p :: ps, by simp only [dPys, e1, f1], by simp only [PyData.canLayAll0, e2, f2, Bool.and_self], ?_⟩
        show max p.depth (PyData.depthAll ps) ≤ n
        omega
    obtain ⟨ps, f1, f2, f3⟩ := go xs h
    refine ⟨.tuple ps, by simp only [dPy, f1, Option.map_some], f2, ?_⟩
    show PyData.depthAll ps + 1 ≤ n + 1
    omega
  | n + 1, .lst xs, h => by
    have go : ∀ ys : List D, (∀ x ∈ ys, Sh n x) → ∃ ps, dPys ys = some ps ∧ PyData.canLayAll0 ps = true ∧ PyData.depthAll ps ≤ n := fun ys => by
      induction ys with
      | nil => exact fun _ => ⟨[], rfl, rfl, Nat.zero_le _⟩
      | cons y ys ih =>
        intro hy
        obtain ⟨p, e1, e2, e3⟩ := Sh.py n y (hy y (by simp))
        obtain ⟨ps, f1, f2, f3⟩ := ih fun x hx => hy x (List.mem_cons_of_mem _ hx)
        refine ⟨p :: ps, by simp only [dPys, e1, f1], by simp only [PyData.canLayAll0, e2, f2, Bool.and_self], ?_⟩
        show max p.depth (PyData.depthAll ps) ≤ n
        omega
    obtain ⟨ps, f1, f2, f3⟩ := go xs h
    refine ⟨.list ps, by simp only [dPy, f1, Option.map_some], f2, ?_⟩
    show PyData.depthAll ps + 1 ≤ n + 1
    omega
theorem Sh.shaped {n : Nat} {x : D} (h : Sh n x) (hn : n ≤ 64) : ∃ p, dPy x = some p ∧ SeqAt.shaped p = true := by
  obtain ⟨p, e1, e2, e3⟩ := h.py
  refine ⟨p, e1, ?_⟩
  unfold SeqAt.shaped
  rw [e2, decide_eq_true (show p.depth ≤ 64 by omega)]
  rfl
/-- what two slots hold, compared as data -/
def toD : S → D
  | .d x => x
  | .l xs => .lst xs
  | _ => .non
def isR : S → Bool
  | .d _ => true
  | .l _ => true
  | _ => false
theorem sPy_toD {x : S} (h : isR x = true) : sPy x = dPy (toD x) := by
  cases x with
  | d x => rfl
  | l xs => simp only [sPy, toD, dPy]
  | _ => simp [isR] at h
theorem opEq_of (neg : Bool) {x y : S} {p q : PyData} (h1 : sPy x = some p) (h2 : sPy y = some q) (k1 : SeqAt.shaped p = true) (k2 : SeqAt.shaped q = true) :
    opEq neg [x, y] = .ok (.d (.bl (if neg then !PyData.eqv p q else PyData.eqv p q))) [x, y] := by
  simp [opEq, h1, h2, k1, k2]
theorem shaped_int (i : Int) : SeqAt.shaped (.int i) = true := (rfl)
theorem shaped_bool (i : Bool) : SeqAt.shaped (.bool i) = true := (rfl)
theorem e_eq_int (i j : Int) : opEq false [.d (.int i), .d (.int j)] = .ok (.d (.bl (decide (i = j)))) [.d (.int i), .d (.int j)] := by
  rw [opEq_of false rfl rfl (shaped_int i) (shaped_int j)]
  rfl
theorem e_ne_int (i j : Int) : opEq true [.d (.int i), .d (.int j)] = .ok (.d (.bl (!decide (i = j)))) [.d (.int i), .d (.int j)] := by
  rw [opEq_of true rfl rfl (shaped_int i) (shaped_int j)]
  rfl
theorem e_eq_bl (i j : Bool) : opEq false [.d (.bl i), .d (.bl j)] = .ok (.d (.bl (i == j))) [.d (.bl i), .d (.bl j)] := by
  rw [opEq_of false rfl rfl (shaped_bool i) (shaped_bool j)]
  rfl
theorem e_ne_bl (i j : Bool) : opEq true [.d (.bl i), .d (.bl j)] = .ok (.d (.bl (!(i == j)))) [.d (.bl i), .d (.bl j)] := by
  rw [opEq_of true rfl rfl (shaped_bool i) (shaped_bool j)]
  rfl
theorem eqvAll_int : ∀ (xs ys : List Int), PyData.eqvAll (xs.map .int) (ys.map .int) = decide (xs = ys)
  | [], [] => rfl
  | [], _ :: _ => by simp [PyData.eqvAll]
  | _ :: _, [] => by simp [PyData.eqvAll]
  | x :: xs, y :: ys => by
    simp only [List.map_cons, PyData.eqvAll, PyData.eqv, eqvAll_int xs ys, List.cons.injEq]
    by_cases h1 : x = y <;> by_cases h2 : xs = ys <;> simp [h1, h2]
theorem dPys_int : ∀ xs : List Int, dPys (xs.map D.int) = some (xs.map .int)
  | [] => rfl
  | x :: xs => by simp only [List.map_cons, dPys, dPy, dPys_int xs]
theorem lay_int : ∀ xs : List Int, PyData.canLayAll0 (xs.map .int) = true
  | [] => rfl
  | x :: xs => by simp only [List.map_cons, PyData.canLayAll0, PyData.canLay0, lay_int xs, Bool.and_self]
theorem depth_int : ∀ xs : List Int, PyData.depthAll (xs.map .int) = 0
  | [] => rfl
  | x :: xs => by simp only [List.map_cons, PyData.depthAll, PyData.depth, depth_int xs, Nat.max_self]
theorem shaped_ints (xs : List Int) : SeqAt.shaped (.list (xs.map .int)) = true := by
  unfold SeqAt.shaped
  simp only [PyData.canLay0, lay_int, PyData.depth, depth_int]
  rfl
/-- lists of rgI, however held -/
theorem opEq_ints (neg : Bool) (x y : S) (xs ys : List Int) (hx : isR x = true) (hy : isR y = true) (ex : toD x = .lst (xs.map .int)) (ey : toD y = .lst (ys.map .int)) :
    opEq neg [x, y] = .ok (.d (.bl (if neg then !decide (xs = ys) else decide (xs = ys)))) [x, y] := by
  have h1 : sPy x = some (.list (xs.map .int)) := by rw [sPy_toD hx, ex, dPy, dPys_int]; rfl
  have h2 : sPy y = some (.list (ys.map .int)) := by rw [sPy_toD hy, ey, dPy, dPys_int]; rfl
  rw [opEq_of neg h1 h2 (shaped_ints xs) (shaped_ints ys)]
  simp only [PyData.eqv, eqvAll_int]
/-! ### ranges -/
def rgI (lo : Int) (n : Nat) : List Int := (List.range n).map fun (k : Nat) => lo + (k : Int)
theorem rngD_rgI (lo : Int) (n : Nat) : rngD lo n = (rgI lo n).map .int := by
  unfold rngD rgI
  rw [List.map_map]
  rfl
theorem rgI_length (lo : Int) (n : Nat) : (rgI lo n).length = n := by simp [rgI]
theorem b62_ok (i : Int) (h : -4611686018427387904 ≤ i ∧ i < 4611686018427387904) : b62 i = true := by
  unfold b62
  rw [decide_eq_true (show -(2 ^ 62) ≤ i by omega), decide_eq_true (show i < 2 ^ 62 by omega)]
  rfl
theorem e_ioR1 (j : Int) (h : -4611686018427387904 ≤ j ∧ j < 4611686018427387904) : ioR1 [.d (.int j)] = some ((rgI 0 j.toNat).map .int) := by
  simp only [ioR1, b62_ok j h, if_true, rngD_rgI]
theorem e_ioR2 (i j : Int) (h : -4611686018427387904 ≤ i ∧ i < 4611686018427387904) (h2 : -4611686018427387904 ≤ j ∧ j < 4611686018427387904) : ioR2 [.d (.int i), .d (.int j)] = some ((rgI i (j - i).toNat).map .int) := by
  simp only [ioR2, b62_ok i h, b62_ok j h2, Bool.and_self, if_true, rngD_rgI]
theorem e_ioA_l (xs : List D) : ioA [.l xs] = some xs := (rfl)
theorem e_ioA_dl (xs : List D) : ioA [.d (.lst xs)] = some xs := (rfl)
theorem e_ioA_dt (xs : List D) : ioA [.d (.tup xs)] = some xs := (rfl)
theorem e_ioA_str (z : Str) : ioA [.d (.str z)] = some (signs z) := (rfl)
theorem e_ioRvA_l (xs : List D) : ioRvA [.l xs] = some xs.reverse := (rfl)
theorem e_ioRvA_dl (xs : List D) : ioRvA [.d (.lst xs)] = some xs.reverse := (rfl)
theorem e_ioRvA_dt (xs : List D) : ioRvA [.d (.tup xs)] = some xs.reverse := (rfl)
/-! ### for -/
def forK (t : Tg) (body : B) (o : Option (List D)) (ρ : List S) : Fl := match o with
  | some items => forL t body items ρ
  | none => .stuck
def forG (io : List S → Option (List D)) (t : Tg) (body : B) (o : Option (List S × List S)) : Fl := match o with
  | some p => forK t body (io p.1) p.2
  | none => .stuck
theorem e_bFor (as : List Arg) (io : List S → Option (List D)) (t : Tg) (body : B) (ρ : List S) : bFor as io t body ρ = db (mArgs as ρ) fun avs ρ => forG io t body (grab ρ avs) := by
  unfold bFor bdo db
  cases mArgs as ρ with
  | ok avs ρ' =>
    dsimp only
    unfold forG forK
    cases grab ρ' avs with
    | none => rfl
    | some p =>
      dsimp only
      cases io p.1 <;> rfl
  | _ => rfl
theorem forG_some (io : List S → Option (List D)) (t : Tg) (body : B) (xs ρ : List S) : forG io t body (some (xs, ρ)) = forK t body (io xs) ρ := (rfl)
theorem forK_some (t : Tg) (body : B) (items : List D) (ρ : List S) : forK t body (some items) ρ = forL t body items ρ := (rfl)
theorem forL_nil (t : Tg) (body : B) (ρ : List S) : forL t body [] ρ = .nx ρ := (rfl)
/-- written items -/
def foB (t : Tg) (body : B) (xs : List D) (r : Fl) : Fl := match r with
  | .nx ρ2 => forL t body xs ρ2
  | .ct ρ2 => forL t body xs ρ2
  | .bk ρ2 => .nx ρ2
  | r => r
def foA (t : Tg) (body : B) (xs : List D) (o : Option (List S)) : Fl := match o with
  | none => .stuck
  | some ρ1 => foB t body xs (body ρ1)
theorem e_forL_cons (t : Tg) (body : B) (x : D) (xs : List D) (ρ : List S) : forL t body (x :: xs) ρ = foA t body xs (asgT t (.d x) ρ) := by
  rw [forL]
  unfold foA foB
  cases asgT t (.d x) ρ with
  | none => rfl
  | some ρ1 =>
    dsimp only
    first | done | (cases body ρ1 <;> rfl)
section
variable (t : Tg) (body : B) (xs : List D) (ρ : List S)
theorem foA_some : foA t body xs (some ρ) = foB t body xs (body ρ) := (rfl)
theorem foB_nx : foB t body xs (.nx ρ) = forL t body xs ρ := (rfl)
theorem foB_ct : foB t body xs (.ct ρ) = forL t body xs ρ := (rfl)
theorem foB_bk : foB t body xs (.bk ρ) = .nx ρ := (rfl)
theorem foB_rt (s : S) : foB t body xs (.rt s ρ) = .rt s ρ := (rfl)
theorem foB_exc (c : Nat) (p : D) : foB t body xs (.exc c p ρ) = .exc c p ρ := (rfl)
end
/-- a loop in general -/
def stp (J : List S → Prop) (Q : Fl → Prop) : Fl → Prop
  | .nx ρ => J ρ
  | .ct ρ => J ρ
  | .bk ρ => Q (.nx ρ)
  | r => Q r
/-! ### while -/
/-! ### comprehensions -/
/-- .. evaluated up to its loop -/
def compE (vs : List Nat) (t : Tg) (c : M Bool) (f : M S) (items : List D) (avs : List AV) (xs ρp : List S) : Res S := if items.length ≤ 100000 then (match compL vs t c f items [] ρp with
  | .ok acc ρ2 => .ok (lsN acc) (lay (rst vs ρp (clr vs ρ2)) avs xs xs)
  | _ => .stuck) else .stuck
def compK (vs : List Nat) (t : Tg) (c : M Bool) (f : M S) (avs : List AV) (xs ρp : List S) (o : Option (List D)) : Res S := match o with
  | some items => compE vs t c f items avs xs ρp
  | none => .stuck
def compG (vs : List Nat) (io : List S → Option (List D)) (t : Tg) (c : M Bool) (f : M S) (avs : List AV) (o : Option (List S × List S)) : Res S := match o with
  | some p => compK vs t c f avs p.1 p.2 (io p.1)
  | none => .stuck
theorem e_mComp (vs : List Nat) (as : List Arg) (io : List S → Option (List D)) (t : Tg) (c : M Bool) (f : M S) (ρ : List S) : mComp vs as io t c f ρ = rb (mArgs as ρ) fun avs ρ => compG vs io t c f avs (grab ρ avs) := by
  unfold mComp mbind rb
  cases mArgs as ρ with
  | ok avs ρ' =>
    dsimp only
    unfold compG compK compE
    cases grab ρ' avs with
    | none => rfl
    | some p =>
      dsimp only
      cases io p.1 <;> rfl
  | _ => rfl
theorem compG_some (vs : List Nat) (io : List S → Option (List D)) (t : Tg) (c : M Bool) (f : M S) (avs : List AV) (xs ρ : List S) : compG vs io t c f avs (some (xs, ρ)) = compK vs t c f avs xs ρ (io xs) := (rfl)
theorem compK_some (vs : List Nat) (t : Tg) (c : M Bool) (f : M S) (avs : List AV) (xs ρ : List S) (items : List D) : compK vs t c f avs xs ρ (some items) = compE vs t c f items avs xs ρ := (rfl)
/-! ### generator expressions -/
/-- evaluated up to the loop -/
def genL (m : Nat) (stp : S → Bool) (t : Tg) (c : M Bool) (f : M S) (fin : List (S × List S) → Option (List S) → Option S) (items : List D) (avs : List AV) (xs ρp : List S) : Res S := match trL stp t c f items (List.replicate m .gone ++ ρp) with
  | none => .stuck
  | some q => match endR q.1 q.2, fin q.1 q.2 with
    | some ρ', some z => .ok z (lay (ρ'.drop m) avs xs xs)
    | _, _ => .stuck
def genK (m : Nat) (stp : S → Bool) (t : Tg) (c : M Bool) (f : M S) (fin : List (S × List S) → Option (List S) → Option S) (avs : List AV) (xs ρp : List S) (o : Option (List D)) : Res S := match o with
  | some items => genL m stp t c f fin items avs xs ρp
  | none => .stuck
def genG (m : Nat) (io : List S → Option (List D)) (stp : S → Bool) (t : Tg) (c : M Bool) (f : M S) (fin : List (S × List S) → Option (List S) → Option S) (avs : List AV) (o : Option (List S × List S)) : Res S := match o with
  | some p => genK m stp t c f fin avs p.1 p.2 (io p.1)
  | none => .stuck
theorem e_mGen (m : Nat) (as : List Arg) (io : List S → Option (List D)) (stp : S → Bool) (t : Tg) (c : M Bool) (f : M S) (fin : List (S × List S) → Option (List S) → Option S) (ρ : List S) : mGen m as io stp t c f fin ρ = rb (mArgs as ρ) fun avs ρ => genG m io stp t c f fin avs (grab ρ avs) := by
  unfold mGen mbind rb
  cases mArgs as ρ with
  | ok avs ρ' =>
    dsimp only
    unfold genG genK genL
    cases grab ρ' avs with
    | none => rfl
    | some p =>
      dsimp only
      cases io p.1 with
      | none => rfl
      | some items => rfl
  | _ => rfl
theorem e_mAny (m : Nat) (as : List Arg) (io : List S → Option (List D)) (t : Tg) (c : M Bool) (f : M S) (ρ : List S) : mAny m as io t c f ρ = rb (mArgs as ρ) fun avs ρ => genG m io stAny t c f finAny avs (grab ρ avs) := e_mGen m as io stAny t c f finAny ρ
theorem e_mAll (m : Nat) (as : List Arg) (io : List S → Option (List D)) (t : Tg) (c : M Bool) (f : M S) (ρ : List S) : mAll m as io t c f ρ = rb (mArgs as ρ) fun avs ρ => genG m io stAll t c f finAll avs (grab ρ avs) := e_mGen m as io stAll t c f finAll ρ
theorem e_mSum (m : Nat) (as : List Arg) (io : List S → Option (List D)) (t : Tg) (c : M Bool) (f : M S) (ρ : List S) : mSum m as io t c f ρ = rb (mArgs as ρ) fun avs ρ => genG m io (fun _ => false) t c f finSum avs (grab ρ avs) := e_mGen m as io (fun _ => false) t c f finSum ρ
theorem genG_some (m : Nat) (io : List S → Option (List D)) (stp : S → Bool) (t : Tg) (c : M Bool) (f : M S) (fin : List (S × List S) → Option (List S) → Option S) (avs : List AV) (xs ρ : List S) : genG m io stp t c f fin avs (some (xs, ρ)) = genK m stp t c f fin avs xs ρ (io xs) := (rfl)
theorem genK_some (m : Nat) (stp : S → Bool) (t : Tg) (c : M Bool) (f : M S) (fin : List (S × List S) → Option (List S) → Option S) (avs : List AV) (xs ρ : List S) (items : List D) : genK m stp t c f fin avs xs ρ (some items) = genL m stp t c f fin items avs xs ρ := (rfl)
end DL
/-! reckoning with the mirrors: slices, best of a list, the law's loop -/
namespace DL
open PySem PySem.Spec PyProof.Rows L2 PySem.W
def ptK (s : S) : M (Option Int) := match s with
  | .d (.int i) => mpure (some i)
  | _ => mstuck
def slK (o : Option S) : M S := match o with
  | some z => mpure z
  | none => mstuck
theorem e_mSlice (f : M S) (lo hi : Option (M S)) (ρ : List S) : mSlice f lo hi ρ = rb (f ρ) fun s => mbind (mPart lo) fun i => mbind (mPart hi) fun j => slK (slD i j s) := (rfl)
theorem e_slK (z : S) (ρ : List S) : slK (some z) ρ = .ok z ρ := (rfl)
theorem e_part_n (ρ : List S) : mPart none ρ = .ok none ρ := (rfl)
theorem e_part_s (f : M S) (ρ : List S) : mPart (some f) ρ = rb (f ρ) ptK := (rfl)
theorem e_ptK (i : Int) (ρ : List S) : ptK (.d (.int i)) ρ = .ok (some i) ρ := (rfl)
theorem e_slD_l (lo hi : Option Int) (xs : List D) : slD lo hi (.l xs) = some (.l (cutD xs lo hi)) := (rfl)
theorem e_slD_dl (lo hi : Option Int) (xs : List D) : slD lo hi (.d (.lst xs)) = some (.l (cutD xs lo hi)) := (rfl)
theorem e_slD_dt (lo hi : Option Int) (xs : List D) : slD lo hi (.d (.tup xs)) = some (.d (.tup (cutD xs lo hi))) := (rfl)
theorem sIx_p (n d : Nat) (i : Int) (h : 0 ≤ i) : HT.sIx n d (some i) = min i.toNat n := by
  show (if i < 0 then (i + (n : Int)).toNat else min i.toNat n) = _
  rw [if_neg (by omega)]
theorem cut_to (xs : List D) (j : Int) (h : 0 ≤ j) : cutD xs none (some j) = xs.take j.toNat := by
  unfold cutD
  rw [sIx_p _ _ _ h]
  show (xs.drop 0).take (min j.toNat xs.length - 0) = _
  rw [List.drop_zero, Nat.sub_zero]
  by_cases hk : j.toNat ≤ xs.length
  · rw [Nat.min_eq_left hk]
  · rw [Nat.min_eq_right (by omega), List.take_length, List.take_of_length_le (by omega)]
theorem cut_from (xs : List D) (i : Int) (h : 0 ≤ i) : cutD xs (some i) none = xs.drop i.toNat := by
  unfold cutD
  rw [sIx_p _ _ _ h]
  show (xs.drop (min i.toNat xs.length)).take (xs.length - min i.toNat xs.length) = _
  rw [List.take_of_length_le (by simp)]
  by_cases hk : i.toNat ≤ xs.length
  · rw [Nat.min_eq_left hk]
  · rw [Nat.min_eq_right (by omega), List.drop_eq_nil_of_le (Nat.le_refl _), List.drop_eq_nil_of_le (by omega)]
theorem cut_last (xs : List D) : cutD xs none (some (-1)) = xs.dropLast := by
  unfold cutD
  have e : HT.sIx xs.length xs.length (some (-1)) = xs.length - 1 := by
    show (if (-1 : Int) < 0 then (-1 + (xs.length : Int)).toNat else min (-1 : Int).toNat xs.length) = _
    rw [if_pos (by decide)]
    omega
  rw [e]
  show (xs.drop 0).take (xs.length - 1 - 0) = _
  rw [List.drop_zero, Nat.sub_zero, List.dropLast_eq_take]
theorem e_clr_nil (ρ : List S) : clr [] ρ = ρ := (rfl)
theorem e_clr_cons (v : Nat) (vs : List Nat) (ρ : List S) : clr (v :: vs) ρ = (clr vs ρ).set v .gone := (rfl)
theorem e_rst_nil (ρ0 ρ : List S) : rst [] ρ0 ρ = ρ := (rfl)
theorem e_rst_cons (v : Nat) (vs : List Nat) (ρ0 ρ : List S) : rst (v :: vs) ρ0 ρ = rst vs ρ0 (ρ.set v ((clr vs ρ0)[v]?.getD .gone)) := (rfl)
/-- a comprehension over one item -/
theorem comp_one {vs : List Nat} {as : List Arg} {io : List S → Option (List D)} {t : Tg} {c : M Bool} {f : M S} {ρ ρa ρp ρ1 ρ2 ρ3 ρ' : List S} {avs : List AV} {xs : List S} {x : D} {s : S}
    (ha : mArgs as ρ = .ok avs ρa) (hg : grab ρa avs = some (xs, ρp)) (hi : io xs = some [x]) (h1 : asgT t (.d x) (clr vs ρp) = some ρ1) (h2 : c ρ1 = .ok true ρ2) (h3 : f ρ2 = .ok s ρ3)
    (hr : lay (rst vs ρp (clr vs ρ3)) avs xs xs = ρ') : mComp vs as io t c f ρ = .ok (lsN [s]) ρ' := by
  unfold mComp mbind
  simp only [ha, hg, hi, compL, h1, h2, h3, if_true, List.length_cons, List.length_nil, List.nil_append]
  rw [← hr]
  rfl
/-! ### for dice in _law_rounds(script, 1) -/
theorem e_bForO (f : M S) (i : Nat) (body : B) (ρ : List S) : bForO f i body ρ = db (f ρ) fun s ρ => match s with
  | .ls xs => forO i body xs ρ
  | .l xs => forO i body (xs.map .d) ρ
  | _ => .stuck := (rfl)
theorem forO_one (i : Nat) (body : B) (s : S) (ρ ρ2 : List S) (hi : i < ρ.length) (h : body (ρ.set i s) = .nx ρ2) : forO i body [s] ρ = .nx ρ2 := by
  simp only [forO, hi, if_true, h]
/-! ### the greatest, the least of ints -/
/-! ### lists of ints by place -/
theorem nth_get {ns : List Int} {i : Int} (h : 0 ≤ i ∧ i < ns.length) : ns[i.toNat]? = some (nth ns i) := by
  have : i.toNat < ns.length := by omega
  simp [nth, List.getD, this]
theorem nth_eq {ns : List Int} {i : Int} {v : Int} (h : ns[i.toNat]? = some v) : nth ns i = v := by
  simp [nth, List.getD, h]
theorem nth_rgI {lo : Int} {n : Nat} {i : Int} (h : 0 ≤ i ∧ i < n) : nth (rgI lo n) i = lo + i := by
  apply nth_eq
  unfold rgI
  have : i.toNat < n := by omega
  simp [this]
  omega
theorem fltT {ι : Type} (is : List ι) : is.filter (fun _ => true) = is := List.filter_eq_self.mpr fun _ _ => rfl
theorem rev_int (ns : List Int) : (ns.map D.int).reverse = ns.reverse.map D.int := List.map_reverse.symm
/-! ### index -/
def idx (ns : List Int) (v : Int) : Nat := ns.findIdx (fun z => z == v)
/-! ### ranges by steps -/
def rgS (i c : Int) (n : Nat) : List Int := (List.range n).map fun (k : Nat) => i + (k : Int) * c
theorem rgS_length (i c : Int) (n : Nat) : (rgS i c n).length = n := by simp [rgS]
theorem e_ioR3 (i j c : Int) (hc : 0 < c ∧ c < 1073741824) (hi : -1000000000000 ≤ i ∧ i < 1000000000000) (hj : -1000000000000 ≤ j ∧ j < 1000000000000) : ioR3 [.d (.int i), .d (.int j), .d (.int c)] = some ((rgS i c (Builtin.Range.rangeSize i j c).toNat).map .int) := by
  have h1 : 0 ≤ Builtin.Range.rangeSize i j c := by
    unfold Builtin.Range.rangeSize
    rw [if_pos (by omega)]
    split
    · have := Int.ediv_nonneg (show 0 ≤ j - i - 1 by omega) (show 0 ≤ c by omega)
      omega
    · omega
  have h2 : Builtin.Range.small i j c = true := by
    have hs : Builtin.Range.rangeSize i j c ≤ 2000000000000 := by
      unfold Builtin.Range.rangeSize
      rw [if_pos (by omega)]
      split
      · have h5 : (j - i - 1) / c ≤ j - i - 1 := Int.ediv_le_self _ (by omega)
        omega
      · omega
    have ft : ∀ x : Int, -4000000000000 ≤ x → x ≤ 4000000000000 → Builtin.Range.rangeFitsLong x = true := fun x a b => by
      simp [Builtin.Range.rangeFitsLong]
      omega
    unfold Builtin.Range.small
    rw [ft i (by omega) (by omega), ft j (by omega) (by omega), ft c (by omega) (by omega), ft _ (by omega) (by omega), if_pos (by omega), ft _ (by omega) (by omega)]
    simp
  have h3 : decide (c ≠ 0) = true := decide_eq_true (by omega)
  have h4 : decide (c.natAbs < 1073741824) = true := decide_eq_true (by omega)
  simp only [ioR3, h2, h3, h4, decide_eq_true h1, Bool.and_self, if_true, rgS, List.map_map]
  rfl
/-! ### pairs of ints -/
def pD (p : Int × Int) : D := .tup [.int p.1, .int p.2]
def nthP (ps : List (Int × Int)) (i : Int) : Int × Int := ps.getD i.toNat (0, 0)
theorem nthP_get {ps : List (Int × Int)} {i : Int} (h : 0 ≤ i ∧ i < ps.length) : ps[i.toNat]? = some (nthP ps i) := by
  have : i.toNat < ps.length := by omega
  simp [nthP, List.getD, this]
theorem atI_pair (ps : List (Int × Int)) (i : Int) (h : 0 ≤ i ∧ i < ps.length) : atI (ps.map pD) i = some (.tup [.int (nthP ps i).1, .int (nthP ps i).2]) := by
  rw [atI_mapD, atI_pos _ _ h, nthP_get h]
  rfl
theorem atI_pair_last (ps : List (Int × Int)) (h : 0 < ps.length) : atI (ps.map pD) (-1) = some (.tup [.int (nthP ps (ps.length - 1)).1, .int (nthP ps (ps.length - 1)).2]) := by
  rw [atI_mapD, atI_neg _ _ (by omega)]
  have h1 : (-1 + (ps.length : Int)).toNat = ((ps.length : Int) - 1).toNat := by omega
  rw [h1, nthP_get (by omega)]
  rfl
/-! ### parts of ranges -/
/-! ### the greatest, the least of pairs -/
/-! ### zip -/
def qD (q : (Int × Int) × (Int × Int)) : D := .tup [pD q.1, pD q.2]
theorem e_ioZ_P (P Q : List (Int × Int)) : ioZ [.d (.lst (P.map pD)), .l (Q.map pD)] = some ((P.zip Q).map qD) := by
  show some (((P.map pD).zip (Q.map pD)).map fun p => D.tup [p.1, p.2]) = _
  rw [List.zip_map, List.map_map]
  rfl
end DL
/-! reckoning with the mirrors: sorted, sums, pops, items changed -/
namespace DL
open PySem PySem.Spec PyProof.Rows L2 PySem.W
/-! ### sorted -/
def up (ns : List Int) : List Int := ns.mergeSort fun a b => decide (a ≤ b)
def dn (ns : List Int) : List Int := ns.mergeSort fun a b => decide (b ≤ a)
theorem alB_ints (xs : List Int) : alB (xs.map .int) = true := by
  unfold alB
  simp [List.all_eq_true, alike]
theorem srtB_ints (xs : List Int) : srtB (xs.map .int) = true := by
  unfold srtB
  rw [alB_ints]
  simp [noTc, PyData.depth]
theorem opSorted_ints (rev : Bool) (s : S) (xs : List Int) (h : seqS s = some (xs.map .int)) : opSorted rev [s] = .ok (.l ((if rev then dn xs else up xs).map .int)) [s] := by
  have e : (xs.map D.int).mergeSort (leD rev) = (if rev then dn xs else up xs).map D.int := by
    cases rev with
    | false =>
      show _ = (up xs).map D.int
      unfold up
      rw [List.map_mergeSort (s := leD false) (fun a _ b _ => by
        show decide (a ≤ b) = dataLe false py (.int a) (.int b)
        rw [dataLe_eq]
        show decide (a ≤ b) = !dataLt (.int b) (.int a)
        rw [dataLt_int]
        by_cases hq : a ≤ b <;> simp [hq] <;> omega)]
    | true =>
      show _ = (dn xs).map D.int
      unfold dn
      rw [List.map_mergeSort (s := leD true) (fun a _ b _ => by
        show decide (b ≤ a) = dataLe true py (.int a) (.int b)
        rw [dataLe_eq]
        show decide (b ≤ a) = !dataLt (.int a) (.int b)
        rw [dataLt_int]
        by_cases hq : b ≤ a <;> simp [hq] <;> omega)]
  simp only [opSorted, h, dPys_int, srtB_ints, if_true, e]
theorem e_srt_l (xs : List Int) : opSorted false [.l (xs.map .int)] = .ok (.l ((up xs).map .int)) [.l (xs.map .int)] := opSorted_ints false _ _ rfl
theorem e_srt_dl (xs : List Int) : opSorted false [.d (.lst (xs.map .int))] = .ok (.l ((up xs).map .int)) [.d (.lst (xs.map .int))] := opSorted_ints false _ _ rfl
theorem e_srt_dt (xs : List Int) : opSorted false [.d (.tup (xs.map .int))] = .ok (.l ((up xs).map .int)) [.d (.tup (xs.map .int))] := opSorted_ints false _ _ rfl
theorem e_srd_l (xs : List Int) : opSorted true [.l (xs.map .int)] = .ok (.l ((dn xs).map .int)) [.l (xs.map .int)] := opSorted_ints true _ _ rfl
theorem e_srd_dl (xs : List Int) : opSorted true [.d (.lst (xs.map .int))] = .ok (.l ((dn xs).map .int)) [.d (.lst (xs.map .int))] := opSorted_ints true _ _ rfl
theorem e_srd_dt (xs : List Int) : opSorted true [.d (.tup (xs.map .int))] = .ok (.l ((dn xs).map .int)) [.d (.tup (xs.map .int))] := opSorted_ints true _ _ rfl
/-! ### sums -/
theorem intsD_ints : ∀ xs : List Int, intsD (xs.map D.int) = some xs
  | [] => rfl
  | x :: xs => by
    show (intsD (xs.map D.int)).map (x :: ·) = _
    rw [intsD_ints xs]
    rfl
theorem e_sum_l (xs : List Int) : opSum [.l (xs.map .int)] = .ok (.d (.int xs.sum)) [.l (xs.map .int)] := by
  show (match (some (xs.map D.int)).bind intsD with | some ns => ORes.ok (.d (.int ns.sum)) [.l (xs.map .int)] | none => .stuck) = _
  rw [e_bind_some, intsD_ints]
theorem e_sum_dl (xs : List Int) : opSum [.d (.lst (xs.map .int))] = .ok (.d (.int xs.sum)) [.d (.lst (xs.map .int))] := by
  show (match (some (xs.map D.int)).bind intsD with | some ns => ORes.ok (.d (.int ns.sum)) [.d (.lst (xs.map .int))] | none => .stuck) = _
  rw [e_bind_some, intsD_ints]
theorem e_sum_dt (xs : List Int) : opSum [.d (.tup (xs.map .int))] = .ok (.d (.int xs.sum)) [.d (.tup (xs.map .int))] := by
  show (match (some (xs.map D.int)).bind intsD with | some ns => ORes.ok (.d (.int ns.sum)) [.d (.tup (xs.map .int))] | none => .stuck) = _
  rw [e_bind_some, intsD_ints]
/-! ### pops -/
theorem e_pop (xs : List Int) (h : 0 < xs.length) : opPop [.l (xs.map .int)] = .ok (.d (.int (nth xs (xs.length - 1)))) [.l (xs.dropLast.map .int)] := by
  have e : (xs.map D.int)[(xs.map D.int).length - 1]? = some (.int (nth xs (xs.length - 1))) := by
    have := nth_get (ns := xs) (i := (xs.length : Int) - 1) (by omega)
    rw [show ((xs.length : Int) - 1).toNat = xs.length - 1 by omega] at this
    rw [List.length_map, List.getElem?_map, this]
    rfl
  simp only [opPop, e, List.map_dropLast]
/-! ### an item changed -/
theorem set_int (ns : List Int) (j : Nat) (v : Int) : (ns.map D.int).set j (.int v) = (ns.set j v).map D.int := List.map_set.symm
def ag5 (io : Nat) (op : Int → Int → Int) (n m : Int) (ys : List D) (ρ : List S) (o : Option Nat) : Fl := match o with
  | some j => .nx (ρ.set io (.l (ys.set j (.int (op n m)))))
  | none => .stuck
def ag4 (io : Nat) (op : Int → Int → Int) (k n m : Int) (ρ : List S) (o : Option S) : Fl := match o with
  | some (.l ys) => ag5 io op n m ys ρ (ixN ys.length k)
  | _ => .stuck
theorem e_augS3 (io : Nat) (op : Int → Int → Int) (k n m : Int) (ρ : List S) : augS3 io op k n (.d (.int m)) ρ = ag4 io op k n m ρ ρ[io]? := by
  unfold augS3 ag4 ag5
  dsimp only
  all_goals
    cases ρ[io]? with
    | none => rfl
    | some s => cases s with
      | l ys =>
        (try dsimp only)
        all_goals (cases ixN ys.length k <;> rfl)
      | _ => rfl
theorem e_ag4 (io : Nat) (op : Int → Int → Int) (k n m : Int) (ρ : List S) (ys : List D) : ag4 io op k n m ρ (some (.l ys)) = ag5 io op n m ys ρ (ixN ys.length k) := (rfl)
theorem e_ag5 (io : Nat) (op : Int → Int → Int) (n m : Int) (ys : List D) (ρ : List S) (j : Nat) : ag5 io op n m ys ρ (some j) = .nx (ρ.set io (.l (ys.set j (.int (op n m))))) := (rfl)
def ag3 (io : Nat) (op : Int → Int → Int) (fe : M S) (k : Int) (ρ : List S) (o : Option D) : Fl := match o with
  | some (.int n) => bdo fe (augS3 io op k n) ρ
  | _ => .stuck
def ag2 (io : Nat) (op : Int → Int → Int) (fe : M S) (k : Int) (ρ : List S) (o : Option S) : Fl := match o with
  | some (.l xs) => ag3 io op fe k ρ (atI xs k)
  | _ => .stuck
theorem e_augS2 (io : Nat) (op : Int → Int → Int) (fe : M S) (k : Int) (ρ : List S) : augS2 io op fe (.d (.int k)) ρ = ag2 io op fe k ρ ρ[io]? := by
  unfold augS2 ag2 ag3
  dsimp only
  all_goals
    cases ρ[io]? with
    | none => rfl
    | some s => cases s with
      | l xs =>
        (try dsimp only)
        all_goals
          cases atI xs k with
          | none => rfl
          | some x => cases x <;> rfl
      | _ => rfl
theorem e_ag2 (io : Nat) (op : Int → Int → Int) (fe : M S) (k : Int) (ρ : List S) (xs : List D) : ag2 io op fe k ρ (some (.l xs)) = ag3 io op fe k ρ (atI xs k) := (rfl)
theorem e_ag3 (io : Nat) (op : Int → Int → Int) (fe : M S) (k n : Int) (ρ : List S) : ag3 io op fe k ρ (some (.int n)) = db (fe ρ) (augS3 io op k n) := (rfl)
def ag1 (io : Nat) (op : Int → Int → Int) (fi fe : M S) (ρ : List S) (o : Option S) : Fl := match o with
  | some (.l _) => bdo fi (augS2 io op fe) ρ
  | _ => .stuck
theorem e_bAugS (io : Nat) (op : Int → Int → Int) (fi fe : M S) (ρ : List S) : bAugS io op fi fe ρ = ag1 io op fi fe ρ ρ[io]? := by
  unfold bAugS ag1
  cases ρ[io]? with
  | none => rfl
  | some s => cases s <;> rfl
theorem e_ag1 (io : Nat) (op : Int → Int → Int) (fi fe : M S) (ρ : List S) (xs : List D) : ag1 io op fi fe ρ (some (.l xs)) = db (fi ρ) (augS2 io op fe) := (rfl)
/-! ### enumerate -/
def enI (ns : List Int) : List (Int × Int) := (rgI 0 ns.length).map fun k => (k, nth ns k)
theorem enI_eq (ns : List Int) : (ns.map D.int).mapIdx (fun i x => D.tup [.int (i : Nat), x]) = (enI ns).map pD := by
  apply List.ext_getElem?
  intro i
  unfold enI
  rw [List.getElem?_mapIdx, List.map_map, List.getElem?_map, List.getElem?_map]
  by_cases hi : i < ns.length
  · have h1 := nth_get (ns := ns) (i := i) (by omega)
    have h2 := nth_get (ns := rgI 0 ns.length) (i := i) (by rw [rgI_length]; omega)
    rw [nth_rgI (by omega), Int.toNat_natCast, Int.zero_add] at h2
    rw [Int.toNat_natCast] at h1
    rw [h1, h2]
    rfl
  · rw [List.getElem?_eq_none (by omega), List.getElem?_eq_none (by rw [rgI_length]; omega)]
    rfl
theorem e_ioEn_l (ns : List Int) : ioEn [.l (ns.map .int)] = some ((enI ns).map pD) := by
  show some ((ns.map D.int).mapIdx fun i x => D.tup [.int (i : Nat), x]) = _
  rw [enI_eq]
theorem e_ioEn_dl (ns : List Int) : ioEn [.d (.lst (ns.map .int))] = some ((enI ns).map pD) := by
  show some ((ns.map D.int).mapIdx fun i x => D.tup [.int (i : Nat), x]) = _
  rw [enI_eq]
/-! ### a comprehension that draws -/
theorem dropLast_int (ns : List Int) : (ns.map D.int).dropLast = ns.dropLast.map D.int := List.map_dropLast.symm
def ab (i : Int) : Int := if i < 0 then -i else i
theorem e_fAbs' (i : Int) : fAbs i = some (.int (ab i)) := (rfl)
theorem e_opI_dl (f : Int → Int → Option D) (xs : List D) (r : List S) : opI f (.d (.lst xs) :: r) = .stuck := by
  unfold opI
  split <;> simp_all
end DL
/-! reckoning with dicts from ints to ints -/
namespace DL
open PySem PySem.Spec PyProof.Rows L2 PySem.W
abbrev Rw := List (Int × Int)
def kys (r : Rw) : List Int := r.map (·.1)
def vls (r : Rw) : List Int := r.map (·.2)
def ksR (r : Rw) : List D := (kys r).map .int
def vsR (r : Rw) : List D := (vls r).map .int
abbrev dR (r : Rw) : D := .dic (ksR r) (vsR r)
abbrev mR (r : Rw) : S := .m (ksR r) (vsR r)
def gt : Rw → Int → Option Int
  | [], _ => none
  | (a, b) :: r, k => if a = k then some b else gt r k
def gd (r : Rw) (k : Int) : Int := (gt r k).getD 0
def pt (r : Rw) (k v : Int) : Rw := if (gt r k).isSome = true then r.map (fun q => if q.1 = k then (q.1, v) else q) else r ++ [(k, v)]
theorem ksR_cons (p : Int × Int) (r : Rw) : ksR (p :: r) = .int p.1 :: ksR r := rfl
theorem vsR_cons (p : Int × Int) (r : Rw) : vsR (p :: r) = .int p.2 :: vsR r := rfl
theorem ksR_ok (r : Rw) : kOk (ksR r) = true := kOk_ints _
theorem kyI {a k : Int} : (keyD (.int a) = keyD (.int k)) = (a = k) := by
  show (some (Sum.inl a) = some (Sum.inl k)) = _
  simp
theorem look_R (k : Int) : ∀ r : Rw, look (ksR r) (vsR r) (.int k) = (gt r k).map .int
  | [] => rfl
  | (a, b) :: r => by
    rw [ksR_cons, vsR_cons, look, look_R k r, gt]
    simp only [kyI]
    by_cases h : a = k <;> simp [h]
/-! ### the operations -/
theorem get_of {s : S} {r : Rw} {k z : Int} (hs : dicS s = some (ksR r, vsR r)) : opGet [s, .d (.int k), .d (.int z)] = .ok (.d (.int ((gt r k).getD z))) [s, .d (.int k), .d (.int z)] := by
  unfold opGet
  simp only [hs, ksR_ok, look_R, keyD, Option.isSome_some, and_self, if_true]
  cases gt r k <;> rfl
theorem e_get_d (r : Rw) (k : Int) : opGet [.d (.dic (ksR r) (vsR r)), .d (.int k), .d (.int 0)] = .ok (.d (.int (gd r k))) [.d (.dic (ksR r) (vsR r)), .d (.int k), .d (.int 0)] := get_of rfl
theorem e_get_m (r : Rw) (k : Int) : opGet [.m (ksR r) (vsR r), .d (.int k), .d (.int 0)] = .ok (.d (.int (gd r k))) [.m (ksR r) (vsR r), .d (.int k), .d (.int 0)] := get_of rfl
def dcQ : Option S → Bool
  | some (.d (.dic _ _)) => true
  | some (.m _ _) => true
  | some (.w _ _) => true
  | _ => false
def dmK (g : List S → ORes) (as : List Arg) (av : List AV) : M S := fun ρ => if dcA ρ av = true then rb (mArgs as ρ) (fun avs => mFin g (av ++ avs)) else .stuck
theorem e_mDm (g : List S → ORes) (a : Arg) (as : List Arg) (ρ : List S) : mDm g a as ρ = rb (mArgs [a] ρ) (dmK g as) := (rfl)
def dmN (g : List S → ORes) (as : List Arg) (i : Nat) (ρ : List S) (o : Option S) : Res S := if dcQ o = true then rb (mArgs as ρ) (fun avs => mFin g (.n i :: avs)) else .stuck
theorem dcQ_eq (o : Option S) : (o.bind dicS).isSome = dcQ o := by
  cases o with
  | none => rfl
  | some s =>
    cases s with
    | d x => cases x <;> rfl
    | _ => rfl
theorem e_dmN (g : List S → ORes) (as : List Arg) (i : Nat) (ρ : List S) : dmK g as [.n i] ρ = dmN g as i ρ ρ[i]? := by
  show (if ((ρ[i]?).bind dicS).isSome = true then _ else _) = _
  rw [dcQ_eq]
  rfl
theorem dmN_d (g : List S → ORes) (as : List Arg) (i : Nat) (ρ : List S) (ks vs : List D) : dmN g as i ρ (some (.d (.dic ks vs))) = rb (mArgs as ρ) (fun avs => mFin g (.n i :: avs)) := (rfl)
theorem dmN_m (g : List S → ORes) (as : List Arg) (i : Nat) (ρ : List S) (ks vs : List D) : dmN g as i ρ (some (.m ks vs)) = rb (mArgs as ρ) (fun avs => mFin g (.n i :: avs)) := (rfl)
theorem e_listD_d (r : Rw) : opListD [.d (.dic (ksR r) (vsR r))] = .ok (.l ((kys r).map .int)) [.d (.dic (ksR r) (vsR r))] := by
  unfold opListD
  simp only [dicS, ksR_ok, if_true]
  rfl
theorem e_listD_m (r : Rw) : opListD [.m (ksR r) (vsR r)] = .ok (.l ((kys r).map .int)) [.m (ksR r) (vsR r)] := by
  unfold opListD
  simp only [dicS, ksR_ok, if_true]
  rfl
/-! ### dict(pairs) -/
/-! ### d[k] = v, d[k] += n, {}, {k: v} -/
theorem e_newD : opNewD [] = .ok (.m (ksR []) (vsR [])) [] := rfl
theorem e_disp1 (k v : Int) : opDisp1 [.d (.int k), .d (.int v)] = .ok (.m (ksR [(k, v)]) (vsR [(k, v)])) [.d (.int k), .d (.int v)] := rfl
/-! ### walks -/
theorem e_ioDk (r : Rw) : ioDk [.d (.dic (ksR r) (vsR r))] = some ((kys r).map .int) := by
  unfold ioDk
  simp only [ksR_ok, if_true]
  rfl
theorem e_ioDi (r : Rw) : ioDi [.d (.dic (ksR r) (vsR r))] = some (r.map pD) := by
  unfold ioDi
  simp only [ksR_ok, if_true]
  unfold ksR vsR kys vls
  rw [List.map_map, List.map_map, List.zip_map', List.map_map]
  rfl
/-! ### items -/
theorem e_itT (r : Rw) : opItT [.d (.dic (ksR r) (vsR r))] = .ok (.d (.tup (r.map pD))) [.d (.dic (ksR r) (vsR r))] := by
  unfold opItT
  simp only [dicS, ksR_ok, if_true]
  unfold ksR vsR kys vls
  rw [List.map_map, List.map_map, List.zip_map', List.map_map]
  rfl
/-- the keys rise -/
def Asc (r : Rw) : Prop := (kys r).Pairwise (· < ·)
theorem Asc.nd {r : Rw} (h : Asc r) : (kys r).Nodup := List.Pairwise.imp (fun h => by omega) h
/-! ### the same -/
theorem eqDs_ints : ∀ xs : List Int, eqDs (xs.map .int) (xs.map .int) = true
  | [] => rfl
  | x :: xs => by
    rw [List.map_cons, eqDs, eqDs_ints xs]
    simp [eqDb]
theorem dpDs_ints : ∀ xs : List Int, dpDs (xs.map .int) = 0
  | [] => rfl
  | x :: xs => by
    rw [List.map_cons, dpDs, dpDs_ints xs]
    rfl
theorem eqDb_R (r : Rw) : eqDb (dR r) (dR r) = true := by
  unfold eqDb
  rw [ksR_ok, show eqDs (ksR r) (ksR r) = true from eqDs_ints _, show eqDs (vsR r) (vsR r) = true from eqDs_ints _]
  rfl
theorem dpD_R (r : Rw) : dpD (dR r) = 1 := by
  unfold dpD
  rw [show dpDs (vsR r) = 0 from dpDs_ints _]
theorem same_of (neg : Bool) {x y : S} {d : D} (hx : x.frz = some d) (hy : y.frz = some d) (ho : eqDb d d = true) (hd : dpD d ≤ 50) (ht : topS d = true) : opSame neg [x, y] = .ok (.d (.bl (!neg))) [x, y] := by
  unfold opSame
  simp only [hx, hy, ho, hd, ht, and_self, if_true]
theorem e_same_dd (neg : Bool) (r : Rw) : opSame neg [.d (.dic (ksR r) (vsR r)), .d (.dic (ksR r) (vsR r))] = .ok (.d (.bl (!neg))) [.d (.dic (ksR r) (vsR r)), .d (.dic (ksR r) (vsR r))] :=
  same_of neg rfl rfl (eqDb_R r) (by rw [dpD_R]; omega) rfl
theorem e_same_dm (neg : Bool) (r : Rw) : opSame neg [.d (.dic (ksR r) (vsR r)), .m (ksR r) (vsR r)] = .ok (.d (.bl (!neg))) [.d (.dic (ksR r) (vsR r)), .m (ksR r) (vsR r)] :=
  same_of neg (d := dR r) rfl rfl (eqDb_R r) (by rw [dpD_R]; omega) rfl
theorem e_same_md (neg : Bool) (r : Rw) : opSame neg [.m (ksR r) (vsR r), .d (.dic (ksR r) (vsR r))] = .ok (.d (.bl (!neg))) [.m (ksR r) (vsR r), .d (.dic (ksR r) (vsR r))] :=
  same_of neg (d := dR r) rfl rfl (eqDb_R r) (by rw [dpD_R]; omega) rfl
theorem e_same_mm (neg : Bool) (r : Rw) : opSame neg [.m (ksR r) (vsR r), .m (ksR r) (vsR r)] = .ok (.d (.bl (!neg))) [.m (ksR r) (vsR r), .m (ksR r) (vsR r)] :=
  same_of neg (d := dR r) rfl rfl (eqDb_R r) (by rw [dpD_R]; omega) rfl
/-! ### a comprehension of dicts, settled -/
theorem frzs_mR : ∀ rs : List Rw, S.frzs (rs.map mR) = some (rs.map dR)
  | [] => rfl
  | r :: rs => by
    rw [List.map_cons, e_frzs_cons, frzs_mR rs]
    rfl
theorem frz_mR (rs : List Rw) : S.frz (lsN (rs.map mR)) = some (.lst (rs.map dR)) := by
  cases rs with
  | nil => rfl
  | cons r rs =>
    show S.frz (.ls ((r :: rs).map mR)) = _
    rw [e_frz_ls, frzs_mR]
    rfl
def fzK (o : Option D) : M S := match o with
  | some x => fun ρ => .ok (.d x) ρ
  | none => fun _ => .stuck
theorem e_mFz (f : M S) (ρ : List S) : mFz f ρ = rb (f ρ) fun s => fzK s.frz := by
  unfold mFz mbind rb
  cases f ρ with
  | ok s ρ' =>
    dsimp only
    unfold fzK
    cases s.frz <;> rfl
  | _ => rfl
theorem fzK_some (x : D) (ρ : List S) : fzK (some x) ρ = .ok (.d x) ρ := (rfl)
end DL
/-! reckoning with dicts from texts; a value is told by its name -/
namespace DL
open PySem PySem.Spec PyProof.Rows L2 PySem.W
/-! ### the operations -/
/-! ### lists of anything -/
/-! ### sorted by keys that end with the item -/
end DL
/-! reckoning: loops that leave, empty things, texts, the least of pairs -/
namespace DL
open PySem PySem.Spec PyProof.Rows L2 PySem.W
/-! ### while, in general -/
/-! ### against the empty ones -/
/-! ### texts -/
/-! ### the least -/
/-! ### (int, text) -/
end DL
/-! reckoning: comprehensions that draw and leave out; dicts of names that come twice -/
namespace DL
open PySem PySem.Spec PyProof.Rows L2 PySem.W
/-! ### names that come twice -/
end DL
/-! reckoning: get and put of names, pairs as dicts, loops that find, what is kept of drawn lists -/
namespace DL
open PySem PySem.Spec PyProof.Rows L2 PySem.W
end DL
/-! reckoning: dicts keyed by rows of ints, names by their places, rows that end -/
namespace DL
open PySem PySem.Spec PyProof.Rows L2 PySem.W
/-! ### rows of ints as keys -/
abbrev tI (r : List Int) : D := .tup (r.map .int)
/-! ### names by place -/
def nm (ns : List Str) (k : Int) : Str := (ns[k.toNat]?).getD ""
/-! ### d.get, k in d: of names -/
/-! ### a comprehension whose parts turn an object's form -/
/-! ### stores in order -/
/-! ### sorted by a key -/
/-! ### list(range(a, b, c)) -/
/-! ### sorted(d) of keys that lie sorted -/
end DL
/-! reckoning: sorted rows of names, dicts of dicts, displays, comprehensions of two clauses -/
namespace DL
open PySem PySem.Spec PyProof.Rows L2 PySem.W
/-! ### sorted(d) of names, whatever is held -/
/-! ### names less than names -/
/-! ### sorted(d.items()) of names -/
/-! ### dict(d) -/
/-! ### tuple(reversed(s)) -/
/-! ### a = b = x -/
/-! ### stores in a dict, name by name -/
/-! ### comprehensions of anything -/
/-! ### sorted places -/
end DL
/-! reckoning with the mirrors: a dict held in a field of slot 0's object; known tuples; the best by a key -/
namespace DL
open PySem PySem.Spec PyProof.Rows L2 PySem.W
/-! known tuples -/
end DL
/-! reckoning with dicts from ints, values of any kind -/
namespace DL
open PySem PySem.Spec PyProof.Rows L2 PySem.W
/-! ### the operations -/
end DL
/-! reckoning: the best by a key -/
namespace DL
open PySem PySem.Spec PyProof.Rows L2 PySem.W
end DL
/-! plain law: a dict locked for one expression -/
namespace DL
open PySem PySem.Spec PyProof.Rows L2
theorem grabS_w (ks vs : List D) (ρ : List S) (i : Nat) (r : List AV) : grabS (some (.w ks vs)) ρ i r = gm (.w ks vs) (grab (ρ.set i .gone) r) := (rfl)
theorem slotB_w {α : Type} (k : Res α) (ks vs : List D) : slotB (some (.w ks vs)) k = k := (rfl)
theorem lay_w (ρ : List S) (i : Nat) (r : List AV) (ks vs : List D) (xs : List S) (y : S) (ys : List S) : lay ρ (.n i :: r) (.w ks vs :: xs) (y :: ys) = (lay ρ r xs ys).set i y := (rfl)
end DL
namespace DL
open PySem PySem.Spec PyProof.Rows L2
/-! plain law: locked objects and dicts of fields, step by step -/
section
variable {α : Type} (i c k n : Nat) (f : M α) (g : B) (ρ : List S) (fs : List S) (ks vs : List D) (r : List AV)
theorem grabS_fo : grabS (some (.fo c fs)) ρ i r = gm (.fo c fs) (grab (ρ.set i .gone) r) := (rfl)
theorem lay_fo (xs : List S) (y : S) (ys : List S) : lay ρ (.n i :: r) (.fo c fs :: xs) (y :: ys) = (lay ρ r xs ys).set i y := (rfl)
theorem slotB_fo (z : Res α) : slotB (some (.fo c fs)) z = z := (rfl)
def lkK (o : Option S) : Res α := match o with
  | some (.fo _ _) => f ρ
  | some (.o c fs) => thwR (thwO i) (f (ρ.set i (.fo c fs)))
  | _ => .stuck
theorem e_mLkO : mLkO i f ρ = lkK i f ρ ρ[i]? := (rfl)
theorem lkK_fo : lkK i f ρ (some (.fo c fs)) = f ρ := (rfl)
theorem lkK_o : lkK i f ρ (some (.o c fs)) = thwR (thwO i) (f (ρ.set i (.fo c fs))) := (rfl)
def thR (a : α) (o : Option (List S)) : Res α := match o with
  | some ρ' => .ok a ρ'
  | none => .stuck
theorem thwR_ok (th : List S → Option (List S)) (a : α) : thwR th (.ok a ρ) = thR a (th ρ) := (rfl)
theorem thR_some (a : α) : thR a (some ρ) = .ok a ρ := (rfl)
def thO (o : Option S) : Option (List S) := match o with
  | some (.fo c fs) => some (ρ.set i (.o c fs))
  | _ => none
theorem e_thwO : thwO i ρ = thO i ρ ρ[i]? := (rfl)
theorem thO_fo : thO i ρ (some (.fo c fs)) = some (ρ.set i (.o c fs)) := (rfl)
def thE (o : Option S) : Option (List S) := match o with
  | some (.w ks vs) => some (ρ.set i (.fo c (fs.set k (.m ks vs))))
  | _ => none
def thD (o : Option S) : Option (List S) := match o with
  | some (.fo c fs) => thE i c k ρ fs fs[k]?
  | _ => none
theorem e_thwD : thwD i k ρ = thD i k ρ ρ[i]? := (rfl)
theorem thD_fo : thD i k ρ (some (.fo c fs)) = thE i c k ρ fs fs[k]? := (rfl)
theorem thE_w : thE i c k ρ fs (some (.w ks vs)) = some (ρ.set i (.fo c (fs.set k (.m ks vs)))) := (rfl)
def thF (o : Option (List S)) : Fl := match o with
  | some ρ' => .nx ρ'
  | none => .stuck
theorem thwF_nx (th : List S → Option (List S)) : thwF th (.nx ρ) = thF (th ρ) := (rfl)
theorem thF_some : thF (some ρ) = .nx ρ := (rfl)
def blK (o : Option S) : Fl := match o with
  | some (.fo _ _) => g ρ
  | some (.o c fs) => thwF (thwO i) (g (ρ.set i (.fo c fs)))
  | _ => .stuck
theorem e_bLkO : bLkO i g ρ = blK i g ρ ρ[i]? := (rfl)
theorem blK_fo : blK i g ρ (some (.fo c fs)) = g ρ := (rfl)
theorem blK_o : blK i g ρ (some (.o c fs)) = thwF (thwO i) (g (ρ.set i (.fo c fs))) := (rfl)
def ldE (o : Option S) : Fl := match o with
  | some (.w _ _) => g ρ
  | some (.m ks vs) => thwF (thwD i k) (g (ρ.set i (.fo c (fs.set k (.w ks vs)))))
  | _ => .stuck
def ldD (o : Option S) : Fl := match o with
  | some (.fo c fs) => ldE i c k g ρ fs fs[k]?
  | _ => .stuck
theorem e_bLkD : bLkD i k g ρ = ldD i k g ρ ρ[i]? := (rfl)
theorem ldD_fo : ldD i k g ρ (some (.fo c fs)) = ldE i c k g ρ fs fs[k]? := (rfl)
theorem ldE_m : ldE i c k g ρ fs (some (.m ks vs)) = thwF (thwD i k) (g (ρ.set i (.fo c (fs.set k (.w ks vs))))) := (rfl)
theorem ldE_w : ldE i c k g ρ fs (some (.w ks vs)) = g ρ := (rfl)
/-! ops on a field -/
def pF (op : List S → ORes) (as2 : List Arg) (av1 : List AV) (o : Option S) : Res S := match o with
  | some (.fo c' fs) => if c' = c ∧ k < fs.length then rb (mArgs as2 ρ) fun av2 => mFin (opF av1.length c k op) (av1 ++ .n i :: av2) else .stuck
  | _ => .stuck
theorem e_mOpF (op : List S → ORes) (as1 as2 : List Arg) : mOpF op as1 i c k as2 ρ = rb (mArgs as1 ρ) fun av1 ρ => pF i c k ρ op as2 av1 ρ[i]? := by
  unfold mOpF
  rw [e_mbind]
  rfl
theorem pF_fo (op : List S → ORes) (as2 : List Arg) (av1 : List AV) (h : k < fs.length) : pF i c k ρ op as2 av1 (some (.fo c fs)) = rb (mArgs as2 ρ) fun av2 => mFin (opF av1.length c k op) (av1 ++ .n i :: av2) := if_pos ⟨rfl, h⟩
def oI (z : S) (outs : List S) (o : Option S) : ORes := match o with
  | some s' => .ok z (outs.set n (.fo c (fs.set k s')))
  | none => .stuck
def oH (q : ORes) : ORes := match q with
  | .ok z outs => oI c k n fs z outs outs[n]?
  | _ => .stuck
def oG (op : List S → ORes) (xs : List S) (o : Option S) : ORes := match o with
  | some s => oH c k n fs (op (xs.set n s))
  | none => .stuck
def oF (op : List S → ORes) (xs : List S) (o : Option S) : ORes := match o with
  | some (.fo c' fs) => if c' = c then oG c k n fs op xs fs[k]? else .stuck
  | _ => .stuck
theorem e_opF (op : List S → ORes) (xs : List S) : opF n c k op xs = oF c k n op xs xs[n]? := by
  unfold opF oF
  cases xs[n]? with
  | none => rfl
  | some x =>
    cases x with
    | fo c' fs =>
      simp only
      split
      · rename_i e
        unfold oG
        cases fs[k]? with
        | none => rfl
        | some s =>
          simp only
          unfold oH
          cases op (xs.set n s) with
          | ok z outs =>
            simp only
            unfold oI
            rfl
          | _ => rfl
      · rfl
    | _ => rfl
theorem oF_fo (op : List S → ORes) (xs : List S) : oF c k n op xs (some (.fo c fs)) = oG c k n fs op xs fs[k]? := if_pos rfl
theorem oG_some (op : List S → ORes) (xs : List S) (s : S) : oG c k n fs op xs (some s) = oH c k n fs (op (xs.set n s)) := (rfl)
def fldC (o : Option S) : ORes := match o with
  | some (.d x) => .ok (.d x) [.fo c fs]
  | _ => .stuck
theorem e_fld_fo : opFld c k [.fo c fs] = fldC c fs fs[k]? := by
  unfold fldC
  simp only [opFld, if_true] <;> rfl
theorem fldC_d (x : D) : fldC c fs (some (.d x)) = .ok (.d x) [.fo c fs] := (rfl)
theorem oH_ok (z : S) (outs : List S) : oH c k n fs (.ok z outs) = oI c k n fs z outs outs[n]? := (rfl)
theorem oI_some (z : S) (outs : List S) (s' : S) : oI c k n fs z outs (some s') = .ok z (outs.set n (.fo c (fs.set k s'))) := (rfl)
end
end DL
namespace DL
open PySem PySem.Spec PyProof.Rows L2 PySem.W
/-! plain law: the least by a number and a name, d[k] op= what is reckoned of d, dicts drawn by names, things frozen -/
end DL
namespace DL
open PySem PySem.Spec PyProof.Rows L2 PySem.W
/-! plain law: an order on rows of ints, and data that are compared so -/
def lx : List Int → List Int → Bool
  | a :: as, b :: bs => decide (a < b) || (decide (a = b) && lx as bs)
  | _, _ => false
/-! ### tuples whose object is known -/
/-! ### d[k] = v, k an int, there or not -/
end DL
namespace DL
open PySem PySem.Spec PyProof.Rows L2 PySem.W
/-! plain law: dicts whose keys are tuples of some kind -/
end DL
namespace DL
open PySem PySem.Spec PyProof.Rows L2 PySem.W
/-! plain law: dicts with tuple keys in fields and slots -/
/-! loops -/
/-! dicts -/
/-! locks, stepwise -/
/-! comprehensions of many clauses -/
end DL
namespace K21
open PySem PySem.Spec PyProof.Rows L2 DL
def tbl : List (Nat × Str) := []
def rowsU : List (Nat × List Bool) := [(0, [false, false, false, true, false, false, false, false, true]), (1, [false, true, false, false, false, false, false, false, true]), (2, [false, false, true, false, false, false, false, false, true]), (3, [false, false, false, false, false, false, true, false, true]), (4, [false, false, false, false, false, true, false, false, true]), (5, [false, false, false, false, false, false, false, true, true]), (6, [false, false, false, false, true, false, false, false, true]), (7, [true, false, false, false, false, false, false, false, true])]
/-! f_cut_first: 0 boards, 1 wishes, 2 left, 3 found, 4 board, 5 wish, 6 fits, 7 k, 8 size, 9 row -/
def C_f_cut_first_1 : M S := mComp [4] [.v (mFrz 0)] ioA (.n 4) (mpure true) (mOp opLst [])
def C_f_cut_first_2 : M S := mComp [7, 8] [.b 2] ioEn (.t [.n 7, .n 8]) (mT (mOp (opI fGe) [.b 8, .b 5])) (mFrz 7)
def L_f_cut_first_1_4 : B := bExp (mAppIx 3 (mOp opIx [.b 6, .v (mCon (.int 0))]) 5)
def L_f_cut_first_1_3 : B := bseq (bAugS 2 (fun i j => i - j) (mOp opIx [.b 6, .v (mCon (.int 0))]) (mFrz 5)) L_f_cut_first_1_4
def L_f_cut_first_1_2 : B := bseq (bIf (mT (mOp (opEq false) [.b 6, .v (mOp opLst [])])) ((fun ρ => .exc 5 .non ρ)) (bnx)) L_f_cut_first_1_3
def L_f_cut_first_1 : B := bseq (bAsg 6 (C_f_cut_first_2)) L_f_cut_first_1_2
def C_f_cut_first_3 : M S := mComp [9] [.v (mFrz 3)] ioA (.n 9) (mpure true) (mOp (opTuple) [.b 9])
def b_f_cut_first_4 : B := bRet (mOp (opTuple) [.v (C_f_cut_first_3)])
def b_f_cut_first_3 : B := bseq (bFor [.v (mOp (opSorted true) [.b 1])] ioA (.n 5) (L_f_cut_first_1)) b_f_cut_first_4
def b_f_cut_first_2 : B := bseq (bAsg 3 (C_f_cut_first_1)) b_f_cut_first_3
def b_f_cut_first : B := bseq (bAsg 2 (mOp (opList) [.b 0])) b_f_cut_first_2
def op_f_cut_first : List S → ORes := fnOp 2 10 [0, 1] b_f_cut_first
/-! m_Lot_init: 0 self, 1 measure, 2 strength, 3 years -/
def b_m_Lot_init_4 : B := bFld 0 8 2 (mFrz 3)
def b_m_Lot_init_3 : B := bseq (bFld 0 8 1 (mFrz 2)) b_m_Lot_init_4
def b_m_Lot_init_2 : B := bseq (bFld 0 8 0 (mFrz 1)) b_m_Lot_init_3
def b_m_Lot_init : B := bseq (bIf (mOr (mT (mOp (opI fLt) [.b 1, .v (mCon (.int 1))])) (mOr (mNot (mT (mChain (fun i j => decide (i ≤ j)) (fun i j => decide (i ≤ j)) (mCon (.int 0)) (mFrz 2) (mCon (.int 1000))))) (mT (mOp (opI fLt) [.b 3, .v (mCon (.int 0))])))) ((fun ρ => .exc 1 .non ρ)) (bnx)) b_m_Lot_init_2
def op_m_Lot_init : List S → ORes := fnOp 4 4 [0, 1, 2, 3] b_m_Lot_init
/-! m_Lot_pure: 0 self -/
def b_m_Lot_pure : B := bRet (mOp (opOr (opI fMulS) (opI fMul)) [.v (mOp (opFld 8 0) [.b 0]), .v (mOp (opFld 8 1) [.b 0])])
def op_m_Lot_pure : List S → ORes := fnOp 1 1 [0] b_m_Lot_pure
/-! f_mean: 0 lots, 1 measure, 2 lot -/
def C_f_mean_1 : M S := mSum 1 [.v (mFrz 0)] ioA (.n 0) (mpure true) (mOp (opFld 8 0) [.b 0])
def C_f_mean_2 : M S := mSum 1 [.v (mFrz 0)] ioA (.n 0) (mpure true) (mMeth 8 op_m_Lot_pure (.b 0) [])
def C_f_mean_3 : M S := mComp [2] [.v (mFrz 0)] ioA (.n 2) (mpure true) (mOp (opFld 8 2) [.b 2])
def b_f_mean_3 : B := bRet (mOp opTup [.b 1, .v (mOp (opI fDiv) [.v (C_f_mean_2), .b 1]), .v (mOp (opMin) [.v (C_f_mean_3)])])
def b_f_mean_2 : B := bseq (bAsg 1 (C_f_mean_1)) b_f_mean_3
def b_f_mean : B := bseq (bIf (mT (mOp (opEq false) [.v (mOp (opLen) [.b 0]), .v (mCon (.int 0))])) ((fun ρ => .exc 2 .non ρ)) (bnx)) b_f_mean_2
def op_f_mean : List S → ORes := fnOp 1 3 [0] b_f_mean
/-! m_Brand_init: 0 self, 1 maker, 2 year, 3 number -/
/-! m_Brand_said: 0 self -/
/-! m_Row_said: 0 self -/
/-! m_Pages_said: 0 self, 1 row -/
/-! f_read_brand: 0 text, 1 words, 2 found -/
def b_f_read_brand_6 : B := (fun _ => .stuck)
def b_f_read_brand_5 : B := bseq ((fun _ => .stuck)) b_f_read_brand_6
def b_f_read_brand_4 : B := bseq ((fun _ => .stuck)) b_f_read_brand_5
def b_f_read_brand_3 : B := bseq ((fun _ => .stuck)) b_f_read_brand_4
def b_f_read_brand_2 : B := bseq (bIf (mOr (mT (mOp (opEq true) [.v (mOp (opLen) [.b 1]), .v (mCon (.int 3))])) (mOr (mT (mOp (opEq true) [.v (mOp (opLen) [.v (mOp opIx [.b 1, .v (mCon (.int 1))])]), .v (mCon (.int 2))])) (mNot (mT (mChain (fun i j => decide (i ≤ j)) (fun i j => decide (i ≤ j)) (mCon (.int 1)) (mOp (opLen) [.v (mOp opIx [.b 1, .v (mCon (.int 2))])]) (mCon (.int 4))))))) ((fun ρ => .exc 2 .non ρ)) (bnx)) b_f_read_brand_3
def b_f_read_brand : B := bseq (bAsg 1 (mBm "str" opSplit (.b 0) [.v (mCon (.str " "))])) b_f_read_brand_2
def op_f_read_brand : List S → ORes := fnOp 1 3 [0] b_f_read_brand
/-! m_Fleet_init: 0 self, 1 cards, 2 card -/
def C_m_Fleet_init_1 : M S := mComp [2] [.v (mFrz 1)] ioA (.n 2) (mpure true) (mOp opTup [.v ((fun _ => .stuck : M S)), .v (mCon (.int 1))])
def C_m_Fleet_init_2 : M S := mSrtK false [.b 1] seqS ((fun _ => .stuck : M S))
def C_m_Fleet_init_3 : M S := mComp [2] [.v (C_m_Fleet_init_2)] ioA (.n 2) (mpure true) (mOp opTup [.v ((fun _ => .stuck : M S)), .b 2])
def b_m_Fleet_init_2 : B := bFld 0 10 0 (mOp (opDictP) [.v (C_m_Fleet_init_3)])
def b_m_Fleet_init : B := bseq (bIf (mT (mOp (opEq true) [.v (mOp (opLenD) [.v (mOp (opDictP) [.v (C_m_Fleet_init_1)])]), .v (mOp (opLen) [.b 1])])) ((fun ρ => .exc 2 .non ρ)) (bnx)) b_m_Fleet_init_2
def op_m_Fleet_init : List S → ORes := fnOp 2 3 [0, 1] b_m_Fleet_init
/-! m_Fleet_card: 0 self, 1 name -/
def b_m_Fleet_card_2 : B := bRet (mOp opDix [.v (mOp (opFld 10 0) [.b 0]), .b 1])
def b_m_Fleet_card : B := bseq (bIf (mT (mOp (opDIn true) [.b 1, .v (mOp (opFld 10 0) [.b 0])])) ((bdo (mFrz 1) fun _ ρ => .exc 3 .non ρ)) (bnx)) b_m_Fleet_card_2
def op_m_Fleet_card : List S → ORes := fnOp 2 2 [0, 1] b_m_Fleet_card
/-! m_Row_init: 0 self, 1 day, 2 deed, 3 cask, 4 number -/
/-! f_read_row: 0 text, 1 words, 2 found -/
def b_f_read_row_6 : B := (fun _ => .stuck)
def b_f_read_row_5 : B := bseq ((fun _ => .stuck)) b_f_read_row_6
def b_f_read_row_4 : B := bseq ((fun _ => .stuck)) b_f_read_row_5
def b_f_read_row_3 : B := bseq ((fun _ => .stuck)) b_f_read_row_4
def b_f_read_row_2 : B := bseq (bIf (mOr (mT (mOp (opEq true) [.v (mOp (opLen) [.b 1]), .v (mCon (.int 4))])) ((fun _ => .stuck : M Bool))) (bRaiseR 6 (mCon (.int 0))) (bnx)) b_f_read_row_3
def b_f_read_row : B := bseq (bAsg 1 (mBm "str" opSplit (.b 0) [.v (mCon (.str " "))])) b_f_read_row_2
def op_f_read_row : List S → ORes := fnOp 1 3 [0] b_f_read_row
/-! m_Pages_add: 0 self, 1 row, 2 here -/
/-! m_Pages_init: 0 self, 1 text, 2 k, 3 line -/
/-! m_Pages_with_row: 0 self, 1 text, 2 there -/
/-! m_Pages_bay: 0 self, 1 cask -/
/-! m_Desk_init: 0 self -/
def b_m_Desk_init_3 : B := bFld 0 13 2 (mOp opLst [])
def b_m_Desk_init_2 : B := bseq (bFld 0 13 1 (mOp opLst [])) b_m_Desk_init_3
def b_m_Desk_init : B := bseq (bFld 0 13 0 (mCon (.str "1 fill A1 200\n1 move A1 3\n2 lose A1 4"))) b_m_Desk_init_2
def op_m_Desk_init : List S → ORes := fnOp 1 1 [0] b_m_Desk_init
/-! m_Desk_note: 0 self, 1 text -/
/-! m_Desk_tell: 0 self, 1 row, 2 fresh -/
/-! m_Desk_undo: 0 self, 1 deed -/
def b_m_Desk_undo_4 : B := (fun _ => .stuck)
def b_m_Desk_undo_3 : B := bseq ((fun _ => .stuck)) b_m_Desk_undo_4
def b_m_Desk_undo_2 : B := bseq ((fun _ => .stuck)) b_m_Desk_undo_3
def b_m_Desk_undo : B := bseq (bIf (mT (mOp (opEq false) [.v (mOp (opFld 13 1) [.b 0]), .v (mOp opLst [])])) ((fun ρ => .exc 7 .non ρ)) (bnx)) b_m_Desk_undo_2
def op_m_Desk_undo : List S → ORes := fnOp 1 2 [0] b_m_Desk_undo
/-! f_around: 0 half -/
def b_f_around_2 : B := bRet (mOp (opI fDiv) [.v (mOp (opOr (opI fAdd) opCatL) [.v (mOp (opOr (opI fMulS) (opI fMul)) [.v (mOp (opOr (opI fMulS) (opI fMul)) [.v (mOp (opOr (opI fMulS) (opI fMul)) [.v (mCon (.int 2)), .v (mCon (.int 2))]), .b 0]), .v (mCon (.int 355))]), .v (mCon (.int 113))]), .v (mOp (opOr (opI fMulS) (opI fMul)) [.v (mCon (.int 2)), .v (mCon (.int 113))])])
def b_f_around : B := bseq (bIf (mT (mOp (opI fLt) [.b 0, .v (mCon (.int 0))])) ((fun ρ => .exc 0 .non ρ)) (bnx)) b_f_around_2
def op_f_around : List S → ORes := fnOp 1 1 [0] b_f_around
/-! m_Pile_init: 0 self, 1 wide, 2 rows, 3 k, 4 row, 5 under, 6 names, 7 name -/
def C_m_Pile_init_1 : M S := mAny 2 [.v (mFrz 4)] ioEn (.t [.n 0, .n 1]) (mpure true) (mAndV (mOp (opEq true) [.b 1, .v (mCon (.str ""))]) (mOrV (mOp (opEq false) [.v (mOp opIx [.b 7, .b 0]), .v (mCon (.str ""))]) (mOp (opEq false) [.v (mOp opIx [.b 7, .v (mOp (opOr (opI fAdd) opCatL) [.b 0, .v (mCon (.int 1))])]), .v (mCon (.str ""))])))
def L_m_Pile_init_1_3 : B := bIf (mT (C_m_Pile_init_1)) ((fun ρ => .exc 2 .non ρ)) (bnx)
def L_m_Pile_init_1_2 : B := bseq (bAsg 5 (mIf (mT (mOp (opI fGt) [.b 3, .v (mCon (.int 0))])) (mOp opIx [.b 2, .v (mOp (opI fSub) [.b 3, .v (mCon (.int 1))])]) (mOp (opRep) [.v (mOp opLst [.v (mCon (.str " "))]), .v (mOp (opOr (opI fAdd) opCatL) [.b 1, .v (mCon (.int 1))])]))) L_m_Pile_init_1_3
def L_m_Pile_init_1 : B := bseq (bIf (mT (mOp (opEq true) [.v (mOp (opLen) [.b 4]), .v (mOp (opI fSub) [.b 1, .b 3])])) ((fun ρ => .exc 2 .non ρ)) (bnx)) L_m_Pile_init_1_2
def C_m_Pile_init_2 : M S := mComp2 [4, 7] [.v (mFrz 2)] ioA (.n 4) (mpure true) (compI [7] [.v (mFrz 4)] ioA (.n 7) (mT (mOp (opEq true) [.b 7, .v (mCon (.str ""))])) (mFrz 7))
def C_m_Pile_init_3 : M S := mComp [7] [.v (mFrz 6)] ioA (.n 7) (mpure true) (mOp opTup [.b 7, .v (mCon (.int 1))])
def C_m_Pile_init_4 : M S := mComp [4] [.v (mFrz 2)] ioA (.n 4) (mpure true) (mOp (opTupleK) [.b 4])
def b_m_Pile_init_6 : B := bFld 0 14 1 (mOp (opTuple) [.v (C_m_Pile_init_4)])
def b_m_Pile_init_5 : B := bseq (bFld 0 14 0 (mFrz 1)) b_m_Pile_init_6
def b_m_Pile_init_4 : B := bseq (bIf (mT (mOp (opEq true) [.v (mOp (opLenD) [.v (mOp (opDictP) [.v (C_m_Pile_init_3)])]), .v (mOp (opLen) [.b 6])])) ((fun ρ => .exc 2 .non ρ)) (bnx)) b_m_Pile_init_5
def b_m_Pile_init_3 : B := bseq (bAsg 6 (C_m_Pile_init_2)) b_m_Pile_init_4
def b_m_Pile_init_2 : B := bseq (bFor [.v (mFrz 2)] ioEn (.t [.n 3, .n 4]) (L_m_Pile_init_1)) b_m_Pile_init_3
def b_m_Pile_init : B := bseq (bIf (mOr (mT (mOp (opI fLt) [.b 1, .v (mCon (.int 1))])) (mT (mOp (opI fGt) [.v (mOp (opOr opLen opLenO) [.b 2]), .b 1]))) ((fun ρ => .exc 2 .non ρ)) (bnx)) b_m_Pile_init_2
def op_m_Pile_init : List S → ORes := fnOp 3 8 [0, 1, 2] b_m_Pile_init
/-! m_Pile_where: 0 self, 1 name, 2 k, 3 row -/
/-! m_Pile_casks: 0 self, 1 row, 2 name -/
def C_m_Pile_casks_1 : M S := mComp2 [1, 2] [.v (mOp (opFld 14 1) [.b 0])] ioA (.n 1) (mpure true) (compI [2] [.v (mFrz 1)] ioA (.n 2) (mT (mOp (opEq true) [.b 2, .v (mCon (.str ""))])) (mFrz 2))
def b_m_Pile_casks : B := bRet (mOp (opTuple) [.v (C_m_Pile_casks_1)])
def op_m_Pile_casks : List S → ORes := fnOp 1 3 [0] b_m_Pile_casks
/-! m_Pile_open_spots: 0 self, 1 found, 2 k, 3 j, 4 there, 5 holds -/
def L_m_Pile_open_spots_2_3 : B := bIf (mAnd (mT (mOp (opEq false) [.b 4, .v (mCon (.str ""))])) (mT (mFrz 5))) (bExp (mBm "list" opApp (.b 1) [.v (mOp opTup [.b 2, .b 3])])) (bnx)
def L_m_Pile_open_spots_2_2 : B := bseq (bAsg 5 (mOrV (mOp (opEq false) [.b 2, .v (mCon (.int 0))]) (mAndV (mOp (opEq true) [.v (mOp opIx [.v (mOp opIx [.v (mOp (opFld 14 1) [.b 0]), .v (mOp (opI fSub) [.b 2, .v (mCon (.int 1))])]), .b 3]), .v (mCon (.str ""))]) (mOp (opEq true) [.v (mOp opIx [.v (mOp opIx [.v (mOp (opFld 14 1) [.b 0]), .v (mOp (opI fSub) [.b 2, .v (mCon (.int 1))])]), .v (mOp (opOr (opI fAdd) opCatL) [.b 3, .v (mCon (.int 1))])]), .v (mCon (.str ""))])))) L_m_Pile_open_spots_2_3
def L_m_Pile_open_spots_2 : B := bseq (bAsg 4 (mIf (mT (mOp (opI fLt) [.b 2, .v (mOp (opLen) [.v (mOp (opFld 14 1) [.b 0])])])) (mOp opIx [.v (mOp opIx [.v (mOp (opFld 14 1) [.b 0]), .b 2]), .b 3]) (mCon (.str "")))) L_m_Pile_open_spots_2_2
def L_m_Pile_open_spots_1 : B := bFor [.v (mOp (opI fSub) [.v (mOp (opFld 14 0) [.b 0]), .b 2])] ioR1 (.n 3) (L_m_Pile_open_spots_2)
def b_m_Pile_open_spots_3 : B := bRet (mOp (opTuple) [.b 1])
def b_m_Pile_open_spots_2 : B := bseq (bFor [.v (mOp (opI fMin) [.v (mOp (opFld 14 0) [.b 0]), .v (mOp (opOr (opI fAdd) opCatL) [.v (mOp (opLen) [.v (mOp (opFld 14 1) [.b 0])]), .v (mCon (.int 1))])])] ioR1 (.n 2) (L_m_Pile_open_spots_1)) b_m_Pile_open_spots_3
def b_m_Pile_open_spots : B := bseq (bAsg 1 (mOp opLst [])) b_m_Pile_open_spots_2
def op_m_Pile_open_spots : List S → ORes := fnOp 1 6 [0] b_m_Pile_open_spots
/-! m_Pile_laid: 0 self, 1 name, 2 row, 3 place, 4 rows, 5 line -/
def C_m_Pile_laid_1 : M S := mComp [5] [.v (mOp (opFld 14 1) [.b 0])] ioA (.n 5) (mpure true) (mOp (opList) [.b 5])
def b_m_Pile_laid_6 : B := bRet (mOp (mkOp 14 op_m_Pile_init) [.v (mOp (opFld 14 0) [.b 0]), .v (mFrz 4)])
def b_m_Pile_laid_5 : B := bseq (bSetIx 4 2 3 (mFrz 1)) b_m_Pile_laid_6
def b_m_Pile_laid_4 : B := bseq (bIf (mT (mOp (opEq false) [.b 2, .v (mOp (opOr opLen opLenO) [.b 4])])) (bExp (mBm "list" opAppO (.b 4) [.v (mOp (opRep) [.v (mOp opLst [.v (mCon (.str ""))]), .v (mOp (opI fSub) [.v (mOp (opFld 14 0) [.b 0]), .b 2])])])) (bnx)) b_m_Pile_laid_5
def b_m_Pile_laid_3 : B := bseq (bAsg 4 (C_m_Pile_laid_1)) b_m_Pile_laid_4
def b_m_Pile_laid_2 : B := bseq (bIf (mOr (mT (mOp (opTIn false) [.b 1, .v (mMeth 14 op_m_Pile_casks (.b 0) [])])) (mT (mOp (opEq false) [.b 1, .v (mCon (.str ""))]))) ((fun ρ => .exc 7 .non ρ)) (bnx)) b_m_Pile_laid_3
def b_m_Pile_laid : B := bseq (bIf (mT (mOp (opTLIn true) [.v (mOp opTup [.b 2, .b 3]), .v (mMeth 14 op_m_Pile_open_spots (.b 0) [])])) ((fun ρ => .exc 4 .non ρ)) (bnx)) b_m_Pile_laid_2
def op_m_Pile_laid : List S → ORes := fnOp 4 6 [0, 1, 2, 3] b_m_Pile_laid
/-! f_filled: 0 wide, 1 names, 2 pile, 3 name, 4 spots -/
def L_f_filled_1_3 : B := bAsg 2 (mMeth 14 op_m_Pile_laid (.b 2) [.b 3, .v (mOp opIx [.v (mOp opIx [.b 4, .v (mCon (.int 0))]), .v (mCon (.int 0))]), .v (mOp opIx [.v (mOp opIx [.b 4, .v (mCon (.int 0))]), .v (mCon (.int 1))])])
def L_f_filled_1_2 : B := bseq (bIf (mT (mOp (opEq false) [.b 4, .v (mOp opTup [])])) ((fun ρ => .exc 4 .non ρ)) (bnx)) L_f_filled_1_3
def L_f_filled_1 : B := bseq (bAsg 4 (mMeth 14 op_m_Pile_open_spots (.b 2) [])) L_f_filled_1_2
def b_f_filled_3 : B := bRet (mMov 2)
def b_f_filled_2 : B := bseq (bFor [.v (mFrz 1)] ioA (.n 3) (L_f_filled_1)) b_f_filled_3
def b_f_filled : B := bseq (bAsg 2 (mOp (mkOp 14 op_m_Pile_init) [.b 0, .v (mOp opLst [])])) b_f_filled_2
def op_f_filled : List S → ORes := fnOp 2 5 [0, 1] b_f_filled
/-! f_law_dice: 0 cell -/
def b_f_law_dice_2 : B := bRet (mOp opLst [.b 0, .v (mOp (opOr (opI fAdd) opCatL) [.v (mCon (.int 1)), .v (mOp (opI fMod) [.v (mOp (opInt) [.b 0]), .v (mCon (.int 1009))])]), .v (mOp (opInt) [.v (mOp (opI fGe) [.b 0, .v (mOp (opI fPow) [.v (mCon (.int 10)), .v (mCon (.int 18))])])])])
def b_f_law_dice : B := bseq (bIf (mT (mChain (fun i j => decide (i < j)) (fun i j => decide (i < j)) (mOp (opI fSub) [.v (mCon (.int 0)), .v (mCon (.int 10))]) (mFrz 0) (mCon (.int 10)))) (bRet (mOp opLst [.v (mOp (opF1 fAbs) [.b 0]), .v (mCon (.int 0)), .v (mCon (.int 2))])) (bnx)) b_f_law_dice_2
def op_f_law_dice : List S → ORes := fnOp 1 1 [0] b_f_law_dice
/-! f_law_roll: 0 dice, 1 many, 2 found -/
def b_f_law_roll_5 : B := bRet (mOp (opI fMod) [.v (mOp (opInt) [.v (mOp (opOr (opI fAdd) opCatL) [.v (mOp (opI fDiv) [.v (mOp opIx [.b 0, .v (mCon (.int 0))]), .v (mCon (.int 7))]), .v (mOp opIx [.b 0, .v (mCon (.int 0))])])]), .b 1])
def b_f_law_roll_4 : B := bseq (bExp (mOp opSetL [.v (mOp (opOr (opI fAdd) opCatL) [.v (mOp opIx [.b 0, .v (mCon (.int 1))]), .v (mCon (.int 1))]), .b 0, .v (mCon (.int 1))])) b_f_law_roll_5
def b_f_law_roll_3 : B := bseq (bExp (mOp opSetL [.v (mOp (opI fMod) [.v (mOp (opInt) [.v (mOp (opOr (opI fAdd) opCatL) [.v (mOp (opOr (opI fAdd) opCatL) [.v (mOp (opOr (opI fMulS) (opI fMul)) [.v (mOp opIx [.b 0, .v (mCon (.int 0))]), .v (mCon (.int 48271))]), .v (mOp (opOr (opI fMulS) (opI fMul)) [.v (mOp opIx [.b 0, .v (mCon (.int 1))]), .v (mCon (.int 69621))])]), .v (mCon (.int 11))])]), .v (mCon (.int 2147483647))]), .b 0, .v (mCon (.int 0))])) b_f_law_roll_4
def b_f_law_roll_2 : B := bseq (bExp (mOp opSetL [.v (mCon (.int 0)), .b 0, .v (mCon (.int 2))])) b_f_law_roll_3
def b_f_law_roll : B := bseq (bIf (mOr (mT (mOp (opEq false) [.v (mOp opIx [.b 0, .v (mCon (.int 2))]), .v (mCon (.int 2))])) (mAnd (mT (mOp (opEq false) [.v (mOp opIx [.b 0, .v (mCon (.int 2))]), .v (mCon (.int 1))])) (mT (mOp (opI fGt) [.v (mOp opIx [.b 0, .v (mCon (.int 0))]), .v (mCon (.int 0))])))) (bseq (bAsg 2 (mOp (opI fMod) [.v (mOp (opInt) [.v (mOp opIx [.b 0, .v (mCon (.int 0))])]), .b 1])) (bseq (bExp (mOp opSetL [.v (mOp (opI fDiv) [.v (mOp opIx [.b 0, .v (mCon (.int 0))]), .b 1]), .b 0, .v (mCon (.int 0))])) (bRet (mMov 2)))) (bnx)) b_f_law_roll_2
def op_f_law_roll : List S → ORes := fnOp 2 3 [0, 1] b_f_law_roll
/-! f_law_rounds: 0 script, 1 most, 2 cells, 3 cell -/
def C_f_law_rounds_1 : M S := mComp [3] [.v (mFrz 2)] ioA (.n 3) (mpure true) (mOp op_f_law_dice [.b 3])
def b_f_law_rounds_3 : B := bRet (C_f_law_rounds_1)
def b_f_law_rounds_2 : B := bseq (bIf (mT (mOp (opEq false) [.b 2, .v (mOp opLst [])])) (bAsg 2 (mOp opLst [.v (mCon (.int 0))])) (bnx)) b_f_law_rounds_3
def b_f_law_rounds : B := bseq (bAsg 2 (mSlice (mFrz 0) none (some (mFrz 1)))) b_f_law_rounds_2
def op_f_law_rounds : List S → ORes := fnOp 2 4 [0, 1] b_f_law_rounds
/-! f_law: 0 script, 1 dice, 2 many, 3 desk, 4 whats, 5 k, 6 j -/
def C_f_law_1 : M S := mComp [6] [.v (mCon (.int 8))] ioR1 (.n 6) (mpure true) (mOp (opEq false) [.b 6, .b 5])
def L_f_law_1_4 : B := bIf (mOr (mT (mOp (opEq true) [.v (mPick 5 [mMeth 13 op_m_Desk_undo (.b 3) [], mOp (mkOp 8 op_m_Lot_init) [.v (mOp (opI fSub) [.v (mCon (.int 0)), .b 2]), .v (mCon (.int 1)), .v (mCon (.int 1))], mOp op_f_read_brand [.v (mOp (opRepS) [.v (mCon (.str "x")), .b 2])], mOp op_f_around [.v (mOp (opI fSub) [.v (mCon (.int 0)), .b 2])], mOp op_f_read_row [.v (mOp (opRepS) [.v (mCon (.str "x")), .b 2])], mOp op_f_filled [.v (mCon (.int 1)), .v (mOp opLst [.v (mCon (.str "a")), .v (mCon (.str "b"))])], mMeth 10 op_m_Fleet_card (.v (mOp (mkOp 10 op_m_Fleet_init) [.v (mOp opLst [])])) [.v (mOp (opRepS) [.v (mCon (.str "x")), .b 2])], mOp op_f_cut_first [.v (mOp opLst [.b 2]), .v (mOp opLst [.v (mOp (opOr (opI fAdd) opCatL) [.b 2, .v (mCon (.int 1))])])]] rowsU), .v (mOp (opOr (opI fAdd) opCatL) [.v (C_f_law_1), .v (mOp opLst [.v (mCon (.bl true))])])])) (mT (mOp (opEq true) [.v (mOp op_f_mean [.v (mFz (mOp opLst [.v (mOp (mkOp 8 op_m_Lot_init) [.v (mCon (.int 1)), .v (mCon (.int 1)), .v (mCon (.int 1))])]))]), .v (mOp opTup [.v (mCon (.int 1)), .v (mCon (.int 1)), .v (mCon (.int 1))])]))) (bRet (mCon (.bl false))) (bnx)
def L_f_law_1_3 : B := bseq (bAsg 5 (mOp op_f_law_roll [.b 1, .v (mCon (.int 8))])) L_f_law_1_4
def L_f_law_1_2 : B := bseq (bGone 4) L_f_law_1_3
def L_f_law_1 : B := bseq (bPar [2, 3] [.v (mOp (opOr (opI fAdd) opCatL) [.v (mCon (.int 1)), .v (mOp op_f_law_roll [.b 1, .v (mCon (.int 90))])]), .v (mOp (mkOp 13 op_m_Desk_init) [])]) L_f_law_1_2
def b_f_law_2 : B := bRet (mCon (.bl true))
def b_f_law : B := bseq (bForO (mOp op_f_law_rounds [.b 0, .v (mCon (.int 1))]) 1 (L_f_law_1)) b_f_law_2
def op_f_law : List S → ORes := fnOp 1 7 [0] b_f_law
end K21
namespace K21
open PySem PySem.Spec PyProof.Rows L2 DL
abbrev PW : Program := PySem.Challenge.pw_cooperhall_k21_refusals_apart
def top (i : Nat) : Stmt := PW.main.body.getD i (.Pass ⟨0, 0, 0, 0⟩)
def clB (s : Stmt) : List Stmt := match s with
  | .ClassDef (body := b) .. => b
  | _ => []
def met (i j : Nat) : Stmt := (clB (top i)).getD j (.Pass ⟨0, 0, 0, 0⟩)
abbrev s_f_cut_first : Stmt := top 12
def d_f_cut_first : He.DefD := ⟨("cut_first", none), "cut_first", "cut_first", defArgs s_f_cut_first, defBody s_f_cut_first, defScope s_f_cut_first, [], []⟩
abbrev s_m_Lot_init : Stmt := met 14 0
def d_m_Lot_init : He.DefD := ⟨("Lot", some "__init__"), "__init__", "Lot.__init__", defArgs s_m_Lot_init, defBody s_m_Lot_init, defScope s_m_Lot_init, [], []⟩
abbrev s_m_Lot_pure : Stmt := met 14 1
def d_m_Lot_pure : He.DefD := ⟨("Lot", some "pure"), "pure", "Lot.pure", defArgs s_m_Lot_pure, defBody s_m_Lot_pure, defScope s_m_Lot_pure, [], []⟩
abbrev s_f_mean : Stmt := top 15
def d_f_mean : He.DefD := ⟨("mean", none), "mean", "mean", defArgs s_f_mean, defBody s_f_mean, defScope s_f_mean, [], []⟩
abbrev s_m_Brand_init : Stmt := met 18 0
def d_m_Brand_init : He.DefD := ⟨("Brand", some "__init__"), "__init__", "Brand.__init__", defArgs s_m_Brand_init, defBody s_m_Brand_init, defScope s_m_Brand_init, [], []⟩
abbrev s_m_Brand_said : Stmt := met 18 1
def d_m_Brand_said : He.DefD := ⟨("Brand", some "said"), "said", "Brand.said", defArgs s_m_Brand_said, defBody s_m_Brand_said, defScope s_m_Brand_said, [], []⟩
abbrev s_f_read_brand : Stmt := top 19
def d_f_read_brand : He.DefD := ⟨("read_brand", none), "read_brand", "read_brand", defArgs s_f_read_brand, defBody s_f_read_brand, defScope s_f_read_brand, [], []⟩
abbrev s_m_Fleet_init : Stmt := met 21 0
def d_m_Fleet_init : He.DefD := ⟨("Fleet", some "__init__"), "__init__", "Fleet.__init__", defArgs s_m_Fleet_init, defBody s_m_Fleet_init, defScope s_m_Fleet_init, [], []⟩
abbrev s_m_Fleet_card : Stmt := met 21 1
def d_m_Fleet_card : He.DefD := ⟨("Fleet", some "card"), "card", "Fleet.card", defArgs s_m_Fleet_card, defBody s_m_Fleet_card, defScope s_m_Fleet_card, [], []⟩
abbrev s_m_Row_init : Stmt := met 23 0
def d_m_Row_init : He.DefD := ⟨("Row", some "__init__"), "__init__", "Row.__init__", defArgs s_m_Row_init, defBody s_m_Row_init, defScope s_m_Row_init, [], []⟩
abbrev s_m_Row_said : Stmt := met 23 1
def d_m_Row_said : He.DefD := ⟨("Row", some "said"), "said", "Row.said", defArgs s_m_Row_said, defBody s_m_Row_said, defScope s_m_Row_said, [], []⟩
abbrev s_f_read_row : Stmt := top 24
def d_f_read_row : He.DefD := ⟨("read_row", none), "read_row", "read_row", defArgs s_f_read_row, defBody s_f_read_row, defScope s_f_read_row, [], []⟩
abbrev s_m_Pages_init : Stmt := met 25 0
def d_m_Pages_init : He.DefD := ⟨("Pages", some "__init__"), "__init__", "Pages.__init__", defArgs s_m_Pages_init, defBody s_m_Pages_init, defScope s_m_Pages_init, [], []⟩
abbrev s_m_Pages_add : Stmt := met 25 1
def d_m_Pages_add : He.DefD := ⟨("Pages", some "add"), "add", "Pages.add", defArgs s_m_Pages_add, defBody s_m_Pages_add, defScope s_m_Pages_add, [], []⟩
abbrev s_m_Pages_said : Stmt := met 25 2
def d_m_Pages_said : He.DefD := ⟨("Pages", some "said"), "said", "Pages.said", defArgs s_m_Pages_said, defBody s_m_Pages_said, defScope s_m_Pages_said, [], []⟩
abbrev s_m_Pages_with_row : Stmt := met 25 3
def d_m_Pages_with_row : He.DefD := ⟨("Pages", some "with_row"), "with_row", "Pages.with_row", defArgs s_m_Pages_with_row, defBody s_m_Pages_with_row, defScope s_m_Pages_with_row, [], []⟩
abbrev s_m_Pages_bay : Stmt := met 25 6
def d_m_Pages_bay : He.DefD := ⟨("Pages", some "bay"), "bay", "Pages.bay", defArgs s_m_Pages_bay, defBody s_m_Pages_bay, defScope s_m_Pages_bay, [], []⟩
abbrev s_m_Desk_init : Stmt := met 27 0
def d_m_Desk_init : He.DefD := ⟨("Desk", some "__init__"), "__init__", "Desk.__init__", defArgs s_m_Desk_init, defBody s_m_Desk_init, defScope s_m_Desk_init, [], []⟩
abbrev s_m_Desk_note : Stmt := met 27 1
def d_m_Desk_note : He.DefD := ⟨("Desk", some "note"), "note", "Desk.note", defArgs s_m_Desk_note, defBody s_m_Desk_note, defScope s_m_Desk_note, [], []⟩
abbrev s_m_Desk_tell : Stmt := met 27 2
def d_m_Desk_tell : He.DefD := ⟨("Desk", some "tell"), "tell", "Desk.tell", defArgs s_m_Desk_tell, defBody s_m_Desk_tell, defScope s_m_Desk_tell, [], []⟩
abbrev s_m_Desk_undo : Stmt := met 27 5
def d_m_Desk_undo : He.DefD := ⟨("Desk", some "undo"), "undo", "Desk.undo", defArgs s_m_Desk_undo, defBody s_m_Desk_undo, defScope s_m_Desk_undo, [], []⟩
abbrev s_f_around : Stmt := top 29
def d_f_around : He.DefD := ⟨("around", none), "around", "around", defArgs s_f_around, defBody s_f_around, defScope s_f_around, [], []⟩
abbrev s_m_Pile_init : Stmt := met 31 0
def d_m_Pile_init : He.DefD := ⟨("Pile", some "__init__"), "__init__", "Pile.__init__", defArgs s_m_Pile_init, defBody s_m_Pile_init, defScope s_m_Pile_init, [], []⟩
abbrev s_m_Pile_where : Stmt := met 31 1
def d_m_Pile_where : He.DefD := ⟨("Pile", some "where"), "where", "Pile.where", defArgs s_m_Pile_where, defBody s_m_Pile_where, defScope s_m_Pile_where, [], []⟩
abbrev s_m_Pile_casks : Stmt := met 31 2
def d_m_Pile_casks : He.DefD := ⟨("Pile", some "casks"), "casks", "Pile.casks", defArgs s_m_Pile_casks, defBody s_m_Pile_casks, defScope s_m_Pile_casks, [], []⟩
abbrev s_m_Pile_open_spots : Stmt := met 31 8
def d_m_Pile_open_spots : He.DefD := ⟨("Pile", some "open_spots"), "open_spots", "Pile.open_spots", defArgs s_m_Pile_open_spots, defBody s_m_Pile_open_spots, defScope s_m_Pile_open_spots, [], []⟩
abbrev s_m_Pile_laid : Stmt := met 31 9
def d_m_Pile_laid : He.DefD := ⟨("Pile", some "laid"), "laid", "Pile.laid", defArgs s_m_Pile_laid, defBody s_m_Pile_laid, defScope s_m_Pile_laid, [], []⟩
abbrev s_f_filled : Stmt := top 32
def d_f_filled : He.DefD := ⟨("filled", none), "filled", "filled", defArgs s_f_filled, defBody s_f_filled, defScope s_f_filled, [], []⟩
abbrev s_f_law_dice : Stmt := top 34
def d_f_law_dice : He.DefD := ⟨("_law_dice", none), "_law_dice", "_law_dice", defArgs s_f_law_dice, defBody s_f_law_dice, defScope s_f_law_dice, [], []⟩
abbrev s_f_law_roll : Stmt := top 35
def d_f_law_roll : He.DefD := ⟨("_law_roll", none), "_law_roll", "_law_roll", defArgs s_f_law_roll, defBody s_f_law_roll, defScope s_f_law_roll, [], []⟩
abbrev s_f_law_rounds : Stmt := top 36
def d_f_law_rounds : He.DefD := ⟨("_law_rounds", none), "_law_rounds", "_law_rounds", defArgs s_f_law_rounds, defBody s_f_law_rounds, defScope s_f_law_rounds, [], []⟩
abbrev s_f_law_under : Stmt := top 37
def d_f_law_under : He.DefD := ⟨("_law_under", none), "_law_under", "_law_under", defArgs s_f_law_under, defBody s_f_law_under, defScope s_f_law_under, [], []⟩
abbrev s_f_law : Stmt := top 38
def d_f_law : He.DefD := ⟨("law", none), "law", "law", defArgs s_f_law, defBody s_f_law, defScope s_f_law, [], []⟩
abbrev s_m_BadText_init : Stmt := met 9 0
def fn : List He.DefD := [d_f_cut_first, d_m_Lot_init, d_m_Lot_pure, d_f_mean, d_m_Brand_init, d_m_Brand_said, d_f_read_brand, d_m_Fleet_init, d_m_Fleet_card, d_m_Row_init, d_m_Row_said, d_f_read_row, d_m_Pages_init, d_m_Pages_add, d_m_Pages_said, d_m_Pages_with_row, d_m_Pages_bay, d_m_Desk_init, d_m_Desk_note, d_m_Desk_tell, d_m_Desk_undo, d_f_around, d_m_Pile_init, d_m_Pile_where, d_m_Pile_casks, d_m_Pile_open_spots, d_m_Pile_laid, d_f_filled, d_f_law_dice, d_f_law_roll, d_f_law_rounds, d_f_law_under, d_f_law]
def fa : List He.Fa := [.glo "cut_first", .glo "mean", .glo "read_brand", .glo "read_row", .glo "around", .glo "filled", .glo "_law_dice", .glo "_law_roll", .glo "_law_rounds", .glo "_law_under", .glo "law", .glo "Lot", .cls "Lot", .mkr "Lot", .meth "Lot" "pure", .noat "Lot" "measure", .noat "Lot" "strength", .noat "Lot" "years", .glo "Brand", .cls "Brand", .mkr "Brand", .meth "Brand" "said", .noat "Brand" "maker", .noat "Brand" "year", .noat "Brand" "number", .glo "Fleet", .cls "Fleet", .mkr "Fleet", .meth "Fleet" "card", .noat "Fleet" "cards", .glo "Row", .cls "Row", .mkr "Row", .meth "Row" "said", .noat "Row" "day", .noat "Row" "deed", .noat "Row" "cask", .noat "Row" "number", .glo "Pages", .cls "Pages", .mkr "Pages", .meth "Pages" "add", .meth "Pages" "said", .meth "Pages" "with_row", .meth "Pages" "bay", .noat "Pages" "rows", .noat "Pages" "stock", .noat "Pages" "bays", .glo "Desk", .cls "Desk", .mkr "Desk", .meth "Desk" "note", .meth "Desk" "tell", .meth "Desk" "undo", .noat "Desk" "text", .noat "Desk" "deeds", .noat "Desk" "undone", .glo "Pile", .cls "Pile", .mkr "Pile", .meth "Pile" "where", .meth "Pile" "casks", .meth "Pile" "open_spots", .meth "Pile" "laid", .noat "Pile" "wide", .noat "Pile" "rows", .glo "CaskFault", .exc "CaskFault", .glo "BadSize", .exc "BadSize", .glo "BadFill", .exc "BadFill", .glo "BadPlan", .exc "BadPlan", .glo "NoSuch", .exc "NoSuch", .glo "NoRoom", .exc "NoRoom", .glo "NoWay", .exc "NoWay", .glo "BadText", .glo "BadDeed", .exc "BadDeed", .exm "BadSize" "BadSize" true, .exm "BadSize" "BadFill" false, .exm "BadSize" "BadPlan" false, .exm "BadSize" "NoSuch" false, .exm "BadSize" "NoRoom" false, .exm "BadSize" "NoWay" false, .exm "BadSize" "BadText" false, .exm "BadSize" "BadDeed" false, .exm "BadFill" "BadSize" false, .exm "BadFill" "BadFill" true, .exm "BadFill" "BadPlan" false, .exm "BadFill" "NoSuch" false, .exm "BadFill" "NoRoom" false, .exm "BadFill" "NoWay" false, .exm "BadFill" "BadText" false, .exm "BadFill" "BadDeed" false, .exm "BadPlan" "BadSize" false, .exm "BadPlan" "BadFill" false, .exm "BadPlan" "BadPlan" true, .exm "BadPlan" "NoSuch" false, .exm "BadPlan" "NoRoom" false, .exm "BadPlan" "NoWay" false, .exm "BadPlan" "BadText" false, .exm "BadPlan" "BadDeed" false, .exm "NoSuch" "BadSize" false, .exm "NoSuch" "BadFill" false, .exm "NoSuch" "BadPlan" false, .exm "NoSuch" "NoSuch" true, .exm "NoSuch" "NoRoom" false, .exm "NoSuch" "NoWay" false, .exm "NoSuch" "BadText" false, .exm "NoSuch" "BadDeed" false, .exm "NoRoom" "BadSize" false, .exm "NoRoom" "BadFill" false, .exm "NoRoom" "BadPlan" false, .exm "NoRoom" "NoSuch" false, .exm "NoRoom" "NoRoom" true, .exm "NoRoom" "NoWay" false, .exm "NoRoom" "BadText" false, .exm "NoRoom" "BadDeed" false, .exm "NoWay" "BadSize" false, .exm "NoWay" "BadFill" false, .exm "NoWay" "BadPlan" false, .exm "NoWay" "NoSuch" false, .exm "NoWay" "NoRoom" false, .exm "NoWay" "NoWay" true, .exm "NoWay" "BadText" false, .exm "NoWay" "BadDeed" false, .exm "BadText" "BadSize" false, .exm "BadText" "BadFill" false, .exm "BadText" "BadPlan" false, .exm "BadText" "NoSuch" false, .exm "BadText" "NoRoom" false, .exm "BadText" "NoWay" false, .exm "BadText" "BadText" true, .exm "BadText" "BadDeed" false, .exm "BadDeed" "BadSize" false, .exm "BadDeed" "BadFill" false, .exm "BadDeed" "BadPlan" false, .exm "BadDeed" "NoSuch" false, .exm "BadDeed" "NoRoom" false, .exm "BadDeed" "NoWay" false, .exm "BadDeed" "BadText" false, .exm "BadDeed" "BadDeed" true, .free "any", .free "sum", .free "range", .free "len", .free "tuple", .free "list", .free "min", .free "abs", .free "int", .free "sorted", .free "enumerate", .free "dict", .free "str", .free "isinstance", .free "super", .free "ValueError"]
abbrev Lq (q : Str) : Str := q ++ ".<locals>."
def tq : TQ := [(d_f_mean.at_, Lq "mean" ++ "<genexpr>"),
  (d_m_Brand_init.at_, Lq "Brand.__init__" ++ "<genexpr>"),
  (d_f_read_brand.at_, Lq "read_brand" ++ "<genexpr>"),
  (d_m_Fleet_init.at_, Lq "Fleet.__init__" ++ "<lambda>"),
  (d_f_read_row.at_, Lq "read_row" ++ "<genexpr>"),
  (d_m_Pile_init.at_, Lq "Pile.__init__" ++ "<genexpr>"),
  (d_f_law.at_, Lq "law" ++ "<lambda>")]
def cl (K : PySem.W.Frag) : Nat → Addr
  | 0 => He.ga K "BadSize"
  | 1 => He.ga K "BadFill"
  | 2 => He.ga K "BadPlan"
  | 3 => He.ga K "NoSuch"
  | 4 => He.ga K "NoRoom"
  | 5 => He.ga K "NoWay"
  | 6 => He.ga K "BadText"
  | 7 => He.ga K "BadDeed"
  | 8 => He.ga K "Lot"
  | 9 => He.ga K "Brand"
  | 10 => He.ga K "Fleet"
  | 11 => He.ga K "Row"
  | 12 => He.ga K "Pages"
  | 13 => He.ga K "Desk"
  | 14 => He.ga K "Pile"
  | _ => 0
def fl : Nat → List Str
  | 8 => ["measure", "strength", "years"]
  | 9 => ["maker", "year", "number"]
  | 10 => ["cards"]
  | 11 => ["day", "deed", "cask", "number"]
  | 12 => ["rows", "stock", "bays"]
  | 13 => ["text", "deeds", "undone"]
  | 14 => ["wide", "rows"]
  | _ => []
abbrev Gk (K : PySem.W.Frag) (w : World) : Gx := ⟨K, fun _ => none, cl K, fl, tabL K tq, some w⟩
def rowsN : List (Str × List Bool × List Bool × List Bool) := [("BadSize", [false, false, false, true], [false, false, false, false], [true]), ("BadFill", [false, true, false, false], [false, false, false, false], [true]), ("BadPlan", [false, false, true, false], [false, false, false, false], [true]), ("NoSuch", [false, false, false, false], [false, false, true, false], [true]), ("NoRoom", [false, false, false, false], [false, true, false, false], [true]), ("NoWay", [false, false, false, false], [false, false, false, true], [true]), ("BadText", [false, false, false, false], [true, false, false, false], [true]), ("BadDeed", [true, false, false, false], [false, false, false, false], [true])]
def moreB : PySem.W.Frag → Bool := undB "CaskFault" ["BadDeed", "BadFill", "BadPlan", "BadSize"] ["BadText", "NoRoom", "NoSuch", "NoWay"] "ValueError" rowsN
abbrev EnL (w : World) (K : PySem.W.Frag) (mg : Str → Option Value) (base : Heap) : Prop := EnB PW fa fn tq w K mg base "BadText" "BadText.__init__" "row" s_m_BadText_init moreB
theorem fr_any {w : World} {K : PySem.W.Frag} {mg : Str → Option Value} {base : Heap} (E : EnL w K mg base) : mg "any" = none := E.free "any" (fa_in (by decide +kernel))
theorem fr_sum {w : World} {K : PySem.W.Frag} {mg : Str → Option Value} {base : Heap} (E : EnL w K mg base) : mg "sum" = none := E.free "sum" (fa_in (by decide +kernel))
theorem fr_range {w : World} {K : PySem.W.Frag} {mg : Str → Option Value} {base : Heap} (E : EnL w K mg base) : mg "range" = none := E.free "range" (fa_in (by decide +kernel))
theorem fr_len {w : World} {K : PySem.W.Frag} {mg : Str → Option Value} {base : Heap} (E : EnL w K mg base) : mg "len" = none := E.free "len" (fa_in (by decide +kernel))
theorem fr_tuple {w : World} {K : PySem.W.Frag} {mg : Str → Option Value} {base : Heap} (E : EnL w K mg base) : mg "tuple" = none := E.free "tuple" (fa_in (by decide +kernel))
theorem fr_list {w : World} {K : PySem.W.Frag} {mg : Str → Option Value} {base : Heap} (E : EnL w K mg base) : mg "list" = none := E.free "list" (fa_in (by decide +kernel))
theorem fr_min {w : World} {K : PySem.W.Frag} {mg : Str → Option Value} {base : Heap} (E : EnL w K mg base) : mg "min" = none := E.free "min" (fa_in (by decide +kernel))
theorem fr_abs {w : World} {K : PySem.W.Frag} {mg : Str → Option Value} {base : Heap} (E : EnL w K mg base) : mg "abs" = none := E.free "abs" (fa_in (by decide +kernel))
theorem fr_int {w : World} {K : PySem.W.Frag} {mg : Str → Option Value} {base : Heap} (E : EnL w K mg base) : mg "int" = none := E.free "int" (fa_in (by decide +kernel))
theorem fr_sorted {w : World} {K : PySem.W.Frag} {mg : Str → Option Value} {base : Heap} (E : EnL w K mg base) : mg "sorted" = none := E.free "sorted" (fa_in (by decide +kernel))
theorem fr_enumerate {w : World} {K : PySem.W.Frag} {mg : Str → Option Value} {base : Heap} (E : EnL w K mg base) : mg "enumerate" = none := E.free "enumerate" (fa_in (by decide +kernel))
theorem fr_dict {w : World} {K : PySem.W.Frag} {mg : Str → Option Value} {base : Heap} (E : EnL w K mg base) : mg "dict" = none := E.free "dict" (fa_in (by decide +kernel))
theorem calX_BadSize {w : World} {K : PySem.W.Frag} {mg : Str → Option Value} {base : Heap} (E : EnL w K mg base) : CalX K mg (Gk K w) "BadSize" 0 := E.calX "BadSize" rfl (fa_in (by decide +kernel)) (fa_in (by decide +kernel))
theorem calX_BadFill {w : World} {K : PySem.W.Frag} {mg : Str → Option Value} {base : Heap} (E : EnL w K mg base) : CalX K mg (Gk K w) "BadFill" 1 := E.calX "BadFill" rfl (fa_in (by decide +kernel)) (fa_in (by decide +kernel))
theorem calX_BadPlan {w : World} {K : PySem.W.Frag} {mg : Str → Option Value} {base : Heap} (E : EnL w K mg base) : CalX K mg (Gk K w) "BadPlan" 2 := E.calX "BadPlan" rfl (fa_in (by decide +kernel)) (fa_in (by decide +kernel))
theorem calX_NoSuch {w : World} {K : PySem.W.Frag} {mg : Str → Option Value} {base : Heap} (E : EnL w K mg base) : CalX K mg (Gk K w) "NoSuch" 3 := E.calX "NoSuch" rfl (fa_in (by decide +kernel)) (fa_in (by decide +kernel))
theorem calX_NoRoom {w : World} {K : PySem.W.Frag} {mg : Str → Option Value} {base : Heap} (E : EnL w K mg base) : CalX K mg (Gk K w) "NoRoom" 4 := E.calX "NoRoom" rfl (fa_in (by decide +kernel)) (fa_in (by decide +kernel))
theorem calX_NoWay {w : World} {K : PySem.W.Frag} {mg : Str → Option Value} {base : Heap} (E : EnL w K mg base) : CalX K mg (Gk K w) "NoWay" 5 := E.calX "NoWay" rfl (fa_in (by decide +kernel)) (fa_in (by decide +kernel))
theorem calX_BadDeed {w : World} {K : PySem.W.Frag} {mg : Str → Option Value} {base : Heap} (E : EnL w K mg base) : CalX K mg (Gk K w) "BadDeed" 7 := E.calX "BadDeed" rfl (fa_in (by decide +kernel)) (fa_in (by decide +kernel))
theorem cOk8 {w : World} {K : PySem.W.Frag} {mg : Str → Option Value} {base : Heap} (E : EnL w K mg base) : COk K (Gk K w) 8 := E.cOk (C := "Lot") rfl (fa_in (by decide +kernel)) (fun f hf => fa_in ((by decide +kernel : ∀ f ∈ (fl 8), fa.any (faEq (.noat "Lot" f)) = true) f hf)) (by decide : (fl 8).Nodup) (by decide : (fl 8).length < 1000)
theorem cOk10 {w : World} {K : PySem.W.Frag} {mg : Str → Option Value} {base : Heap} (E : EnL w K mg base) : COk K (Gk K w) 10 := E.cOk (C := "Fleet") rfl (fa_in (by decide +kernel)) (fun f hf => fa_in ((by decide +kernel : ∀ f ∈ (fl 10), fa.any (faEq (.noat "Fleet" f)) = true) f hf)) (by decide : (fl 10).Nodup) (by decide : (fl 10).length < 1000)
theorem cOk13 {w : World} {K : PySem.W.Frag} {mg : Str → Option Value} {base : Heap} (E : EnL w K mg base) : COk K (Gk K w) 13 := E.cOk (C := "Desk") rfl (fa_in (by decide +kernel)) (fun f hf => fa_in ((by decide +kernel : ∀ f ∈ (fl 13), fa.any (faEq (.noat "Desk" f)) = true) f hf)) (by decide : (fl 13).Nodup) (by decide : (fl 13).length < 1000)
theorem cOk14 {w : World} {K : PySem.W.Frag} {mg : Str → Option Value} {base : Heap} (E : EnL w K mg base) : COk K (Gk K w) 14 := E.cOk (C := "Pile") rfl (fa_in (by decide +kernel)) (fun f hf => fa_in ((by decide +kernel : ∀ f ∈ (fl 14), fa.any (faEq (.noat "Pile" f)) = true) f hf)) (by decide : (fl 14).Nodup) (by decide : (fl 14).length < 1000)
theorem btS : ∃ (m : Str) (p0 p1 p2 p3 p4 p5 p6 p7 p8 p9 : Pos) (j : Nat), BtS "BadText.__init__" "row" m "row" s_m_BadText_init p0 p1 p2 p3 p4 p5 p6 p7 p8 p9 j := ⟨_, _, _, _, _, _, _, _, _, _, _, _, NdefX.nscope_by (by decide +kernel), rfl, ⟨_, rfl, rfl⟩, rfl, by decide, by decide, fun _ _ _ _ => rfl, fun _ _ _ _ => rfl, fun _ _ _ _ => rfl, fun _ _ _ _ => ⟨_, rfl⟩, fun _ _ _ _ => rfl⟩
theorem calB_BadText {w : World} {K : PySem.W.Frag} {mg : Str → Option Value} {base : Heap} (E : EnL w K mg base) : CalB PW w K mg base (Gk K w) 1 "BadText" 6 := E.calB rfl (fa_in (by decide +kernel)) btS (fun _ _ _ _ _ _ _ us hl => match us, hl with | [_, _], _ => rfl)
theorem und {w : World} {K : PySem.W.Frag} {mg : Str → Option Value} {base : Heap} (E : EnL w K mg base) : UndF K mg (Gk K w) "_law_under" rowsU := by
  obtain ⟨fd, F⟩ := E.def_ (d := d_f_law_under) (List.mem_of_getElem? (i := 31) rfl) s_f_law_under
  refine ⟨⟨s_f_law_under, _, _, He.ga K "CaskFault", fd, "CaskFault", _, _, _, (["BadDeed", "BadFill", "BadPlan", "BadSize"] : List Str).map (ownC K), (["BadText", "NoRoom", "NoSuch", "NoWay"] : List Str).map (ownC K), [(.ty "ValueError", .type "ValueError")], _, _, _, _, _, _, _, _, _, _, _, _, _, _, _, _, _, _, _, _, F, E.glo "_law_under" (fa_in (by decide +kernel)), F.binds fun _ _ _ _ _ _ us hl => match us, hl with | [_], _ => rfl, ⟨rfl, rfl, rfl, by decide +kernel, rfl, by decide +kernel, by decide +kernel⟩, rfl, rfl, rfl, rfl, rfl, E.glo "CaskFault" (fa_in (by decide +kernel)), by decide, E.free "isinstance" (fa_in (by decide +kernel)), (.own rfl (E.glo "BadDeed" (fa_in (by decide +kernel))) (by decide) (.own rfl (E.glo "BadFill" (fa_in (by decide +kernel))) (by decide) (.own rfl (E.glo "BadPlan" (fa_in (by decide +kernel))) (by decide) (.own rfl (E.glo "BadSize" (fa_in (by decide +kernel))) (by decide) .nil)))), (.own rfl (E.glo "BadText" (fa_in (by decide +kernel))) (by decide) (.own rfl (E.glo "NoRoom" (fa_in (by decide +kernel))) (by decide) (.own rfl (E.glo "NoSuch" (fa_in (by decide +kernel))) (by decide) (.own rfl (E.glo "NoWay" (fa_in (by decide +kernel))) (by decide) .nil)))), .blt rfl (E.free "ValueError" (fa_in (by decide +kernel))) (by kernel_rfl) (by decide) (by decide) .nil, (by simp), fun r hr => ?_, fun _ _ _ => ⟨rfl, rfl, rfl⟩⟩⟩
  simp only [rowsU, List.mem_cons, List.not_mem_nil, or_false] at hr
  rcases hr with rfl | rfl | rfl | rfl | rfl | rfl | rfl | rfl
  · have z := undB_ok E.mr (r := ("BadSize", [false, false, false, true], [false, false, false, false], [true])) (List.mem_of_getElem? (i := 0) rfl)
    exact ⟨z.1, z.2.1, _, _, _, z.2.2.1, z.2.2.2.1, z.2.2.2.2, rfl⟩
  · have z := undB_ok E.mr (r := ("BadFill", [false, true, false, false], [false, false, false, false], [true])) (List.mem_of_getElem? (i := 1) rfl)
    exact ⟨z.1, z.2.1, _, _, _, z.2.2.1, z.2.2.2.1, z.2.2.2.2, rfl⟩
  · have z := undB_ok E.mr (r := ("BadPlan", [false, false, true, false], [false, false, false, false], [true])) (List.mem_of_getElem? (i := 2) rfl)
    exact ⟨z.1, z.2.1, _, _, _, z.2.2.1, z.2.2.2.1, z.2.2.2.2, rfl⟩
  · have z := undB_ok E.mr (r := ("NoSuch", [false, false, false, false], [false, false, true, false], [true])) (List.mem_of_getElem? (i := 3) rfl)
    exact ⟨z.1, z.2.1, _, _, _, z.2.2.1, z.2.2.2.1, z.2.2.2.2, rfl⟩
  · have z := undB_ok E.mr (r := ("NoRoom", [false, false, false, false], [false, true, false, false], [true])) (List.mem_of_getElem? (i := 4) rfl)
    exact ⟨z.1, z.2.1, _, _, _, z.2.2.1, z.2.2.2.1, z.2.2.2.2, rfl⟩
  · have z := undB_ok E.mr (r := ("NoWay", [false, false, false, false], [false, false, false, true], [true])) (List.mem_of_getElem? (i := 5) rfl)
    exact ⟨z.1, z.2.1, _, _, _, z.2.2.1, z.2.2.2.1, z.2.2.2.2, rfl⟩
  · have z := undB_ok E.mr (r := ("BadText", [false, false, false, false], [true, false, false, false], [true])) (List.mem_of_getElem? (i := 6) rfl)
    exact ⟨z.1, z.2.1, _, _, _, z.2.2.1, z.2.2.2.1, z.2.2.2.2, rfl⟩
  · have z := undB_ok E.mr (r := ("BadDeed", [true, false, false, false], [false, false, false, false], [true])) (List.mem_of_getElem? (i := 7) rfl)
    exact ⟨z.1, z.2.1, _, _, _, z.2.2.1, z.2.2.2.1, z.2.2.2.2, rfl⟩
end K21
namespace K21
open PySem PySem.Spec PyProof.Rows L2 DL
abbrev RL : PySem.W.OpenLaw := PySem.Challenge.rw_cooperhall_k21_refusals_apart
abbrev tfl : List He.Defn := tq.map (·.1)
abbrev exL : PySem.W.Frag → Bool := exB fa tq "BadText" PW.main.file "BadText.__init__" "row" moreB
abbrev R : PySem.W.OpenRow := PySem.W.OpenLaw.row RL
abbrev hk : PySem.W.Hook := hookY 6 fa fn tfl exL "BadText" "BadText.__init__" s_m_BadText_init
def ob (s : PySem.W.SharedT) : AlY := obsY 6 fa fn tfl exL "BadText" (HandSHeadRun.getT s)
theorem ob_eq (s : PySem.W.SharedT) : ob s = hk.obs s.abs := obsY_eq (HandSHeadRun.getT_eq s)
theorem runH (w : World) : HandSHeadRun.RunEq R (PySem.W.view R.prog [38]) hk ob 60000 ["_wall", "CaskFault", "BadSize", "BadFill", "BadPlan", "NoSuch", "NoRoom", "NoWay", "BadText", "BadDeed", "cut_first", "Lot", "mean", "LETTERS", "Brand", "read_brand", "Fleet", "Row", "read_row", "Pages", "Desk", "around", "Pile", "filled", "_law_dice", "_law_roll", "_law_rounds", "_law_under"] w := by
  intro os
  kernel_rfl
end K21
namespace K21
open PySem PySem.Spec PyProof.Rows L2 DL
abbrev N_f_cut_first : List Str := ["boards", "wishes", "left", "found", "board", "wish", "fits", "k", "size", "row"]
theorem nd_f_cut_first : N_f_cut_first.Nodup := by decide +kernel
theorem sc_f_cut_first : FnScope N_f_cut_first ["boards", "wishes"] (defScope s_f_cut_first) := ⟨rfl, rfl, rfl, by decide +kernel, rfl, by decide +kernel, by decide +kernel⟩
theorem bx_f_cut_first {w : World} {K : PySem.W.Frag} {mg : Str → Option Value} {base : Heap} (E : EnL w K mg base) (f : Addr) (c : Addr) (hcc : c = He.codeOf K d_f_cut_first.at_) (A : Around) (outer : List Env) (s : Shared) (H : Hp) (s0 : L2.St) (LL : List (Addr × Obj × HO)) (Ex : XK) (hr : Room 0 (A.deeper (envOfC "cut_first" (defScope s_f_cut_first) s.heap.objs.size f (.ref c)))) :
    BXs (Gk K w) ⟨[0, 1], s0, LL⟩ (cxOf (L2.CX PW w) PW w K mg base N_f_cut_first "cut_first" (defScope s_f_cut_first) f (.ref c) A outer s H Ex) (fun cls d _ H => Ex cls d H) (defBody s_f_cut_first) b_f_cut_first := by
  subst hcc
  refine ⟨?_⟩
  refine bx_cons ?_ ?_
  · exact sx_set 2 (ex_callT call_list_of os_list (fr_list E) (by decide +kernel) (ax_s 0 ax_nil) (pa_c pa_n)) (by decide : ¬ 2 ∈ ([0, 1] : List Nat)) nd_f_cut_first
  refine bx_cons ?_ ?_
  · exact sx_setLc 3 rfl nd_f_cut_first (by decide : ¬ 3 ∈ ([0, 1] : List Nat)) pi_a (blkOk_by (own := [("board", 4)]) (by rfl)) ⟨fun N' hv' s' H' C' cl' fp' => (gx_name 4 (hv' _ (by simp)) nd_f_cut_first), fun N' hv' s' H' C' cl' fp' => .nil, fun N' hv' s' H' C' cl' fp' => (ex_lst ops_lst ax_nil pa_n)⟩ (ax_v (ex_frz 0) ax_nil) it_a rfl
  refine bx_cons ?_ ?_
  · refine sx_for (passes_of rfl) rfl pi_a (ax_v (ex_srtR rfl (Room.u66 hr) rfl (fr_sorted E) (ax_s 1 ax_nil) (pa_c pa_n)) ax_nil) it_a (fun _ => (gx_name 5 (by decide : ¬ 5 ∈ ([0, 1] : List Nat)) nd_f_cut_first)) (fun _ => ?_)
    refine bx_cons ?_ ?_
    · exact sx_setLc 6 rfl nd_f_cut_first (by decide : ¬ 6 ∈ ([0, 1] : List Nat)) (pi_enum (by rfl) (fr_enumerate E) (pa_c pa_n)) (blkOk_by (own := [("k", 7), ("size", 8)]) (by rfl)) ⟨fun N' hv' s' H' C' cl' fp' => (gx_tup rfl rfl (gsx_cons (gx_name 7 (hv' _ (by simp)) nd_f_cut_first) (gsx_cons (gx_name 8 (hv' _ (by simp)) nd_f_cut_first) gsx_nil))), fun N' hv' s' H' C' cl' fp' => (.one (tx_cmp op_ge os_ge (ax_s 8 (ax_s 5 ax_nil)))), fun N' hv' s' H' C' cl' fp' => (ex_frz 7)⟩ (ax_s 2 ax_nil) it_en rfl
    refine bx_cons ?_ ?_
    · refine sx_if (tx_cmp (op_eqD (Room.u64 hr)) os_eq (ax_s 6 (ax_v (ex_lst ops_lst ax_nil pa_n) ax_nil))) ?_ ?_
      · refine bx_one ?_
        exact sx_raise (calX_NoWay E) rfl (takes_of rfl rfl rfl rfl)
      · exact bx_nil
    refine bx_cons ?_ ?_
    · exact sx_augS 2 rfl ip_sub (ex_ix ix_seq os_ix (ax_s 6 (ax_v ex_int ax_nil))) (ex_frz 5)
    refine bx_one ?_
    exact sx_exp (ex_appIx 3 5 rfl (ex_ix ix_seq os_ix (ax_s 6 (ax_v ex_int ax_nil))) (hp := (pa_c pa_n)))
  refine bx_one ?_
  exact sx_ret (ex_callT call_tuple_of os_tuple (fr_tuple E) (by decide +kernel) (ax_v (ex_lc rfl nd_f_cut_first pi_a (blkOk_by (own := [("row", 9)]) (by rfl)) ⟨fun N' hv' s' H' C' cl' fp' => (gx_name 9 (hv' _ (by simp)) nd_f_cut_first), fun N' hv' s' H' C' cl' fp' => .nil, fun N' hv' s' H' C' cl' fp' => (ex_callT call_tuple_of os_tuple (fr_tuple E) (by decide +kernel) (ax_s 9 ax_nil) (pa_c pa_n))⟩ (ax_v (ex_frz 3) ax_nil) it_a) ax_nil) (pa_c pa_n))
theorem cal_f_cut_first {w : World} {K : PySem.W.Frag} {mg : Str → Option Value} {base : Heap} (E : EnL w K mg base) : CalF PW w K mg base (Gk K w) 1 "cut_first" op_f_cut_first := by
  obtain ⟨fd, F⟩ := E.def_ (d := d_f_cut_first) (List.mem_of_getElem? (i := 0) rfl) s_f_cut_first
  have bi : Binds K fd ["boards", "wishes"] [] := F.binds fun _ _ _ _ _ _ us hl => match us, hl with | [_, _], _ => rfl
  have ok := fn_ownCs (P := PW) (w := w) (mg := mg) (base := base) (G := Gk K w) F sc_f_cut_first fun A outer s H s0 LL Ex hr => bx_f_cut_first E _ _ rfl A outer s H s0 LL Ex hr
  exact E.calF (d := d_f_cut_first) F ok (fa_in (by decide +kernel)) bi
abbrev N_m_Lot_init : List Str := ["self", "measure", "strength", "years"]
theorem sc_m_Lot_init : FnScope N_m_Lot_init ["self", "measure", "strength", "years"] (defScope s_m_Lot_init) := ⟨rfl, rfl, rfl, by decide +kernel, rfl, by decide +kernel, by decide +kernel⟩
theorem bx_m_Lot_init {w : World} {K : PySem.W.Frag} {mg : Str → Option Value} {base : Heap} (E : EnL w K mg base) (f : Addr) (c : Addr) (hcc : c = He.codeOf K d_m_Lot_init.at_) (A : Around) (outer : List Env) (s : Shared) (H : Hp) (s0 : L2.St) (LL : List (Addr × Obj × HO)) (Ex : XK) (hr : Room 0 (A.deeper (envOfC "Lot.__init__" (defScope s_m_Lot_init) s.heap.objs.size f (.ref c)))) :
    BXs (Gk K w) ⟨[0, 1, 2, 3], s0, LL⟩ (cxOf (L2.CX PW w) PW w K mg base N_m_Lot_init "Lot.__init__" (defScope s_m_Lot_init) f (.ref c) A outer s H Ex) (fun cls d _ H => Ex cls d H) (defBody s_m_Lot_init) b_m_Lot_init := by
  subst hcc
  refine ⟨?_⟩
  refine bx_cons ?_ ?_
  · refine sx_if (TW.tx (tw_or (tx_cmp op_lt os_lt (ax_s 1 (ax_v ex_int ax_nil))) (tw_or (tx_not (tx_chain ci_le ci_le ex_int (ex_frz 2) ex_int)) (tw_or1 (tx_cmp op_lt os_lt (ax_s 3 (ax_v ex_int ax_nil))))))) ?_ ?_
    · refine bx_one ?_
      exact sx_raise (calX_BadFill E) rfl (takes_of rfl rfl rfl rfl)
    · exact bx_nil
  refine bx_cons ?_ ?_
  · exact sx_fld 0 8 0 rfl (cOk8 E) rfl (ex_frz 1)
  refine bx_cons ?_ ?_
  · exact sx_fld 0 8 1 rfl (cOk8 E) rfl (ex_frz 2)
  refine bx_one ?_
  exact sx_fld 0 8 2 rfl (cOk8 E) rfl (ex_frz 3)
theorem cal_m_Lot_init {w : World} {K : PySem.W.Frag} {mg : Str → Option Value} {base : Heap} (E : EnL w K mg base) : CalC PW w K mg base (Gk K w) 1 "Lot" 8 op_m_Lot_init := by
  obtain ⟨fd, F⟩ := E.def_ (d := d_m_Lot_init) (List.mem_of_getElem? (i := 1) rfl) s_m_Lot_init
  have bi : Binds K fd ["self", "measure", "strength", "years"] [] := F.binds fun _ _ _ _ _ _ us hl => match us, hl with | [_, _, _, _], _ => rfl
  have ok := fn_ownCs (P := PW) (w := w) (mg := mg) (base := base) (G := Gk K w) F sc_m_Lot_init fun A outer s H s0 LL Ex hr => bx_m_Lot_init E _ _ rfl A outer s H s0 LL Ex hr
  exact E.calC F ok rfl (fa_in (by decide +kernel)) (fa_in (by decide +kernel)) bi
abbrev N_m_Lot_pure : List Str := ["self"]
theorem sc_m_Lot_pure : FnScope N_m_Lot_pure ["self"] (defScope s_m_Lot_pure) := ⟨rfl, rfl, rfl, by decide +kernel, rfl, by decide +kernel, by decide +kernel⟩
theorem bx_m_Lot_pure {w : World} {K : PySem.W.Frag} {mg : Str → Option Value} {base : Heap} (E : EnL w K mg base) (f : Addr) (c : Addr) (hcc : c = He.codeOf K d_m_Lot_pure.at_) (A : Around) (outer : List Env) (s : Shared) (H : Hp) (s0 : L2.St) (LL : List (Addr × Obj × HO)) (Ex : XK) (hr : Room 0 (A.deeper (envOfC "Lot.pure" (defScope s_m_Lot_pure) s.heap.objs.size f (.ref c)))) :
    BXs (Gk K w) ⟨[0], s0, LL⟩ (cxOf (L2.CX PW w) PW w K mg base N_m_Lot_pure "Lot.pure" (defScope s_m_Lot_pure) f (.ref c) A outer s H Ex) (fun cls d _ H => Ex cls d H) (defBody s_m_Lot_pure) b_m_Lot_pure := by
  subst hcc
  refine ⟨?_⟩
  refine bx_one ?_
  exact sx_ret (ex_bin (op_mul.or op_mulW) (os_or2 os_mulS os_mul) (ax_v (ex_fld (os_fld (c := 8) (k := 0) (cOk8 E) rfl) (ax_s 0 ax_nil)) (ax_v (ex_fld (os_fld (c := 8) (k := 1) (cOk8 E) rfl) (ax_s 0 ax_nil)) ax_nil)))
theorem cal_m_Lot_pure {w : World} {K : PySem.W.Frag} {mg : Str → Option Value} {base : Heap} (E : EnL w K mg base) : CalM PW w K mg base (Gk K w) 1 "pure" 8 op_m_Lot_pure := by
  obtain ⟨fd, F⟩ := E.def_ (d := d_m_Lot_pure) (List.mem_of_getElem? (i := 2) rfl) s_m_Lot_pure
  have bi : Binds K fd ["self"] [] := F.binds fun _ _ _ _ _ _ us hl => match us, hl with | [_], _ => rfl
  have ok := fn_ownCs (P := PW) (w := w) (mg := mg) (base := base) (G := Gk K w) F sc_m_Lot_pure fun A outer s H s0 LL Ex hr => bx_m_Lot_pure E _ _ rfl A outer s H s0 LL Ex hr
  exact E.calM F ok rfl (fa_in (by decide +kernel)) (fa_in (by decide +kernel)) bi (by decide +kernel : ∀ f ∈ fl 8, f ≠ "pure")
abbrev N_f_mean : List Str := ["lots", "measure", "lot"]
theorem nd_f_mean : N_f_mean.Nodup := by decide +kernel
theorem sc_f_mean : FnScope N_f_mean ["lots"] (defScope s_f_mean) := ⟨rfl, rfl, rfl, by decide +kernel, rfl, by decide +kernel, by decide +kernel⟩
theorem bx_f_mean {w : World} {K : PySem.W.Frag} {mg : Str → Option Value} {base : Heap} (E : EnL w K mg base) (f : Addr) (c : Addr) (hcc : c = He.codeOf K d_f_mean.at_) (A : Around) (outer : List Env) (s : Shared) (H : Hp) (s0 : L2.St) (LL : List (Addr × Obj × HO)) (Ex : XK) (hr : Room 2 (A.deeper (envOfC "mean" (defScope s_f_mean) s.heap.objs.size f (.ref c)))) :
    BXs (Gk K w) ⟨[0], s0, LL⟩ (cxOf (L2.CX PW w) PW w K mg base N_f_mean "mean" (defScope s_f_mean) f (.ref c) A outer s H Ex) (fun cls d _ H => Ex cls d H) (defBody s_f_mean) b_f_mean := by
  subst hcc
  refine ⟨?_⟩
  refine bx_cons ?_ ?_
  · refine sx_if (tx_cmp (op_eqD (Room.u64 hr)) os_eq (ax_v (ex_callB call_len os_len (fr_len E) (by decide +kernel) (ax_s 0 ax_nil) (pa_c pa_n)) (ax_v ex_int ax_nil))) ?_ ?_
    · refine bx_one ?_
      exact sx_raise (calX_BadPlan E) rfl (takes_of rfl rfl rfl rfl)
    · exact bx_nil
  refine bx_cons ?_ ?_
  · exact sx_set 1 (ex_sum (GenH.mk (k := 1) (m := 1) (Ng := ["lot", "lots", "measure", "2"]) hr (E.t (d_f_mean.at_, Lq "mean" ++ "<genexpr>") (List.mem_of_getElem? (i := 0) rfl)) rfl (gsc_by (by rfl)) ⟨_, Or.inr rfl, En.tabM (p := (d_f_mean.at_, Lq "mean" ++ "<genexpr>")) (List.mem_of_getElem? (i := 0) rfl), E.tabU (p := (d_f_mean.at_, Lq "mean" ++ "<genexpr>")) (List.mem_of_getElem? (i := 0) rfl)⟩ pi_a (by intro _; rfl) (by rfl) (by decide) (by decide) (fun A' s' H' C' cl' cd' fp' pn' N' hr' hJ => ⟨(gx_name 0 (fun hh => absurd (hJ _ hh) (by decide)) (by decide +kernel : (["lot", "lots", "measure", "2"] : List Str).Nodup)), .nil, (ex_fld (os_fld (c := 8) (k := 0) (cOk8 E) rfl) (ax_s 0 ax_nil))⟩) (ax_v (ex_frz 0) ax_nil) it_a) rfl (fr_sum E)) (by decide : ¬ 1 ∈ ([0] : List Nat)) nd_f_mean
  refine bx_one ?_
  exact sx_ret (ex_tup ops_tup (ax_s 1 (ax_v (ex_bin op_fdivW os_div (ax_v (ex_sum (GenH.mk (k := 1) (m := 1) (Ng := ["lot", "lots", "measure", "2"]) hr (E.t (d_f_mean.at_, Lq "mean" ++ "<genexpr>") (List.mem_of_getElem? (i := 0) rfl)) rfl (gsc_by (by rfl)) ⟨_, Or.inr rfl, En.tabM (p := (d_f_mean.at_, Lq "mean" ++ "<genexpr>")) (List.mem_of_getElem? (i := 0) rfl), E.tabU (p := (d_f_mean.at_, Lq "mean" ++ "<genexpr>")) (List.mem_of_getElem? (i := 0) rfl)⟩ pi_a (by intro _; rfl) (by rfl) (by decide) (by decide) (fun A' s' H' C' cl' cd' fp' pn' N' hr' hJ => ⟨(gx_name 0 (fun hh => absurd (hJ _ hh) (by decide)) (by decide +kernel : (["lot", "lots", "measure", "2"] : List Str).Nodup)), .nil, (ex_meth0 (cal_m_Lot_pure E) (hr'.mono (by decide : 1 ≤ 1)) LamX.takes0 (ax_s 0 ax_nil))⟩) (ax_v (ex_frz 0) ax_nil) it_a) rfl (fr_sum E)) (ax_s 1 ax_nil))) (ax_v (ex_callB (cr_mn rfl (Room.u66 hr)) os_min (fr_min E) (by decide +kernel) (ax_v (ex_lc rfl nd_f_mean pi_a (blkOk_by (own := [("lot", 2)]) (by rfl)) ⟨fun N' hv' s' H' C' cl' fp' => (gx_name 2 (hv' _ (by simp)) nd_f_mean), fun N' hv' s' H' C' cl' fp' => .nil, fun N' hv' s' H' C' cl' fp' => (ex_fld (os_fld (c := 8) (k := 2) (cOk8 E) rfl) (ax_s 2 ax_nil))⟩ (ax_v (ex_frz 0) ax_nil) it_a) ax_nil) (pa_c pa_n)) ax_nil))) (pa_c (pa_c (pa_c pa_n))))
theorem cal_f_mean {w : World} {K : PySem.W.Frag} {mg : Str → Option Value} {base : Heap} (E : EnL w K mg base) : CalF PW w K mg base (Gk K w) 3 "mean" op_f_mean := by
  obtain ⟨fd, F⟩ := E.def_ (d := d_f_mean) (List.mem_of_getElem? (i := 3) rfl) s_f_mean
  have bi : Binds K fd ["lots"] [] := F.binds fun _ _ _ _ _ _ us hl => match us, hl with | [_], _ => rfl
  have ok := fn_ownCs (P := PW) (w := w) (mg := mg) (base := base) (G := Gk K w) F sc_f_mean fun A outer s H s0 LL Ex hr => bx_f_mean E _ _ rfl A outer s H s0 LL Ex hr
  exact E.calF (d := d_f_mean) F ok (fa_in (by decide +kernel)) bi
abbrev N_f_read_brand : List Str := ["text", "words", "found"]
theorem nd_f_read_brand : N_f_read_brand.Nodup := by decide +kernel
theorem sc_f_read_brand : FnScope N_f_read_brand ["text"] (defScope s_f_read_brand) := ⟨rfl, rfl, rfl, by decide +kernel, rfl, by decide +kernel, by decide +kernel⟩
theorem bx_f_read_brand {w : World} {K : PySem.W.Frag} {mg : Str → Option Value} {base : Heap} (E : EnL w K mg base) (f : Addr) (c : Addr) (hcc : c = He.codeOf K d_f_read_brand.at_) (A : Around) (outer : List Env) (s : Shared) (H : Hp) (s0 : L2.St) (LL : List (Addr × Obj × HO)) (Ex : XK) (hr : Room 5 (A.deeper (envOfC "read_brand" (defScope s_f_read_brand) s.heap.objs.size f (.ref c)))) :
    BXs (Gk K w) ⟨[0], s0, LL⟩ (cxOf (L2.CX PW w) PW w K mg base N_f_read_brand "read_brand" (defScope s_f_read_brand) f (.ref c) A outer s H Ex) (fun cls d _ H => Ex cls d H) (defBody s_f_read_brand) b_f_read_brand := by
  subst hcc
  refine ⟨?_⟩
  refine bx_cons ?_ ?_
  · exact sx_set 1 (ex_bm rfl PySem.F.plainAttrs_str PySem.F.slot_str_split PySem.F.type_str_split mt_split os_split (ax_s 0 ax_nil) (ax_v ex_str ax_nil) (pa_c pa_n)) (by decide : ¬ 1 ∈ ([0] : List Nat)) nd_f_read_brand
  refine bx_cons ?_ ?_
  · refine sx_if (TW.tx (tw_or (tx_cmp (op_neD (Room.u64 hr)) os_ne (ax_v (ex_callB call_len os_len (fr_len E) (by decide +kernel) (ax_s 1 ax_nil) (pa_c pa_n)) (ax_v ex_int ax_nil))) (tw_or (tx_cmp (op_neD (Room.u64 hr)) os_ne (ax_v (ex_callB call_len os_len (fr_len E) (by decide +kernel) (ax_v (ex_ix ix_seq os_ix (ax_s 1 (ax_v ex_int ax_nil))) ax_nil) (pa_c pa_n)) (ax_v ex_int ax_nil))) (tw_or1 (tx_not (tx_chain ci_le ci_le ex_int (ex_callB call_len os_len (fr_len E) (by decide +kernel) (ax_v (ex_ix ix_seq os_ix (ax_s 1 (ax_v ex_int ax_nil))) ax_nil) (pa_c pa_n)) ex_int)))))) ?_ ?_
    · refine bx_one ?_
      exact sx_raise (calX_BadPlan E) rfl (takes_of rfl rfl rfl rfl)
    · exact bx_nil
  refine bx_cons ?_ ?_
  · exact fun _ _ _ _ _ _ p => p.elim
  refine bx_cons ?_ ?_
  · exact fun _ _ _ _ _ _ p => p.elim
  refine bx_cons ?_ ?_
  · exact fun _ _ _ _ _ _ p => p.elim
  refine bx_one ?_
  exact fun _ _ _ _ _ _ p => p.elim
theorem cal_f_read_brand {w : World} {K : PySem.W.Frag} {mg : Str → Option Value} {base : Heap} (E : EnL w K mg base) : CalF PW w K mg base (Gk K w) 6 "read_brand" op_f_read_brand := by
  obtain ⟨fd, F⟩ := E.def_ (d := d_f_read_brand) (List.mem_of_getElem? (i := 6) rfl) s_f_read_brand
  have bi : Binds K fd ["text"] [] := F.binds fun _ _ _ _ _ _ us hl => match us, hl with | [_], _ => rfl
  have ok := fn_ownCs (P := PW) (w := w) (mg := mg) (base := base) (G := Gk K w) F sc_f_read_brand fun A outer s H s0 LL Ex hr => bx_f_read_brand E _ _ rfl A outer s H s0 LL Ex hr
  exact E.calF (d := d_f_read_brand) F ok (fa_in (by decide +kernel)) bi
abbrev N_m_Fleet_init : List Str := ["self", "cards", "card"]
theorem nd_m_Fleet_init : N_m_Fleet_init.Nodup := by decide +kernel
theorem sc_m_Fleet_init : FnScope N_m_Fleet_init ["self", "cards"] (defScope s_m_Fleet_init) := ⟨rfl, rfl, rfl, by decide +kernel, rfl, by decide +kernel, by decide +kernel⟩
theorem bx_m_Fleet_init {w : World} {K : PySem.W.Frag} {mg : Str → Option Value} {base : Heap} (E : EnL w K mg base) (f : Addr) (c : Addr) (hcc : c = He.codeOf K d_m_Fleet_init.at_) (A : Around) (outer : List Env) (s : Shared) (H : Hp) (s0 : L2.St) (LL : List (Addr × Obj × HO)) (Ex : XK) (hr : Room 3 (A.deeper (envOfC "Fleet.__init__" (defScope s_m_Fleet_init) s.heap.objs.size f (.ref c)))) :
    BXs (Gk K w) ⟨[0, 1], s0, LL⟩ (cxOf (L2.CX PW w) PW w K mg base N_m_Fleet_init "Fleet.__init__" (defScope s_m_Fleet_init) f (.ref c) A outer s H Ex) (fun cls d _ H => Ex cls d H) (defBody s_m_Fleet_init) b_m_Fleet_init := by
  subst hcc
  refine ⟨?_⟩
  refine bx_cons ?_ ?_
  · refine sx_if (tx_cmp (op_neD (Room.u64 hr)) os_ne (ax_v (ex_callB DL.call_lenD os_lenD (fr_len E) (by decide +kernel) (ax_v (ex_callT (call_dictP rfl) os_dictP (fr_dict E) (by decide +kernel) (ax_v (ex_lc rfl nd_m_Fleet_init pi_a (blkOk_by (own := [("card", 2)]) (by rfl)) ⟨fun N' hv' s' H' C' cl' fp' => (gx_name 2 (hv' _ (by simp)) nd_m_Fleet_init), fun N' hv' s' H' C' cl' fp' => .nil, fun N' hv' s' H' C' cl' fp' => (ex_tup ops_tup (ax_v (fun _ _ _ _ _ _ p => p.elim) (ax_v ex_int ax_nil)) (pa_c (pa_c pa_n)))⟩ (ax_v (ex_frz 1) ax_nil) it_a) ax_nil) (pa_c pa_n)) ax_nil) (pa_c pa_n)) (ax_v (ex_callB call_len os_len (fr_len E) (by decide +kernel) (ax_s 1 ax_nil) (pa_c pa_n)) ax_nil))) ?_ ?_
    · refine bx_one ?_
      exact sx_raise (calX_BadPlan E) rfl (takes_of rfl rfl rfl rfl)
    · exact bx_nil
  refine bx_one ?_
  exact sx_fld 0 10 0 rfl (cOk10 E) rfl (ex_callT (call_dictP rfl) os_dictP (fr_dict E) (by decide +kernel) (ax_v (ex_lc rfl nd_m_Fleet_init pi_a (blkOk_by (own := [("card", 2)]) (by rfl)) ⟨fun N' hv' s' H' C' cl' fp' => (gx_name 2 (hv' _ (by simp)) nd_m_Fleet_init), fun N' hv' s' H' C' cl' fp' => .nil, fun N' hv' s' H' C' cl' fp' => (ex_tup ops_tup (ax_v (fun _ _ _ _ _ _ p => p.elim) (ax_s 2 ax_nil)) (pa_c (pa_c pa_n)))⟩ (ax_v (ex_srtK (KeyH.mk (k := 0) (Ng := ["card", "self", "cards", "2"]) (x := "card") hr (E.t (d_m_Fleet_init.at_, Lq "Fleet.__init__" ++ "<lambda>") (List.mem_of_getElem? (i := 3) rfl)) rfl ⟨_, Or.inr rfl, En.tabM (p := (d_m_Fleet_init.at_, Lq "Fleet.__init__" ++ "<lambda>")) (List.mem_of_getElem? (i := 3) rfl), E.tabU (p := (d_m_Fleet_init.at_, Lq "Fleet.__init__" ++ "<lambda>")) (List.mem_of_getElem? (i := 3) rfl)⟩ (ksc_by (by rfl)) (by rfl) (by rfl) (by intros; rfl) (by rfl) (fun A' s' H' q' C' fa' c' cl' N' hr' hJ => (fun _ _ _ _ _ _ p => p.elim))) rfl rfl (fr_sorted E) (gsrc_seq rfl) (ax_s 1 ax_nil) (pa_c pa_n)) ax_nil) it_a) ax_nil) (pa_c pa_n))
theorem cal_m_Fleet_init {w : World} {K : PySem.W.Frag} {mg : Str → Option Value} {base : Heap} (E : EnL w K mg base) : CalC PW w K mg base (Gk K w) 4 "Fleet" 10 op_m_Fleet_init := by
  obtain ⟨fd, F⟩ := E.def_ (d := d_m_Fleet_init) (List.mem_of_getElem? (i := 7) rfl) s_m_Fleet_init
  have bi : Binds K fd ["self", "cards"] [] := F.binds fun _ _ _ _ _ _ us hl => match us, hl with | [_, _], _ => rfl
  have ok := fn_ownCs (P := PW) (w := w) (mg := mg) (base := base) (G := Gk K w) F sc_m_Fleet_init fun A outer s H s0 LL Ex hr => bx_m_Fleet_init E _ _ rfl A outer s H s0 LL Ex hr
  exact E.calC F ok rfl (fa_in (by decide +kernel)) (fa_in (by decide +kernel)) bi
abbrev N_m_Fleet_card : List Str := ["self", "name"]
theorem sc_m_Fleet_card : FnScope N_m_Fleet_card ["self", "name"] (defScope s_m_Fleet_card) := ⟨rfl, rfl, rfl, by decide +kernel, rfl, by decide +kernel, by decide +kernel⟩
theorem bx_m_Fleet_card {w : World} {K : PySem.W.Frag} {mg : Str → Option Value} {base : Heap} (E : EnL w K mg base) (f : Addr) (c : Addr) (hcc : c = He.codeOf K d_m_Fleet_card.at_) (A : Around) (outer : List Env) (s : Shared) (H : Hp) (s0 : L2.St) (LL : List (Addr × Obj × HO)) (Ex : XK) (hr : Room 0 (A.deeper (envOfC "Fleet.card" (defScope s_m_Fleet_card) s.heap.objs.size f (.ref c)))) :
    BXs (Gk K w) ⟨[0, 1], s0, LL⟩ (cxOf (L2.CX PW w) PW w K mg base N_m_Fleet_card "Fleet.card" (defScope s_m_Fleet_card) f (.ref c) A outer s H Ex) (fun cls d _ H => Ex cls d H) (defBody s_m_Fleet_card) b_m_Fleet_card := by
  subst hcc
  refine ⟨?_⟩
  refine bx_cons ?_ ?_
  · refine sx_if (tx_cmp (op_dNotIn (Room.u1 hr)) (os_dIn true) (ax_s 1 (ax_v (ex_fld (os_fld (c := 10) (k := 0) (cOk10 E) rfl) (ax_s 0 ax_nil)) ax_nil))) ?_ ?_
    · refine bx_one ?_
      exact sx_raise1 (calX_NoSuch E) rfl (takes_of rfl rfl rfl rfl) (ex_frz 1)
    · exact bx_nil
  refine bx_one ?_
  exact sx_ret (ex_ix (ixd (Room.u1 hr)) os_dix (ax_v (ex_fld (os_fld (c := 10) (k := 0) (cOk10 E) rfl) (ax_s 0 ax_nil)) (ax_s 1 ax_nil)))
theorem cal_m_Fleet_card {w : World} {K : PySem.W.Frag} {mg : Str → Option Value} {base : Heap} (E : EnL w K mg base) : CalM PW w K mg base (Gk K w) 1 "card" 10 op_m_Fleet_card := by
  obtain ⟨fd, F⟩ := E.def_ (d := d_m_Fleet_card) (List.mem_of_getElem? (i := 8) rfl) s_m_Fleet_card
  have bi : Binds K fd ["self", "name"] [] := F.binds fun _ _ _ _ _ _ us hl => match us, hl with | [_, _], _ => rfl
  have ok := fn_ownCs (P := PW) (w := w) (mg := mg) (base := base) (G := Gk K w) F sc_m_Fleet_card fun A outer s H s0 LL Ex hr => bx_m_Fleet_card E _ _ rfl A outer s H s0 LL Ex hr
  exact E.calM F ok rfl (fa_in (by decide +kernel)) (fa_in (by decide +kernel)) bi (by decide +kernel : ∀ f ∈ fl 10, f ≠ "card")
abbrev N_f_read_row : List Str := ["text", "words", "found"]
theorem nd_f_read_row : N_f_read_row.Nodup := by decide +kernel
theorem sc_f_read_row : FnScope N_f_read_row ["text"] (defScope s_f_read_row) := ⟨rfl, rfl, rfl, by decide +kernel, rfl, by decide +kernel, by decide +kernel⟩
theorem bx_f_read_row {w : World} {K : PySem.W.Frag} {mg : Str → Option Value} {base : Heap} (E : EnL w K mg base) (f : Addr) (c : Addr) (hcc : c = He.codeOf K d_f_read_row.at_) (A : Around) (outer : List Env) (s : Shared) (H : Hp) (s0 : L2.St) (LL : List (Addr × Obj × HO)) (Ex : XK) (hr : Room 3 (A.deeper (envOfC "read_row" (defScope s_f_read_row) s.heap.objs.size f (.ref c)))) :
    BXs (Gk K w) ⟨[0], s0, LL⟩ (cxOf (L2.CX PW w) PW w K mg base N_f_read_row "read_row" (defScope s_f_read_row) f (.ref c) A outer s H Ex) (fun cls d _ H => Ex cls d H) (defBody s_f_read_row) b_f_read_row := by
  subst hcc
  refine ⟨?_⟩
  refine bx_cons ?_ ?_
  · exact sx_set 1 (ex_bm rfl PySem.F.plainAttrs_str PySem.F.slot_str_split PySem.F.type_str_split mt_split os_split (ax_s 0 ax_nil) (ax_v ex_str ax_nil) (pa_c pa_n)) (by decide : ¬ 1 ∈ ([0] : List Nat)) nd_f_read_row
  refine bx_cons ?_ ?_
  · refine sx_if (TW.tx (tw_or (tx_cmp (op_neD (Room.u64 hr)) os_ne (ax_v (ex_callB call_len os_len (fr_len E) (by decide +kernel) (ax_s 1 ax_nil) (pa_c pa_n)) (ax_v ex_int ax_nil))) (tw_or1 (fun _ _ _ _ _ _ p => p.elim)))) ?_ ?_
    · refine bx_one ?_
      exact sx_raiseR (calB_BadText E) (hr.mono (by decide : 2 ≤ 3)) rfl (takes_of rfl rfl rfl rfl) ex_int
    · exact bx_nil
  refine bx_cons ?_ ?_
  · exact fun _ _ _ _ _ _ p => p.elim
  refine bx_cons ?_ ?_
  · exact fun _ _ _ _ _ _ p => p.elim
  refine bx_cons ?_ ?_
  · exact fun _ _ _ _ _ _ p => p.elim
  refine bx_one ?_
  exact fun _ _ _ _ _ _ p => p.elim
theorem cal_f_read_row {w : World} {K : PySem.W.Frag} {mg : Str → Option Value} {base : Heap} (E : EnL w K mg base) : CalF PW w K mg base (Gk K w) 4 "read_row" op_f_read_row := by
  obtain ⟨fd, F⟩ := E.def_ (d := d_f_read_row) (List.mem_of_getElem? (i := 11) rfl) s_f_read_row
  have bi : Binds K fd ["text"] [] := F.binds fun _ _ _ _ _ _ us hl => match us, hl with | [_], _ => rfl
  have ok := fn_ownCs (P := PW) (w := w) (mg := mg) (base := base) (G := Gk K w) F sc_f_read_row fun A outer s H s0 LL Ex hr => bx_f_read_row E _ _ rfl A outer s H s0 LL Ex hr
  exact E.calF (d := d_f_read_row) F ok (fa_in (by decide +kernel)) bi
abbrev N_m_Desk_init : List Str := ["self"]
theorem sc_m_Desk_init : FnScope N_m_Desk_init ["self"] (defScope s_m_Desk_init) := ⟨rfl, rfl, rfl, by decide +kernel, rfl, by decide +kernel, by decide +kernel⟩
theorem bx_m_Desk_init {w : World} {K : PySem.W.Frag} {mg : Str → Option Value} {base : Heap} (E : EnL w K mg base) (f : Addr) (c : Addr) (hcc : c = He.codeOf K d_m_Desk_init.at_) (A : Around) (outer : List Env) (s : Shared) (H : Hp) (s0 : L2.St) (LL : List (Addr × Obj × HO)) (Ex : XK) (hr : Room 0 (A.deeper (envOfC "Desk.__init__" (defScope s_m_Desk_init) s.heap.objs.size f (.ref c)))) :
    BXs (Gk K w) ⟨[0], s0, LL⟩ (cxOf (L2.CX PW w) PW w K mg base N_m_Desk_init "Desk.__init__" (defScope s_m_Desk_init) f (.ref c) A outer s H Ex) (fun cls d _ H => Ex cls d H) (defBody s_m_Desk_init) b_m_Desk_init := by
  subst hcc
  refine ⟨?_⟩
  refine bx_cons ?_ ?_
  · exact sx_fld 0 13 0 rfl (cOk13 E) rfl ex_str
  refine bx_cons ?_ ?_
  · exact sx_fld 0 13 1 rfl (cOk13 E) rfl (ex_lst ops_lst ax_nil pa_n)
  refine bx_one ?_
  exact sx_fld 0 13 2 rfl (cOk13 E) rfl (ex_lst ops_lst ax_nil pa_n)
theorem cal_m_Desk_init {w : World} {K : PySem.W.Frag} {mg : Str → Option Value} {base : Heap} (E : EnL w K mg base) : CalC PW w K mg base (Gk K w) 1 "Desk" 13 op_m_Desk_init := by
  obtain ⟨fd, F⟩ := E.def_ (d := d_m_Desk_init) (List.mem_of_getElem? (i := 17) rfl) s_m_Desk_init
  have bi : Binds K fd ["self"] [] := F.binds fun _ _ _ _ _ _ us hl => match us, hl with | [_], _ => rfl
  have ok := fn_ownCs (P := PW) (w := w) (mg := mg) (base := base) (G := Gk K w) F sc_m_Desk_init fun A outer s H s0 LL Ex hr => bx_m_Desk_init E _ _ rfl A outer s H s0 LL Ex hr
  exact E.calC F ok rfl (fa_in (by decide +kernel)) (fa_in (by decide +kernel)) bi
abbrev N_m_Desk_undo : List Str := ["self", "deed"]
theorem sc_m_Desk_undo : FnScope N_m_Desk_undo ["self"] (defScope s_m_Desk_undo) := ⟨rfl, rfl, rfl, by decide +kernel, rfl, by decide +kernel, by decide +kernel⟩
theorem bx_m_Desk_undo {w : World} {K : PySem.W.Frag} {mg : Str → Option Value} {base : Heap} (E : EnL w K mg base) (f : Addr) (c : Addr) (hcc : c = He.codeOf K d_m_Desk_undo.at_) (A : Around) (outer : List Env) (s : Shared) (H : Hp) (s0 : L2.St) (LL : List (Addr × Obj × HO)) (Ex : XK) (hr : Room 0 (A.deeper (envOfC "Desk.undo" (defScope s_m_Desk_undo) s.heap.objs.size f (.ref c)))) :
    BXs (Gk K w) ⟨[0], s0, LL⟩ (cxOf (L2.CX PW w) PW w K mg base N_m_Desk_undo "Desk.undo" (defScope s_m_Desk_undo) f (.ref c) A outer s H Ex) (fun cls d _ H => Ex cls d H) (defBody s_m_Desk_undo) b_m_Desk_undo := by
  subst hcc
  refine ⟨?_⟩
  refine bx_cons ?_ ?_
  · refine sx_if (tx_cmp (op_eqD (Room.u64 hr)) os_eq (ax_v (ex_fld (os_fld (c := 13) (k := 1) (cOk13 E) rfl) (ax_s 0 ax_nil)) (ax_v (ex_lst ops_lst ax_nil pa_n) ax_nil))) ?_ ?_
    · refine bx_one ?_
      exact sx_raise (calX_BadDeed E) rfl (takes_of rfl rfl rfl rfl)
    · exact bx_nil
  refine bx_cons ?_ ?_
  · exact fun _ _ _ _ _ _ p => p.elim
  refine bx_cons ?_ ?_
  · exact fun _ _ _ _ _ _ p => p.elim
  refine bx_one ?_
  exact fun _ _ _ _ _ _ p => p.elim
theorem cal_m_Desk_undo {w : World} {K : PySem.W.Frag} {mg : Str → Option Value} {base : Heap} (E : EnL w K mg base) : CalM PW w K mg base (Gk K w) 1 "undo" 13 op_m_Desk_undo := by
  obtain ⟨fd, F⟩ := E.def_ (d := d_m_Desk_undo) (List.mem_of_getElem? (i := 20) rfl) s_m_Desk_undo
  have bi : Binds K fd ["self"] [] := F.binds fun _ _ _ _ _ _ us hl => match us, hl with | [_], _ => rfl
  have ok := fn_ownCs (P := PW) (w := w) (mg := mg) (base := base) (G := Gk K w) F sc_m_Desk_undo fun A outer s H s0 LL Ex hr => bx_m_Desk_undo E _ _ rfl A outer s H s0 LL Ex hr
  exact E.calM F ok rfl (fa_in (by decide +kernel)) (fa_in (by decide +kernel)) bi (by decide +kernel : ∀ f ∈ fl 13, f ≠ "undo")
abbrev N_f_around : List Str := ["half"]
theorem sc_f_around : FnScope N_f_around ["half"] (defScope s_f_around) := ⟨rfl, rfl, rfl, by decide +kernel, rfl, by decide +kernel, by decide +kernel⟩
theorem bx_f_around {w : World} {K : PySem.W.Frag} {mg : Str → Option Value} {base : Heap} (E : EnL w K mg base) (f : Addr) (c : Addr) (hcc : c = He.codeOf K d_f_around.at_) (A : Around) (outer : List Env) (s : Shared) (H : Hp) (s0 : L2.St) (LL : List (Addr × Obj × HO)) (Ex : XK) (hr : Room 0 (A.deeper (envOfC "around" (defScope s_f_around) s.heap.objs.size f (.ref c)))) :
    BXs (Gk K w) ⟨[0], s0, LL⟩ (cxOf (L2.CX PW w) PW w K mg base N_f_around "around" (defScope s_f_around) f (.ref c) A outer s H Ex) (fun cls d _ H => Ex cls d H) (defBody s_f_around) b_f_around := by
  subst hcc
  refine ⟨?_⟩
  refine bx_cons ?_ ?_
  · refine sx_if (tx_cmp op_lt os_lt (ax_s 0 (ax_v ex_int ax_nil))) ?_ ?_
    · refine bx_one ?_
      exact sx_raise (calX_BadSize E) rfl (takes_of rfl rfl rfl rfl)
    · exact bx_nil
  refine bx_one ?_
  exact sx_ret (ex_bin op_fdivW os_div (ax_v (ex_bin (op_add.or op_catL) (os_or2 os_add os_catL) (ax_v (ex_bin (op_mul.or op_mulW) (os_or2 os_mulS os_mul) (ax_v (ex_bin (op_mul.or op_mulW) (os_or2 os_mulS os_mul) (ax_v (ex_bin (op_mul.or op_mulW) (os_or2 os_mulS os_mul) (ax_v ex_int (ax_v ex_int ax_nil))) (ax_s 0 ax_nil))) (ax_v ex_int ax_nil))) (ax_v ex_int ax_nil))) (ax_v (ex_bin (op_mul.or op_mulW) (os_or2 os_mulS os_mul) (ax_v ex_int (ax_v ex_int ax_nil))) ax_nil)))
theorem cal_f_around {w : World} {K : PySem.W.Frag} {mg : Str → Option Value} {base : Heap} (E : EnL w K mg base) : CalF PW w K mg base (Gk K w) 1 "around" op_f_around := by
  obtain ⟨fd, F⟩ := E.def_ (d := d_f_around) (List.mem_of_getElem? (i := 21) rfl) s_f_around
  have bi : Binds K fd ["half"] [] := F.binds fun _ _ _ _ _ _ us hl => match us, hl with | [_], _ => rfl
  have ok := fn_ownCs (P := PW) (w := w) (mg := mg) (base := base) (G := Gk K w) F sc_f_around fun A outer s H s0 LL Ex hr => bx_f_around E _ _ rfl A outer s H s0 LL Ex hr
  exact E.calF (d := d_f_around) F ok (fa_in (by decide +kernel)) bi
abbrev N_m_Pile_init : List Str := ["self", "wide", "rows", "k", "row", "under", "names", "name"]
theorem nd_m_Pile_init : N_m_Pile_init.Nodup := by decide +kernel
theorem sc_m_Pile_init : FnScope N_m_Pile_init ["self", "wide", "rows"] (defScope s_m_Pile_init) := ⟨rfl, rfl, rfl, by decide +kernel, rfl, by decide +kernel, by decide +kernel⟩
theorem bx_m_Pile_init {w : World} {K : PySem.W.Frag} {mg : Str → Option Value} {base : Heap} (E : EnL w K mg base) (f : Addr) (c : Addr) (hcc : c = He.codeOf K d_m_Pile_init.at_) (A : Around) (outer : List Env) (s : Shared) (H : Hp) (s0 : L2.St) (LL : List (Addr × Obj × HO)) (Ex : XK) (hr : Room 2 (A.deeper (envOfC "Pile.__init__" (defScope s_m_Pile_init) s.heap.objs.size f (.ref c)))) :
    BXs (Gk K w) ⟨[0, 1, 2], s0, LL⟩ (cxOf (L2.CX PW w) PW w K mg base N_m_Pile_init "Pile.__init__" (defScope s_m_Pile_init) f (.ref c) A outer s H Ex) (fun cls d _ H => Ex cls d H) (defBody s_m_Pile_init) b_m_Pile_init := by
  subst hcc
  refine ⟨?_⟩
  refine bx_cons ?_ ?_
  · refine sx_if (TW.tx (tw_or (tx_cmp op_lt os_lt (ax_s 1 (ax_v ex_int ax_nil))) (tw_or1 (tx_cmp op_gt os_gt (ax_v (ex_callB call_len os_lenX (fr_len E) (by decide +kernel) (ax_s 2 ax_nil) (pa_c pa_n)) (ax_s 1 ax_nil)))))) ?_ ?_
    · refine bx_one ?_
      exact sx_raise (calX_BadPlan E) rfl (takes_of rfl rfl rfl rfl)
    · exact bx_nil
  refine bx_cons ?_ ?_
  · refine sx_for (passes_of rfl) rfl (pi_enum (by rfl) (fr_enumerate E) (pa_c pa_n)) (ax_v (ex_frz 2) ax_nil) it_en (fun _ => (gx_tup rfl rfl (gsx_cons (gx_name 3 (by decide : ¬ 3 ∈ ([0, 1, 2] : List Nat)) nd_m_Pile_init) (gsx_cons (gx_name 4 (by decide : ¬ 4 ∈ ([0, 1, 2] : List Nat)) nd_m_Pile_init) gsx_nil)))) (fun _ => ?_)
    refine bx_cons ?_ ?_
    · refine sx_if (tx_cmp (op_neD (Room.u64 hr)) os_ne (ax_v (ex_callB call_len os_len (fr_len E) (by decide +kernel) (ax_s 4 ax_nil) (pa_c pa_n)) (ax_v (ex_bin op_sub os_sub (ax_s 1 (ax_s 3 ax_nil))) ax_nil))) ?_ ?_
      · refine bx_one ?_
        exact sx_raise (calX_BadPlan E) rfl (takes_of rfl rfl rfl rfl)
      · exact bx_nil
    refine bx_cons ?_ ?_
    · exact sx_set 5 (ex_if (tx_cmp op_gt os_gt (ax_s 3 (ax_v ex_int ax_nil))) (ex_ix ix_seq os_ix (ax_s 2 (ax_v (ex_bin op_sub os_sub (ax_s 3 (ax_v ex_int ax_nil))) ax_nil))) (ex_bin DL.op_rep os_rep (ax_v (ex_lst ops_lst (ax_v ex_str ax_nil) (pa_c pa_n)) (ax_v (ex_bin (op_add.or op_catL) (os_or2 os_add os_catL) (ax_s 1 (ax_v ex_int ax_nil))) ax_nil)))) (by decide : ¬ 5 ∈ ([0, 1, 2] : List Nat)) nd_m_Pile_init
    refine bx_one ?_
    refine sx_if (tx_val (ex_any (GenH.mk (k := 1) (m := 2) (Ng := ["j", "name", "self", "wide", "rows", "k", "row", "under", "names", "7"]) hr (E.t (d_m_Pile_init.at_, Lq "Pile.__init__" ++ "<genexpr>") (List.mem_of_getElem? (i := 5) rfl)) rfl (gsc_by (by rfl)) ⟨_, Or.inr rfl, En.tabM (p := (d_m_Pile_init.at_, Lq "Pile.__init__" ++ "<genexpr>")) (List.mem_of_getElem? (i := 5) rfl), E.tabU (p := (d_m_Pile_init.at_, Lq "Pile.__init__" ++ "<genexpr>")) (List.mem_of_getElem? (i := 5) rfl)⟩ (pi_enum (by rfl) (fr_enumerate E) (pa_c pa_n)) (by intro _; rfl) (by rfl) (by decide) (by decide) (fun A' s' H' C' cl' cd' fp' pn' N' hr' hJ => ⟨(gx_tup rfl rfl (gsx_cons (gx_name 0 (fun hh => absurd (hJ _ hh) (by decide)) (by decide +kernel : (["j", "name", "self", "wide", "rows", "k", "row", "under", "names", "7"] : List Str).Nodup)) (gsx_cons (gx_name 1 (fun hh => absurd (hJ _ hh) (by decide)) (by decide +kernel : (["j", "name", "self", "wide", "rows", "k", "row", "under", "names", "7"] : List Str).Nodup)) gsx_nil))), .nil, (ex_and (ex_cmp (op_neD (Room.u64 hr')) os_ne (ax_s 1 (ax_v ex_str ax_nil))) (ex_one (ex_or (ex_cmp (op_eqD (Room.u64 hr')) os_eq (ax_v (ex_ix ix_seq os_ix (ax_s 7 (ax_s 0 ax_nil))) (ax_v ex_str ax_nil))) (ex_one (ex_cmp (op_eqD (Room.u64 hr')) os_eq (ax_v (ex_ix ix_seq os_ix (ax_s 7 (ax_v (ex_bin (op_add.or op_catL) (os_or2 os_add os_catL) (ax_s 0 (ax_v ex_int ax_nil))) ax_nil))) (ax_v ex_str ax_nil)))))))⟩) (ax_v (ex_frz 4) ax_nil) it_en) rfl (fr_any E))) ?_ ?_
    · refine bx_one ?_
      exact sx_raise (calX_BadPlan E) rfl (takes_of rfl rfl rfl rfl)
    · exact bx_nil
  refine bx_cons ?_ ?_
  · exact sx_setLc2 6 rfl nd_m_Pile_init (by decide : ¬ 6 ∈ ([0, 1, 2] : List Nat)) pi_a (blkOk_by (own := [("row", 4), ("name", 7)]) (by rfl)) (fun s' H' C' cl' fp' => pi_a) (by decide) ⟨fun N' hv' s' H' C' cl' fp' => (gx_name 4 (hv' _ (by simp)) nd_m_Pile_init), fun N' hv' s' H' C' cl' fp' => .nil, fun N' hv' s' H' C' cl' fp' => (ax_v (ex_frz 4) ax_nil), fun N' hv' s' H' C' cl' fp' => (gx_name 7 (hv' _ (by simp)) nd_m_Pile_init), fun N' hv' s' H' C' cl' fp' => (.one (tx_cmp (op_neD (Room.u64 hr)) os_ne (ax_s 7 (ax_v ex_str ax_nil)))), fun N' hv' s' H' C' cl' fp' => (ex_frz 7)⟩ (ax_v (ex_frz 2) ax_nil) it_a it_a rfl
  refine bx_cons ?_ ?_
  · refine sx_if (tx_cmp (op_neD (Room.u64 hr)) os_ne (ax_v (ex_callB DL.call_lenD os_lenD (fr_len E) (by decide +kernel) (ax_v (ex_callT (call_dictP rfl) os_dictP (fr_dict E) (by decide +kernel) (ax_v (ex_lc rfl nd_m_Pile_init pi_a (blkOk_by (own := [("name", 7)]) (by rfl)) ⟨fun N' hv' s' H' C' cl' fp' => (gx_name 7 (hv' _ (by simp)) nd_m_Pile_init), fun N' hv' s' H' C' cl' fp' => .nil, fun N' hv' s' H' C' cl' fp' => (ex_tup ops_tup (ax_s 7 (ax_v ex_int ax_nil)) (pa_c (pa_c pa_n)))⟩ (ax_v (ex_frz 6) ax_nil) it_a) ax_nil) (pa_c pa_n)) ax_nil) (pa_c pa_n)) (ax_v (ex_callB call_len os_len (fr_len E) (by decide +kernel) (ax_s 6 ax_nil) (pa_c pa_n)) ax_nil))) ?_ ?_
    · refine bx_one ?_
      exact sx_raise (calX_BadPlan E) rfl (takes_of rfl rfl rfl rfl)
    · exact bx_nil
  refine bx_cons ?_ ?_
  · exact sx_fld 0 14 0 rfl (cOk14 E) rfl (ex_frz 1)
  refine bx_one ?_
  exact sx_fld 0 14 1 rfl (cOk14 E) rfl (ex_callT call_tuple_of os_tuple (fr_tuple E) (by decide +kernel) (ax_v (ex_lc rfl nd_m_Pile_init pi_a (blkOk_by (own := [("row", 4)]) (by rfl)) ⟨fun N' hv' s' H' C' cl' fp' => (gx_name 4 (hv' _ (by simp)) nd_m_Pile_init), fun N' hv' s' H' C' cl' fp' => .nil, fun N' hv' s' H' C' cl' fp' => (ex_callT call_tupleK os_tupleK (fr_tuple E) (by decide +kernel) (ax_s 4 ax_nil) (pa_c pa_n))⟩ (ax_v (ex_frz 2) ax_nil) it_a) ax_nil) (pa_c pa_n))
theorem cal_m_Pile_init {w : World} {K : PySem.W.Frag} {mg : Str → Option Value} {base : Heap} (E : EnL w K mg base) : CalC PW w K mg base (Gk K w) 3 "Pile" 14 op_m_Pile_init := by
  obtain ⟨fd, F⟩ := E.def_ (d := d_m_Pile_init) (List.mem_of_getElem? (i := 22) rfl) s_m_Pile_init
  have bi : Binds K fd ["self", "wide", "rows"] [] := F.binds fun _ _ _ _ _ _ us hl => match us, hl with | [_, _, _], _ => rfl
  have ok := fn_ownCs (P := PW) (w := w) (mg := mg) (base := base) (G := Gk K w) F sc_m_Pile_init fun A outer s H s0 LL Ex hr => bx_m_Pile_init E _ _ rfl A outer s H s0 LL Ex hr
  exact E.calC F ok rfl (fa_in (by decide +kernel)) (fa_in (by decide +kernel)) bi
abbrev N_m_Pile_casks : List Str := ["self", "row", "name"]
theorem nd_m_Pile_casks : N_m_Pile_casks.Nodup := by decide +kernel
theorem sc_m_Pile_casks : FnScope N_m_Pile_casks ["self"] (defScope s_m_Pile_casks) := ⟨rfl, rfl, rfl, by decide +kernel, rfl, by decide +kernel, by decide +kernel⟩
theorem bx_m_Pile_casks {w : World} {K : PySem.W.Frag} {mg : Str → Option Value} {base : Heap} (E : EnL w K mg base) (f : Addr) (c : Addr) (hcc : c = He.codeOf K d_m_Pile_casks.at_) (A : Around) (outer : List Env) (s : Shared) (H : Hp) (s0 : L2.St) (LL : List (Addr × Obj × HO)) (Ex : XK) (hr : Room 0 (A.deeper (envOfC "Pile.casks" (defScope s_m_Pile_casks) s.heap.objs.size f (.ref c)))) :
    BXs (Gk K w) ⟨[0], s0, LL⟩ (cxOf (L2.CX PW w) PW w K mg base N_m_Pile_casks "Pile.casks" (defScope s_m_Pile_casks) f (.ref c) A outer s H Ex) (fun cls d _ H => Ex cls d H) (defBody s_m_Pile_casks) b_m_Pile_casks := by
  subst hcc
  refine ⟨?_⟩
  refine bx_one ?_
  exact sx_ret (ex_callT call_tuple_of os_tuple (fr_tuple E) (by decide +kernel) (ax_v (ex_lc2 rfl nd_m_Pile_casks pi_a (blkOk_by (own := [("row", 1), ("name", 2)]) (by rfl)) (fun s' H' C' cl' fp' => pi_a) (by decide) ⟨fun N' hv' s' H' C' cl' fp' => (gx_name 1 (hv' _ (by simp)) nd_m_Pile_casks), fun N' hv' s' H' C' cl' fp' => .nil, fun N' hv' s' H' C' cl' fp' => (ax_v (ex_frz 1) ax_nil), fun N' hv' s' H' C' cl' fp' => (gx_name 2 (hv' _ (by simp)) nd_m_Pile_casks), fun N' hv' s' H' C' cl' fp' => (.one (tx_cmp (op_neD (Room.u64 hr)) os_ne (ax_s 2 (ax_v ex_str ax_nil)))), fun N' hv' s' H' C' cl' fp' => (ex_frz 2)⟩ (ax_v (ex_fld (os_fld (c := 14) (k := 1) (cOk14 E) rfl) (ax_s 0 ax_nil)) ax_nil) it_a it_a) ax_nil) (pa_c pa_n))
theorem cal_m_Pile_casks {w : World} {K : PySem.W.Frag} {mg : Str → Option Value} {base : Heap} (E : EnL w K mg base) : CalM PW w K mg base (Gk K w) 1 "casks" 14 op_m_Pile_casks := by
  obtain ⟨fd, F⟩ := E.def_ (d := d_m_Pile_casks) (List.mem_of_getElem? (i := 24) rfl) s_m_Pile_casks
  have bi : Binds K fd ["self"] [] := F.binds fun _ _ _ _ _ _ us hl => match us, hl with | [_], _ => rfl
  have ok := fn_ownCs (P := PW) (w := w) (mg := mg) (base := base) (G := Gk K w) F sc_m_Pile_casks fun A outer s H s0 LL Ex hr => bx_m_Pile_casks E _ _ rfl A outer s H s0 LL Ex hr
  exact E.calM F ok rfl (fa_in (by decide +kernel)) (fa_in (by decide +kernel)) bi (by decide +kernel : ∀ f ∈ fl 14, f ≠ "casks")
abbrev N_m_Pile_open_spots : List Str := ["self", "found", "k", "j", "there", "holds"]
theorem nd_m_Pile_open_spots : N_m_Pile_open_spots.Nodup := by decide +kernel
theorem sc_m_Pile_open_spots : FnScope N_m_Pile_open_spots ["self"] (defScope s_m_Pile_open_spots) := ⟨rfl, rfl, rfl, by decide +kernel, rfl, by decide +kernel, by decide +kernel⟩
theorem bx_m_Pile_open_spots {w : World} {K : PySem.W.Frag} {mg : Str → Option Value} {base : Heap} (E : EnL w K mg base) (f : Addr) (c : Addr) (hcc : c = He.codeOf K d_m_Pile_open_spots.at_) (A : Around) (outer : List Env) (s : Shared) (H : Hp) (s0 : L2.St) (LL : List (Addr × Obj × HO)) (Ex : XK) (hr : Room 0 (A.deeper (envOfC "Pile.open_spots" (defScope s_m_Pile_open_spots) s.heap.objs.size f (.ref c)))) :
    BXs (Gk K w) ⟨[0], s0, LL⟩ (cxOf (L2.CX PW w) PW w K mg base N_m_Pile_open_spots "Pile.open_spots" (defScope s_m_Pile_open_spots) f (.ref c) A outer s H Ex) (fun cls d _ H => Ex cls d H) (defBody s_m_Pile_open_spots) b_m_Pile_open_spots := by
  subst hcc
  refine ⟨?_⟩
  refine bx_cons ?_ ?_
  · exact sx_set 1 (ex_lst ops_lst ax_nil pa_n) (by decide : ¬ 1 ∈ ([0] : List Nat)) nd_m_Pile_open_spots
  refine bx_cons ?_ ?_
  · refine sx_for (passes_of rfl) rfl (pi_range1 (by rfl) (fr_range E) (pa_c pa_n)) (ax_v (ex_callB (call_min2 rfl) os_min2 (fr_min E) (by decide +kernel) (ax_v (ex_fld (os_fld (c := 14) (k := 0) (cOk14 E) rfl) (ax_s 0 ax_nil)) (ax_v (ex_bin (op_add.or op_catL) (os_or2 os_add os_catL) (ax_v (ex_callB call_len os_len (fr_len E) (by decide +kernel) (ax_v (ex_fld (os_fld (c := 14) (k := 1) (cOk14 E) rfl) (ax_s 0 ax_nil)) ax_nil) (pa_c pa_n)) (ax_v ex_int ax_nil))) ax_nil)) (pa_c (pa_c pa_n))) ax_nil) it_r1 (fun _ => (gx_name 2 (by decide : ¬ 2 ∈ ([0] : List Nat)) nd_m_Pile_open_spots)) (fun _ => ?_)
    refine bx_one ?_
    refine sx_for (passes_of rfl) rfl (pi_range1 (by rfl) (fr_range E) (pa_c pa_n)) (ax_v (ex_bin op_sub os_sub (ax_v (ex_fld (os_fld (c := 14) (k := 0) (cOk14 E) rfl) (ax_s 0 ax_nil)) (ax_s 2 ax_nil))) ax_nil) it_r1 (fun _ => (gx_name 3 (by decide : ¬ 3 ∈ ([0] : List Nat)) nd_m_Pile_open_spots)) (fun _ => ?_)
    refine bx_cons ?_ ?_
    · exact sx_set 4 (ex_if (tx_cmp op_lt os_lt (ax_s 2 (ax_v (ex_callB call_len os_len (fr_len E) (by decide +kernel) (ax_v (ex_fld (os_fld (c := 14) (k := 1) (cOk14 E) rfl) (ax_s 0 ax_nil)) ax_nil) (pa_c pa_n)) ax_nil))) (ex_ix ix_seq os_ix (ax_v (ex_ix ix_seq os_ix (ax_v (ex_fld (os_fld (c := 14) (k := 1) (cOk14 E) rfl) (ax_s 0 ax_nil)) (ax_s 2 ax_nil))) (ax_s 3 ax_nil))) ex_str) (by decide : ¬ 4 ∈ ([0] : List Nat)) nd_m_Pile_open_spots
    refine bx_cons ?_ ?_
    · exact sx_set 5 (ex_or (ex_cmp (op_eqD (Room.u64 hr)) os_eq (ax_s 2 (ax_v ex_int ax_nil))) (ex_one (ex_and (ex_cmp (op_neD (Room.u64 hr)) os_ne (ax_v (ex_ix ix_seq os_ix (ax_v (ex_ix ix_seq os_ix (ax_v (ex_fld (os_fld (c := 14) (k := 1) (cOk14 E) rfl) (ax_s 0 ax_nil)) (ax_v (ex_bin op_sub os_sub (ax_s 2 (ax_v ex_int ax_nil))) ax_nil))) (ax_s 3 ax_nil))) (ax_v ex_str ax_nil))) (ex_one (ex_cmp (op_neD (Room.u64 hr)) os_ne (ax_v (ex_ix ix_seq os_ix (ax_v (ex_ix ix_seq os_ix (ax_v (ex_fld (os_fld (c := 14) (k := 1) (cOk14 E) rfl) (ax_s 0 ax_nil)) (ax_v (ex_bin op_sub os_sub (ax_s 2 (ax_v ex_int ax_nil))) ax_nil))) (ax_v (ex_bin (op_add.or op_catL) (os_or2 os_add os_catL) (ax_s 3 (ax_v ex_int ax_nil))) ax_nil))) (ax_v ex_str ax_nil))))))) (by decide : ¬ 5 ∈ ([0] : List Nat)) nd_m_Pile_open_spots
    refine bx_one ?_
    refine sx_if (TW.tx (tw_and (tx_cmp (op_eqD (Room.u64 hr)) os_eq (ax_s 4 (ax_v ex_str ax_nil))) (tw_and1 (tx_val (ex_frz 5))))) ?_ ?_
    · refine bx_one ?_
      exact sx_exp (ex_bm rfl PySem.F.plainAttrs_list PySem.F.slot_list_append PySem.F.type_list_append mt_append os_app (ax_s 1 ax_nil) (ax_v (ex_tup ops_tup (ax_s 2 (ax_s 3 ax_nil)) (pa_c (pa_c pa_n))) ax_nil) (pa_c pa_n))
    · exact bx_nil
  refine bx_one ?_
  exact sx_ret (ex_callT call_tuple_of os_tuple (fr_tuple E) (by decide +kernel) (ax_s 1 ax_nil) (pa_c pa_n))
theorem cal_m_Pile_open_spots {w : World} {K : PySem.W.Frag} {mg : Str → Option Value} {base : Heap} (E : EnL w K mg base) : CalM PW w K mg base (Gk K w) 1 "open_spots" 14 op_m_Pile_open_spots := by
  obtain ⟨fd, F⟩ := E.def_ (d := d_m_Pile_open_spots) (List.mem_of_getElem? (i := 25) rfl) s_m_Pile_open_spots
  have bi : Binds K fd ["self"] [] := F.binds fun _ _ _ _ _ _ us hl => match us, hl with | [_], _ => rfl
  have ok := fn_ownCs (P := PW) (w := w) (mg := mg) (base := base) (G := Gk K w) F sc_m_Pile_open_spots fun A outer s H s0 LL Ex hr => bx_m_Pile_open_spots E _ _ rfl A outer s H s0 LL Ex hr
  exact E.calM F ok rfl (fa_in (by decide +kernel)) (fa_in (by decide +kernel)) bi (by decide +kernel : ∀ f ∈ fl 14, f ≠ "open_spots")
abbrev N_m_Pile_laid : List Str := ["self", "name", "row", "place", "rows", "line"]
theorem nd_m_Pile_laid : N_m_Pile_laid.Nodup := by decide +kernel
theorem sc_m_Pile_laid : FnScope N_m_Pile_laid ["self", "name", "row", "place"] (defScope s_m_Pile_laid) := ⟨rfl, rfl, rfl, by decide +kernel, rfl, by decide +kernel, by decide +kernel⟩
theorem bx_m_Pile_laid {w : World} {K : PySem.W.Frag} {mg : Str → Option Value} {base : Heap} (E : EnL w K mg base) (f : Addr) (c : Addr) (hcc : c = He.codeOf K d_m_Pile_laid.at_) (A : Around) (outer : List Env) (s : Shared) (H : Hp) (s0 : L2.St) (LL : List (Addr × Obj × HO)) (Ex : XK) (hr : Room 4 (A.deeper (envOfC "Pile.laid" (defScope s_m_Pile_laid) s.heap.objs.size f (.ref c)))) :
    BXs (Gk K w) ⟨[0, 1, 2, 3], s0, LL⟩ (cxOf (L2.CX PW w) PW w K mg base N_m_Pile_laid "Pile.laid" (defScope s_m_Pile_laid) f (.ref c) A outer s H Ex) (fun cls d _ H => Ex cls d H) (defBody s_m_Pile_laid) b_m_Pile_laid := by
  subst hcc
  refine ⟨?_⟩
  refine bx_cons ?_ ?_
  · refine sx_if (tx_cmp (op_tlNotIn (Room.u65 hr)) (os_tlIn true) (ax_v (ex_tup ops_tup (ax_s 2 (ax_s 3 ax_nil)) (pa_c (pa_c pa_n))) (ax_v (ex_meth0 (cal_m_Pile_open_spots E) (hr.mono (by decide : 1 ≤ 4)) (takes_of rfl rfl rfl rfl) (ax_s 0 ax_nil)) ax_nil))) ?_ ?_
    · refine bx_one ?_
      exact sx_raise (calX_NoRoom E) rfl (takes_of rfl rfl rfl rfl)
    · exact bx_nil
  refine bx_cons ?_ ?_
  · refine sx_if (TW.tx (tw_or (tx_cmp op_in_seq (os_tIn false) (ax_s 1 (ax_v (ex_meth0 (cal_m_Pile_casks E) (hr.mono (by decide : 1 ≤ 4)) (takes_of rfl rfl rfl rfl) (ax_s 0 ax_nil)) ax_nil))) (tw_or1 (tx_cmp (op_eqD (Room.u64 hr)) os_eq (ax_s 1 (ax_v ex_str ax_nil)))))) ?_ ?_
    · refine bx_one ?_
      exact sx_raise (calX_BadDeed E) rfl (takes_of rfl rfl rfl rfl)
    · exact bx_nil
  refine bx_cons ?_ ?_
  · exact sx_setLc 4 rfl nd_m_Pile_laid (by decide : ¬ 4 ∈ ([0, 1, 2, 3] : List Nat)) pi_a (blkOk_by (own := [("line", 5)]) (by rfl)) ⟨fun N' hv' s' H' C' cl' fp' => (gx_name 5 (hv' _ (by simp)) nd_m_Pile_laid), fun N' hv' s' H' C' cl' fp' => .nil, fun N' hv' s' H' C' cl' fp' => (ex_callT call_list_of os_list (fr_list E) (by decide +kernel) (ax_s 5 ax_nil) (pa_c pa_n))⟩ (ax_v (ex_fld (os_fld (c := 14) (k := 1) (cOk14 E) rfl) (ax_s 0 ax_nil)) ax_nil) it_a rfl
  refine bx_cons ?_ ?_
  · refine sx_if (tx_cmp (op_eqD (Room.u64 hr)) os_eq (ax_s 2 (ax_v (ex_callB call_len os_lenX (fr_len E) (by decide +kernel) (ax_s 4 ax_nil) (pa_c pa_n)) ax_nil))) ?_ ?_
    · refine bx_one ?_
      exact sx_exp (ex_bm rfl PySem.F.plainAttrs_list PySem.F.slot_list_append PySem.F.type_list_append mt_append os_appO (ax_s 4 ax_nil) (ax_v (ex_bin DL.op_rep os_rep (ax_v (ex_lst ops_lst (ax_v ex_str ax_nil) (pa_c pa_n)) (ax_v (ex_bin op_sub os_sub (ax_v (ex_fld (os_fld (c := 14) (k := 0) (cOk14 E) rfl) (ax_s 0 ax_nil)) (ax_s 2 ax_nil))) ax_nil))) ax_nil) (pa_c pa_n))
    · exact bx_nil
  refine bx_cons ?_ ?_
  · exact sx_setIx 4 2 3 rfl (ex_frz 1)
  refine bx_one ?_
  exact sx_ret (ex_make (cal_m_Pile_init E) (hr.mono (by decide : 4 ≤ 4)) (takes_of rfl rfl rfl rfl) (ax_v (ex_fld (os_fld (c := 14) (k := 0) (cOk14 E) rfl) (ax_s 0 ax_nil)) (ax_v (ex_frz 4) ax_nil)) (pa_c (pa_c pa_n)))
theorem cal_m_Pile_laid {w : World} {K : PySem.W.Frag} {mg : Str → Option Value} {base : Heap} (E : EnL w K mg base) : CalM PW w K mg base (Gk K w) 5 "laid" 14 op_m_Pile_laid := by
  obtain ⟨fd, F⟩ := E.def_ (d := d_m_Pile_laid) (List.mem_of_getElem? (i := 26) rfl) s_m_Pile_laid
  have bi : Binds K fd ["self", "name", "row", "place"] [] := F.binds fun _ _ _ _ _ _ us hl => match us, hl with | [_, _, _, _], _ => rfl
  have ok := fn_ownCs (P := PW) (w := w) (mg := mg) (base := base) (G := Gk K w) F sc_m_Pile_laid fun A outer s H s0 LL Ex hr => bx_m_Pile_laid E _ _ rfl A outer s H s0 LL Ex hr
  exact E.calM F ok rfl (fa_in (by decide +kernel)) (fa_in (by decide +kernel)) bi (by decide +kernel : ∀ f ∈ fl 14, f ≠ "laid")
abbrev N_f_filled : List Str := ["wide", "names", "pile", "name", "spots"]
theorem nd_f_filled : N_f_filled.Nodup := by decide +kernel
theorem sc_f_filled : FnScope N_f_filled ["wide", "names"] (defScope s_f_filled) := ⟨rfl, rfl, rfl, by decide +kernel, rfl, by decide +kernel, by decide +kernel⟩
theorem bx_f_filled {w : World} {K : PySem.W.Frag} {mg : Str → Option Value} {base : Heap} (E : EnL w K mg base) (f : Addr) (c : Addr) (hcc : c = He.codeOf K d_f_filled.at_) (A : Around) (outer : List Env) (s : Shared) (H : Hp) (s0 : L2.St) (LL : List (Addr × Obj × HO)) (Ex : XK) (hr : Room 5 (A.deeper (envOfC "filled" (defScope s_f_filled) s.heap.objs.size f (.ref c)))) :
    BXs (Gk K w) ⟨[0, 1], s0, LL⟩ (cxOf (L2.CX PW w) PW w K mg base N_f_filled "filled" (defScope s_f_filled) f (.ref c) A outer s H Ex) (fun cls d _ H => Ex cls d H) (defBody s_f_filled) b_f_filled := by
  subst hcc
  refine ⟨?_⟩
  refine bx_cons ?_ ?_
  · exact sx_set 2 (ex_make (cal_m_Pile_init E) (hr.mono (by decide : 4 ≤ 5)) (takes_of rfl rfl rfl rfl) (ax_s 0 (ax_v (ex_lst ops_lst ax_nil pa_n) ax_nil)) (pa_c (pa_c pa_n))) (by decide : ¬ 2 ∈ ([0, 1] : List Nat)) nd_f_filled
  refine bx_cons ?_ ?_
  · refine sx_for (passes_of rfl) rfl pi_a (ax_v (ex_frz 1) ax_nil) it_a (fun _ => (gx_name 3 (by decide : ¬ 3 ∈ ([0, 1] : List Nat)) nd_f_filled)) (fun _ => ?_)
    refine bx_cons ?_ ?_
    · exact sx_set 4 (ex_meth0 (cal_m_Pile_open_spots E) (hr.mono (by decide : 1 ≤ 5)) (takes_of rfl rfl rfl rfl) (ax_s 2 ax_nil)) (by decide : ¬ 4 ∈ ([0, 1] : List Nat)) nd_f_filled
    refine bx_cons ?_ ?_
    · refine sx_if (tx_cmp (op_eqD (Room.u64 hr)) os_eq (ax_s 4 (ax_v (ex_tup ops_tup ax_nil pa_n) ax_nil))) ?_ ?_
      · refine bx_one ?_
        exact sx_raise (calX_NoRoom E) rfl (takes_of rfl rfl rfl rfl)
      · exact bx_nil
    refine bx_one ?_
    exact sx_set 2 (ex_meth (cal_m_Pile_laid E) (hr.mono (by decide : 5 ≤ 5)) (takes_of rfl rfl rfl rfl) (ax_s 2 ax_nil) (ax_s 3 (ax_v (ex_ix ix_seq os_ix (ax_v (ex_ix ix_seq os_ix (ax_s 4 (ax_v ex_int ax_nil))) (ax_v ex_int ax_nil))) (ax_v (ex_ix ix_seq os_ix (ax_v (ex_ix ix_seq os_ix (ax_s 4 (ax_v ex_int ax_nil))) (ax_v ex_int ax_nil))) ax_nil))) (pa_c (pa_c (pa_c pa_n)))) (by decide : ¬ 2 ∈ ([0, 1] : List Nat)) nd_f_filled
  refine bx_one ?_
  exact sx_ret (ex_mov 2)
theorem cal_f_filled {w : World} {K : PySem.W.Frag} {mg : Str → Option Value} {base : Heap} (E : EnL w K mg base) : CalF PW w K mg base (Gk K w) 6 "filled" op_f_filled := by
  obtain ⟨fd, F⟩ := E.def_ (d := d_f_filled) (List.mem_of_getElem? (i := 27) rfl) s_f_filled
  have bi : Binds K fd ["wide", "names"] [] := F.binds fun _ _ _ _ _ _ us hl => match us, hl with | [_, _], _ => rfl
  have ok := fn_ownCs (P := PW) (w := w) (mg := mg) (base := base) (G := Gk K w) F sc_f_filled fun A outer s H s0 LL Ex hr => bx_f_filled E _ _ rfl A outer s H s0 LL Ex hr
  exact E.calF (d := d_f_filled) F ok (fa_in (by decide +kernel)) bi
abbrev N_f_law_dice : List Str := ["cell"]
theorem sc_f_law_dice : FnScope N_f_law_dice ["cell"] (defScope s_f_law_dice) := ⟨rfl, rfl, rfl, by decide +kernel, rfl, by decide +kernel, by decide +kernel⟩
theorem bx_f_law_dice {w : World} {K : PySem.W.Frag} {mg : Str → Option Value} {base : Heap} (E : EnL w K mg base) (f : Addr) (c : Addr) (hcc : c = He.codeOf K d_f_law_dice.at_) (A : Around) (outer : List Env) (s : Shared) (H : Hp) (s0 : L2.St) (LL : List (Addr × Obj × HO)) (Ex : XK) (hr : Room 0 (A.deeper (envOfC "_law_dice" (defScope s_f_law_dice) s.heap.objs.size f (.ref c)))) :
    BXs (Gk K w) ⟨[0], s0, LL⟩ (cxOf (L2.CX PW w) PW w K mg base N_f_law_dice "_law_dice" (defScope s_f_law_dice) f (.ref c) A outer s H Ex) (fun cls d _ H => Ex cls d H) (defBody s_f_law_dice) b_f_law_dice := by
  subst hcc
  refine ⟨?_⟩
  refine bx_cons ?_ ?_
  · refine sx_if (tx_chain ci_lt ci_lt (ex_bin op_sub os_sub (ax_v ex_int (ax_v ex_int ax_nil))) (ex_frz 0) ex_int) ?_ ?_
    · refine bx_one ?_
      exact sx_ret (ex_lst ops_lst (ax_v (ex_callB call_abs os_abs (fr_abs E) (by decide +kernel) (ax_s 0 ax_nil) (pa_c pa_n)) (ax_v ex_int (ax_v ex_int ax_nil))) (pa_c (pa_c (pa_c pa_n))))
    · exact bx_nil
  refine bx_one ?_
  exact sx_ret (ex_lst ops_lst (ax_s 0 (ax_v (ex_bin (op_add.or op_catL) (os_or2 os_add os_catL) (ax_v ex_int (ax_v (ex_bin op_mod os_mod (ax_v (ex_callT call_int1 os_int (fr_int E) (by decide +kernel) (ax_s 0 ax_nil) (pa_c pa_n)) (ax_v ex_int ax_nil))) ax_nil))) (ax_v (ex_callT call_int1 os_int (fr_int E) (by decide +kernel) (ax_v (ex_cmp op_ge os_ge (ax_s 0 (ax_v (ex_bin op_pow os_pow (ax_v ex_int (ax_v ex_int ax_nil))) ax_nil))) ax_nil) (pa_c pa_n)) ax_nil))) (pa_c (pa_c (pa_c pa_n))))
theorem cal_f_law_dice {w : World} {K : PySem.W.Frag} {mg : Str → Option Value} {base : Heap} (E : EnL w K mg base) : CalF PW w K mg base (Gk K w) 1 "_law_dice" op_f_law_dice := by
  obtain ⟨fd, F⟩ := E.def_ (d := d_f_law_dice) (List.mem_of_getElem? (i := 28) rfl) s_f_law_dice
  have bi : Binds K fd ["cell"] [] := F.binds fun _ _ _ _ _ _ us hl => match us, hl with | [_], _ => rfl
  have ok := fn_ownCs (P := PW) (w := w) (mg := mg) (base := base) (G := Gk K w) F sc_f_law_dice fun A outer s H s0 LL Ex hr => bx_f_law_dice E _ _ rfl A outer s H s0 LL Ex hr
  exact E.calF (d := d_f_law_dice) F ok (fa_in (by decide +kernel)) bi
abbrev N_f_law_roll : List Str := ["dice", "many", "found"]
theorem nd_f_law_roll : N_f_law_roll.Nodup := by decide +kernel
theorem sc_f_law_roll : FnScope N_f_law_roll ["dice", "many"] (defScope s_f_law_roll) := ⟨rfl, rfl, rfl, by decide +kernel, rfl, by decide +kernel, by decide +kernel⟩
theorem bx_f_law_roll {w : World} {K : PySem.W.Frag} {mg : Str → Option Value} {base : Heap} (E : EnL w K mg base) (f : Addr) (c : Addr) (hcc : c = He.codeOf K d_f_law_roll.at_) (A : Around) (outer : List Env) (s : Shared) (H : Hp) (s0 : L2.St) (LL : List (Addr × Obj × HO)) (Ex : XK) (hr : Room 0 (A.deeper (envOfC "_law_roll" (defScope s_f_law_roll) s.heap.objs.size f (.ref c)))) :
    BXs (Gk K w) ⟨[0, 1], s0, LL⟩ (cxOf (L2.CX PW w) PW w K mg base N_f_law_roll "_law_roll" (defScope s_f_law_roll) f (.ref c) A outer s H Ex) (fun cls d _ H => Ex cls d H) (defBody s_f_law_roll) b_f_law_roll := by
  subst hcc
  refine ⟨?_⟩
  refine bx_cons ?_ ?_
  · refine sx_if (TW.tx (tw_or (tx_cmp (op_eqD (Room.u64 hr)) os_eq (ax_v (ex_ix ix_seq os_ix (ax_s 0 (ax_v ex_int ax_nil))) (ax_v ex_int ax_nil))) (tw_or1 (TW.tx (tw_and (tx_cmp (op_eqD (Room.u64 hr)) os_eq (ax_v (ex_ix ix_seq os_ix (ax_s 0 (ax_v ex_int ax_nil))) (ax_v ex_int ax_nil))) (tw_and1 (tx_cmp op_gt os_gt (ax_v (ex_ix ix_seq os_ix (ax_s 0 (ax_v ex_int ax_nil))) (ax_v ex_int ax_nil))))))))) ?_ ?_
    · refine bx_cons ?_ ?_
      · exact sx_set 2 (ex_bin op_mod os_mod (ax_v (ex_callT call_int1 os_int (fr_int E) (by decide +kernel) (ax_v (ex_ix ix_seq os_ix (ax_s 0 (ax_v ex_int ax_nil))) ax_nil) (pa_c pa_n)) (ax_s 1 ax_nil))) (by decide : ¬ 2 ∈ ([0, 1] : List Nat)) nd_f_law_roll
      refine bx_cons ?_ ?_
      · exact sx_sub set_list os_setL (ax_v (ex_bin op_fdivW os_div (ax_v (ex_ix ix_seq os_ix (ax_s 0 (ax_v ex_int ax_nil))) (ax_s 1 ax_nil))) (ax_s 0 (ax_v ex_int ax_nil)))
      refine bx_one ?_
      exact sx_ret (ex_mov 2)
    · exact bx_nil
  refine bx_cons ?_ ?_
  · exact sx_sub set_list os_setL (ax_v ex_int (ax_s 0 (ax_v ex_int ax_nil)))
  refine bx_cons ?_ ?_
  · exact sx_sub set_list os_setL (ax_v (ex_bin op_mod os_mod (ax_v (ex_callT call_int1 os_int (fr_int E) (by decide +kernel) (ax_v (ex_bin (op_add.or op_catL) (os_or2 os_add os_catL) (ax_v (ex_bin (op_add.or op_catL) (os_or2 os_add os_catL) (ax_v (ex_bin (op_mul.or op_mulW) (os_or2 os_mulS os_mul) (ax_v (ex_ix ix_seq os_ix (ax_s 0 (ax_v ex_int ax_nil))) (ax_v ex_int ax_nil))) (ax_v (ex_bin (op_mul.or op_mulW) (os_or2 os_mulS os_mul) (ax_v (ex_ix ix_seq os_ix (ax_s 0 (ax_v ex_int ax_nil))) (ax_v ex_int ax_nil))) ax_nil))) (ax_v ex_int ax_nil))) ax_nil) (pa_c pa_n)) (ax_v ex_int ax_nil))) (ax_s 0 (ax_v ex_int ax_nil)))
  refine bx_cons ?_ ?_
  · exact sx_sub set_list os_setL (ax_v (ex_bin (op_add.or op_catL) (os_or2 os_add os_catL) (ax_v (ex_ix ix_seq os_ix (ax_s 0 (ax_v ex_int ax_nil))) (ax_v ex_int ax_nil))) (ax_s 0 (ax_v ex_int ax_nil)))
  refine bx_one ?_
  exact sx_ret (ex_bin op_mod os_mod (ax_v (ex_callT call_int1 os_int (fr_int E) (by decide +kernel) (ax_v (ex_bin (op_add.or op_catL) (os_or2 os_add os_catL) (ax_v (ex_bin op_fdivW os_div (ax_v (ex_ix ix_seq os_ix (ax_s 0 (ax_v ex_int ax_nil))) (ax_v ex_int ax_nil))) (ax_v (ex_ix ix_seq os_ix (ax_s 0 (ax_v ex_int ax_nil))) ax_nil))) ax_nil) (pa_c pa_n)) (ax_s 1 ax_nil)))
theorem cal_f_law_roll {w : World} {K : PySem.W.Frag} {mg : Str → Option Value} {base : Heap} (E : EnL w K mg base) : CalF PW w K mg base (Gk K w) 1 "_law_roll" op_f_law_roll := by
  obtain ⟨fd, F⟩ := E.def_ (d := d_f_law_roll) (List.mem_of_getElem? (i := 29) rfl) s_f_law_roll
  have bi : Binds K fd ["dice", "many"] [] := F.binds fun _ _ _ _ _ _ us hl => match us, hl with | [_, _], _ => rfl
  have ok := fn_ownCs (P := PW) (w := w) (mg := mg) (base := base) (G := Gk K w) F sc_f_law_roll fun A outer s H s0 LL Ex hr => bx_f_law_roll E _ _ rfl A outer s H s0 LL Ex hr
  exact E.calF (d := d_f_law_roll) F ok (fa_in (by decide +kernel)) bi
abbrev N_f_law_rounds : List Str := ["script", "most", "cells", "cell"]
theorem nd_f_law_rounds : N_f_law_rounds.Nodup := by decide +kernel
theorem sc_f_law_rounds : FnScope N_f_law_rounds ["script", "most"] (defScope s_f_law_rounds) := ⟨rfl, rfl, rfl, by decide +kernel, rfl, by decide +kernel, by decide +kernel⟩
theorem bx_f_law_rounds {w : World} {K : PySem.W.Frag} {mg : Str → Option Value} {base : Heap} (E : EnL w K mg base) (f : Addr) (c : Addr) (hcc : c = He.codeOf K d_f_law_rounds.at_) (A : Around) (outer : List Env) (s : Shared) (H : Hp) (s0 : L2.St) (LL : List (Addr × Obj × HO)) (Ex : XK) (hr : Room 1 (A.deeper (envOfC "_law_rounds" (defScope s_f_law_rounds) s.heap.objs.size f (.ref c)))) :
    BXs (Gk K w) ⟨[0, 1], s0, LL⟩ (cxOf (L2.CX PW w) PW w K mg base N_f_law_rounds "_law_rounds" (defScope s_f_law_rounds) f (.ref c) A outer s H Ex) (fun cls d _ H => Ex cls d H) (defBody s_f_law_rounds) b_f_law_rounds := by
  subst hcc
  refine ⟨?_⟩
  refine bx_cons ?_ ?_
  · exact sx_set 2 (ex_sl rfl (ex_frz 0) .none (.some (ex_frz 1))) (by decide : ¬ 2 ∈ ([0, 1] : List Nat)) nd_f_law_rounds
  refine bx_cons ?_ ?_
  · refine sx_if (tx_cmp (op_eqD (Room.u64 hr)) os_eq (ax_s 2 (ax_v (ex_lst ops_lst ax_nil pa_n) ax_nil))) ?_ ?_
    · refine bx_one ?_
      exact sx_set 2 (ex_lst ops_lst (ax_v ex_int ax_nil) (pa_c pa_n)) (by decide : ¬ 2 ∈ ([0, 1] : List Nat)) nd_f_law_rounds
    · exact bx_nil
  refine bx_one ?_
  exact sx_ret (ex_lc rfl nd_f_law_rounds pi_a (blkOk_by (own := [("cell", 3)]) (by rfl)) ⟨fun N' hv' s' H' C' cl' fp' => (gx_name 3 (hv' _ (by simp)) nd_f_law_rounds), fun N' hv' s' H' C' cl' fp' => .nil, fun N' hv' s' H' C' cl' fp' => (ex_call (cal_f_law_dice E) (hr.mono (by decide : 1 ≤ 1)) LamX.takes0 (ax_s 3 ax_nil) (pa_c pa_n))⟩ (ax_v (ex_frz 2) ax_nil) it_a)
theorem cal_f_law_rounds {w : World} {K : PySem.W.Frag} {mg : Str → Option Value} {base : Heap} (E : EnL w K mg base) : CalF PW w K mg base (Gk K w) 2 "_law_rounds" op_f_law_rounds := by
  obtain ⟨fd, F⟩ := E.def_ (d := d_f_law_rounds) (List.mem_of_getElem? (i := 30) rfl) s_f_law_rounds
  have bi : Binds K fd ["script", "most"] [] := F.binds fun _ _ _ _ _ _ us hl => match us, hl with | [_, _], _ => rfl
  have ok := fn_ownCs (P := PW) (w := w) (mg := mg) (base := base) (G := Gk K w) F sc_f_law_rounds fun A outer s H s0 LL Ex hr => bx_f_law_rounds E _ _ rfl A outer s H s0 LL Ex hr
  exact E.calF (d := d_f_law_rounds) F ok (fa_in (by decide +kernel)) bi
abbrev N_f_law : List Str := ["script", "dice", "many", "desk", "whats", "k", "j"]
theorem nd_f_law : N_f_law.Nodup := by decide +kernel
theorem sc_f_law : FnScope N_f_law ["script"] (defScope s_f_law) := ⟨rfl, rfl, rfl, by decide +kernel, rfl, by decide +kernel, by decide +kernel⟩
theorem bx_f_law {w : World} {K : PySem.W.Frag} {mg : Str → Option Value} {base : Heap} (E : EnL w K mg base) (f : Addr) (c : Addr) (hcc : c = He.codeOf K d_f_law.at_) (A : Around) (outer : List Env) (s : Shared) (H : Hp) (s0 : L2.St) (LL : List (Addr × Obj × HO)) (Ex : XK) (hr : Room 8 (A.deeper (envOfC "law" (defScope s_f_law) s.heap.objs.size f (.ref c)))) :
    BXs (Gk K w) ⟨[0], s0, LL⟩ (cxOf (L2.CX PW w) PW w K mg base N_f_law "law" (defScope s_f_law) f (.ref c) A outer s H Ex) (fun cls d _ H => Ex cls d H) (defBody s_f_law) b_f_law := by
  subst hcc
  refine ⟨?_⟩
  refine bx_cons ?_ ?_
  · refine sx_forO rfl (passes_of rfl) rfl (ex_call (cal_f_law_rounds E) (hr.mono (by decide : 2 ≤ 8)) (takes_of rfl rfl rfl rfl) (ax_s 0 (ax_v ex_int ax_nil)) (pa_c (pa_c pa_n))) (gx_name 1 (by decide : ¬ 1 ∈ ([0] : List Nat)) nd_f_law) ?_
    refine bx_cons ?_ ?_
    · exact sx_parT (ax_v (ex_bin (op_add.or op_catL) (os_or2 os_add os_catL) (ax_v ex_int (ax_v (ex_call (cal_f_law_roll E) (hr.mono (by decide : 1 ≤ 8)) (takes_of rfl rfl rfl rfl) (ax_s 1 (ax_v ex_int ax_nil)) (pa_c (pa_c pa_n))) ax_nil))) (ax_v (ex_make0 (cal_m_Desk_init E) (hr.mono (by decide : 2 ≤ 8)) (takes_of rfl rfl rfl rfl)) ax_nil)) (pa_c (pa_c pa_n)) rfl rfl (px_cons (gx_name 2 (by decide : ¬ 2 ∈ ([0] : List Nat)) nd_f_law) (px_cons (gx_name 3 (by decide : ¬ 3 ∈ ([0] : List Nat)) nd_f_law) px_nil))
    refine bx_lamL (E.t (d_f_law.at_, Lq "law" ++ "<lambda>") (List.mem_of_getElem? (i := 6) rfl)) rfl ⟨Or.inr rfl, En.tabM (p := (d_f_law.at_, Lq "law" ++ "<lambda>")) (List.mem_of_getElem? (i := 6) rfl), E.tabU (p := (d_f_law.at_, Lq "law" ++ "<lambda>")) (List.mem_of_getElem? (i := 6) rfl)⟩ (.cons rfl (LamX.lamS_by (by rfl)) (.cons rfl (LamX.lamS_by (by rfl)) (.cons rfl (LamX.lamS_by (by rfl)) (.cons rfl (LamX.lamS_by (by rfl)) (.cons rfl (LamX.lamS_by (by rfl)) (.cons rfl (LamX.lamS_by (by rfl)) (.cons rfl (LamX.lamS_by (by rfl)) (.cons rfl (LamX.lamS_by (by rfl)) .nil)))))))) (by decide : ¬ 4 ∈ ([0] : List Nat)) nd_f_law (fun s0 la lo ts hs hts => ?_)
    refine bx_cons ?_ ?_
    · exact sx_set 5 (ex_call (cal_f_law_roll E) (hr.mono (by decide : 1 ≤ 8)) (takes_of rfl rfl rfl rfl) (ax_s 1 (ax_v ex_int ax_nil)) (pa_c (pa_c pa_n))) (by decide : ¬ 5 ∈ ([4, 0] : List Nat)) nd_f_law
    refine bx_one ?_
    refine sx_if (TW.tx (tw_or (tx_cmp (op_neD (Room.u64 hr)) os_ne (ax_v (ex_undL (k := 6) (und E) hr rfl hs hts (.cons (LamX.lamS_by (by rfl)) (by intros; rfl) (fun A' o' s' H' E' f' c' hr' => (ex_meth0 (cal_m_Desk_undo E) (hr'.mono (by decide : 1 ≤ 6)) (takes_of rfl rfl rfl rfl) (ax_s 3 ax_nil))) (.cons (LamX.lamS_by (by rfl)) (by intros; rfl) (fun A' o' s' H' E' f' c' hr' => (ex_make (cal_m_Lot_init E) (hr'.mono (by decide : 2 ≤ 6)) (takes_of rfl rfl rfl rfl) (ax_v (ex_bin op_sub os_sub (ax_v ex_int (ax_s 2 ax_nil))) (ax_v ex_int (ax_v ex_int ax_nil))) (pa_c (pa_c (pa_c pa_n))))) (.cons (LamX.lamS_by (by rfl)) (by intros; rfl) (fun A' o' s' H' E' f' c' hr' => (ex_call (cal_f_read_brand E) (hr'.mono (by decide : 6 ≤ 6)) (takes_of rfl rfl rfl rfl) (ax_v (ex_bin op_repS os_repS (ax_v ex_str (ax_s 2 ax_nil))) ax_nil) (pa_c pa_n))) (.cons (LamX.lamS_by (by rfl)) (by intros; rfl) (fun A' o' s' H' E' f' c' hr' => (ex_call (cal_f_around E) (hr'.mono (by decide : 1 ≤ 6)) (takes_of rfl rfl rfl rfl) (ax_v (ex_bin op_sub os_sub (ax_v ex_int (ax_s 2 ax_nil))) ax_nil) (pa_c pa_n))) (.cons (LamX.lamS_by (by rfl)) (by intros; rfl) (fun A' o' s' H' E' f' c' hr' => (ex_call (cal_f_read_row E) (hr'.mono (by decide : 4 ≤ 6)) (takes_of rfl rfl rfl rfl) (ax_v (ex_bin op_repS os_repS (ax_v ex_str (ax_s 2 ax_nil))) ax_nil) (pa_c pa_n))) (.cons (LamX.lamS_by (by rfl)) (by intros; rfl) (fun A' o' s' H' E' f' c' hr' => (ex_call (cal_f_filled E) (hr'.mono (by decide : 6 ≤ 6)) (takes_of rfl rfl rfl rfl) (ax_v ex_int (ax_v (ex_lst ops_lst (ax_v ex_str (ax_v ex_str ax_nil)) (pa_c (pa_c pa_n))) ax_nil)) (pa_c (pa_c pa_n)))) (.cons (LamX.lamS_by (by rfl)) (by intros; rfl) (fun A' o' s' H' E' f' c' hr' => (ex_meth (cal_m_Fleet_card E) (hr'.mono (by decide : 1 ≤ 6)) (takes_of rfl rfl rfl rfl) (ax_v (ex_make (cal_m_Fleet_init E) (hr'.mono (by decide : 5 ≤ 6)) (takes_of rfl rfl rfl rfl) (ax_v (ex_lst ops_lst ax_nil pa_n) ax_nil) (pa_c pa_n)) ax_nil) (ax_v (ex_bin op_repS os_repS (ax_v ex_str (ax_s 2 ax_nil))) ax_nil) (pa_c pa_n))) (.cons (LamX.lamS_by (by rfl)) (by intros; rfl) (fun A' o' s' H' E' f' c' hr' => (ex_call (cal_f_cut_first E) (hr'.mono (by decide : 1 ≤ 6)) (takes_of rfl rfl rfl rfl) (ax_v (ex_lst ops_lst (ax_s 2 ax_nil) (pa_c pa_n)) (ax_v (ex_lst ops_lst (ax_v (ex_bin (op_add.or op_catL) (os_or2 os_add os_catL) (ax_s 2 (ax_v ex_int ax_nil))) ax_nil) (pa_c pa_n)) ax_nil)) (pa_c (pa_c pa_n)))) .nil))))))))) (ax_v (ex_bin (op_add.or op_catL) (os_or2 os_add os_catL) (ax_v (ex_lc rfl nd_f_law (pi_range1 (by rfl) (fr_range E) (pa_c pa_n)) (blkOk_by (own := [("j", 6)]) (by rfl)) ⟨fun N' hv' s' H' C' cl' fp' => (gx_name 6 (hv' _ (by simp)) nd_f_law), fun N' hv' s' H' C' cl' fp' => .nil, fun N' hv' s' H' C' cl' fp' => (ex_cmp (op_eqD (Room.u64 hr)) os_eq (ax_s 6 (ax_s 5 ax_nil)))⟩ (ax_v ex_int ax_nil) it_r1) (ax_v (ex_lst ops_lst (ax_v ex_bl ax_nil) (pa_c pa_n)) ax_nil))) ax_nil))) (tw_or1 (tx_cmp (op_neD (Room.u64 hr)) os_ne (ax_v (ex_call (cal_f_mean E) (hr.mono (by decide : 3 ≤ 8)) (takes_of rfl rfl rfl rfl) (ax_v (ex_fz (ex_lst ops_lst (ax_v (ex_make (cal_m_Lot_init E) (hr.mono (by decide : 2 ≤ 8)) (takes_of rfl rfl rfl rfl) (ax_v ex_int (ax_v ex_int (ax_v ex_int ax_nil))) (pa_c (pa_c (pa_c pa_n)))) ax_nil) (pa_c pa_n))) ax_nil) (pa_c pa_n)) (ax_v (ex_tup ops_tup (ax_v ex_int (ax_v ex_int (ax_v ex_int ax_nil))) (pa_c (pa_c (pa_c pa_n)))) ax_nil)))))) ?_ ?_
    · refine bx_one ?_
      exact sx_ret ex_bl
    · exact bx_nil
  refine bx_one ?_
  exact sx_ret ex_bl
end K21
namespace K21
open PySem PySem.Spec PyProof.Rows L2 DL PySem.W
local macro_rules | `(tactic| ktf_call ⟨$ts,*⟩) => `(tactic| simp (disch := first | omega | (simp only [List.length_map, List.length_append, List.length_cons, List.length_nil, List.length_set, List.length_replicate, rgI_length] <;> omega) | fail) only [$[$ts:term],*, grabS_fo, lay_fo, slotB_fo, e_mLkO, lkK_fo, lkK_o, thwR_ok, thR_some, e_thwO, thO_fo, e_thwD, thD_fo, thE_w, thwF_nx, thF_some, e_bLkO, blK_fo, blK_o, e_bLkD, ldD_fo, ldE_m, ldE_w, e_mOpF, pF_fo, e_opF, oF_fo, oG_some, oH_ok, oI_some, e_fld_fo, fldC_d, grabS_w, lay_w, slotB_w, e_get_d, e_get_m, e_mDm, e_dmN, dmN_d, dmN_m, e_listD_d, e_listD_m, e_newD, e_disp1, e_ioDk, e_ioDi, e_itT, e_same_dd, e_same_dm, e_same_md, e_same_mm, e_mFz, fzK_some, frz_mR, rb_ok, rb_exc, fb_nx, fb_rt, fb_exc, fb_bk, fb_ct, db_ok, db_exc, ib_t, ib_f, ib_exc, ib_d, ib_nd, e_mbind, e_mpure, e_bnx, e_bseq, e_bdo, e_bset, e_bAsg, e_bRet, e_bExp, e_bIf, e_mIf, e_mAnd, e_mOr, e_mNot, e_mT, e_mAndV, e_mOrV, e_mNotV, nb_ok, nb_exc, vb_ok, vb_exc, sb_ok, sb_exc, slotB_d, slotB_l, slotB_ls, slotB_m, slotB_o, e_args_nil, e_args_v, e_args_b, gm_some, grabS_d, grabS_l, grabS_ls, grabS_m, grabS_o, e_grab_nil, e_grab_s, e_grab_n, e_mFin, e_mOp, fin1_some, fin2_ok, fin2_exc, lay_nil, lay_s, lay_d, lay_l, lay_ls, lay_m, lay_o, e_mCon, e_mVar, e_mMov, e_mFrz, varS_d, movS_d, movS_l, movS_ls, movS_m, movS_o, frzS_d, frzS_l, frzS_m, frzS_o, frzO_some, fc_some, e_frzs_nil, e_frzs_cons, e_frz_d, e_frz_l, e_frz_m, e_frz_o, e_frz_ls, clsB_ok, e_mMeth, e_methK, e_clsA_s, e_clsA_n, e_clsS_o, e_clsS_d, e_bind_some, tyB_ok, e_mBm, e_bmK, e_tyA_s, e_tyA_n, e_tyS_l, e_tyS_ls, e_tyS_dl, e_tyS_str, e_tyS_m, e_mkOp, mkR_ok, mkR_exc, e_mTold, toldR_ok, e_fnOp, fnR_nx, fnR_rt, fnR_exc, e_outs_z, e_outs_s, e_bFld, e_fldK, fldN_some, e_fld_o, fldA_d, fldA_l, fldA_m, e_fld_d, fldB_some, setF_in, setF_end, e_opI, oi_some, e_opOr, orR_ok, orR_exc, orR_stuck, e_fAdd, e_fSub, e_fLt, e_fLe, e_fGt, e_fGe, e_fMul_r, e_fMul_l, e_fDiv, e_fMod, e_fMin, e_fMax, e_fAbs', e_opNeg, e_opInt, e_opInt_b, e_opI3, e_opF1, of1_some, e_tup, e_lst, tupK_some, lstK_some, e_seq_l, e_seq_dl, e_seq_dt, e_opLen_l, e_opLen_dl, e_opLen_dt, ixK_some, e_opIx_l, e_opIx_dl, e_opIx_dt, atI_0, atI_1, atI_2, atI_3, atI_int, atI_int_last, atI_pair, atI_pair_last, e_opApp, appK_some, e_opList_l, e_opList_dl, e_opList_dt, e_opTuple_l, e_opTuple_dl, e_opTuple_dt, e_opCat, e_opCatL_ll, e_opCatL_dl, e_opCatL_ld, e_opCatL_dd, e_opI_l, e_opI_dl, e_opSetL, setK_some, ixN_pos, e_mChain, e_chK, e_chZ, nxO_some, e_bPar, e_setAll_nil, e_setAll_cons, e_bAsgT, e_asgT_n, e_asgT_t, e_asgTs_nil, e_asgTs_cons, e_bAugI, e_augK, e_augZ, e_eq_int, e_ne_int, e_eq_bl, e_ne_bl, e_mSlice, e_slK, e_part_n, e_part_s, e_ptK, e_slD_l, e_slD_dl, e_slD_dt, cut_to, cut_from, cut_last, e_clr_nil, e_clr_cons, e_rst_nil, e_rst_cons, e_mComp, compG_some, compK_some, e_mAny, e_mAll, e_mSum, genG_some, genK_some, e_ioA_l, e_ioA_dl, e_ioA_dt, e_ioA_str, e_ioRvA_l, e_ioRvA_dl, e_ioRvA_dt, forK_some, e_forL_cons, foA_some, foB_nx, foB_ct, foB_bk, foB_rt, foB_exc, forL_nil, eq_self, beq_tt, beq_self_eq_true, beq_ff, beq_tf, beq_ft, e_srt_l, e_srt_dl, e_srt_dt, e_srd_l, e_srd_dl, e_srd_dt, e_sum_l, e_sum_dl, e_sum_dt, e_pop, set_int, dropLast_int, e_bAugS, e_ag1, e_augS2, e_ag2, e_ag3, e_augS3, e_ag4, e_ag5, e_ioEn_l, e_ioEn_dl, e_bFor, forG_some, e_ioR1, e_ioR2, e_ioZ_P, e_ioR3, rgS_length, rev_int, fltT, List.length_cons, List.length_nil, List.length_append, List.length_map, List.length_replicate, List.length_set, rgI_length, List.getElem?_cons_zero, List.getElem?_cons_succ, List.set_cons_zero, List.set_cons_succ, List.cons_append, List.nil_append, List.append_nil, List.map_cons, List.map_nil, List.replicate_succ, List.replicate_zero, Option.map_some, Option.getD_some, Nat.reduceAdd, Nat.reduceSub, Nat.reduceLT, Nat.reduceLeDiff, Nat.reduceMul, Nat.reduceEqDiff, List.mem_cons, List.not_mem_nil, or_false, false_or, or_true, true_or, if_true, if_false, ite_true, ite_false, decide_true, decide_false, decide_eq_true_eq, Bool.not_true, Bool.not_false, reduceCtorEq, reduceIte, Int.reduceNeg, if_pos, if_neg, Int.reduceToNat, Int.reduceMul, Int.reduceAdd, Int.reduceSub, Int.reduceLT, Int.reduceLE, Int.reduceEq, ne_eq, not_true_eq_false, not_false_eq_true, Int.toNat_natCast])
/-! ### draws -/
theorem law_roll (a b c m : Int) (hm : 0 < m) (hm2 : m < 18446744073709551616) : ∃ v a' b' c', op_f_law_roll [.l [.int a, .int b, .int c], .d (.int m)] = .ok (.d (.int v)) [.l [.int a', .int b', .int c'], .d (.int m)] ∧ 0 ≤ v ∧ v < m := by
  have hv : ∀ x : Int, 0 ≤ x % m ∧ x % m < m := fun x => ⟨Int.emod_nonneg _ (by omega), Int.emod_lt_of_pos _ hm⟩
  by_cases h : c = 2 ∨ c = 1 ∧ 0 < a
  · refine ⟨a % m, a / m, b, c, ?_, hv a⟩
    by_cases h1 : c = 2
    · subst h1
      ktf_call ⟨op_f_law_roll, b_f_law_roll⟩
    · have h2 : c = 1 := by omega
      have h3 : 0 < a := by omega
      subst h2
      ktf_call ⟨op_f_law_roll, b_f_law_roll⟩
  · by_cases h1 : c = 1
    · have h3 : ¬ 0 < a := by omega
      subst h1
      ktf_call ⟨op_f_law_roll, b_f_law_roll, b_f_law_roll_2, b_f_law_roll_3, b_f_law_roll_4, b_f_law_roll_5⟩
      exact ⟨_, _, _, _, rfl, hv _⟩
    · ktf_call ⟨op_f_law_roll, b_f_law_roll, b_f_law_roll_2, b_f_law_roll_3, b_f_law_roll_4, b_f_law_roll_5⟩
      exact ⟨_, _, _, _, rfl, hv _⟩
theorem law_dice (z : Int) : ∃ a b c, op_f_law_dice [.d (.int z)] = .ok (.l [.int a, .int b, .int c]) [.d (.int z)] := by
  have p : fPow 10 18 = some (.int 1000000000000000000) := rfl
  by_cases h1 : -10 < z <;> by_cases h2 : z < 10 <;> (ktf_call ⟨op_f_law_dice, b_f_law_dice, b_f_law_dice_2, p⟩; exact ⟨_, _, _, rfl⟩)
theorem law_rounds (s : List Int) : ∃ a b c, op_f_law_rounds [.d (.lst (s.map .int)), .d (.int 1)] = .ok (.ls [.l [.int a, .int b, .int c]]) [.d (.lst (s.map .int)), .d (.int 1)] := by
  have go : ∀ (z : Int), ∃ a b c, C_f_law_rounds_1 [.d (.lst (s.map .int)), .d (.int 1), .l [.int z], .gone] = .ok (.ls [.l [.int a, .int b, .int c]]) [.d (.lst (s.map .int)), .d (.int 1), .d (.lst [.int z]), .gone] := fun z => by
    obtain ⟨a, b, c, e⟩ := law_dice z
    refine ⟨a, b, c, ?_⟩
    unfold C_f_law_rounds_1
    refine (comp_one (s := .l [.int a, .int b, .int c]) rfl rfl rfl rfl rfl (by ktf_call ⟨e⟩; rfl) rfl)
  have e0 := opEq_ints false (.l []) (.l []) [] [] rfl rfl rfl rfl
  cases s with
  | nil =>
    obtain ⟨a, b, c, e⟩ := go 0
    refine ⟨a, b, c, ?_⟩
    rw [List.map_nil] at *
    ktf_call ⟨op_f_law_rounds, b_f_law_rounds, b_f_law_rounds_2, b_f_law_rounds_3, e, e0, List.take_nil⟩
  | cons z r =>
    obtain ⟨a, b, c, e⟩ := go z
    have e1 := opEq_ints false (.l [.int z]) (.l []) [z] [] rfl rfl rfl rfl
    refine ⟨a, b, c, ?_⟩
    rw [List.map_cons] at *
    ktf_call ⟨op_f_law_rounds, b_f_law_rounds, b_f_law_rounds_2, b_f_law_rounds_3, e, e1, List.take_succ_cons, List.take_zero⟩
def desk : S := match mkOp 13 op_m_Desk_init [] with
  | .ok s _ => s
  | _ => .gone
def desk2 : S := match mMeth 13 op_m_Desk_undo (.b 0) [] [desk] with
  | .exc _ _ ρ => ρ.getD 0 .gone
  | _ => .gone
theorem desk_ok : mkOp 13 op_m_Desk_init [] = .ok desk [] := by kernel_rfl
def bd1 (s0 s1 : S) (n : Int) : List S := [s0, s1, .d (.int (n + 1)), desk, .gone, .d (.int 1), .gone]
theorem c1_0 (s0 s1 : S) : L_f_law_1_4 (bd1 s0 s1 0) = .nx (bd1 s0 s1 0) := by kernel_rfl
theorem c1_1 (s0 s1 : S) : L_f_law_1_4 (bd1 s0 s1 1) = .nx (bd1 s0 s1 1) := by kernel_rfl
theorem c1_2 (s0 s1 : S) : L_f_law_1_4 (bd1 s0 s1 2) = .nx (bd1 s0 s1 2) := by kernel_rfl
theorem c1_3 (s0 s1 : S) : L_f_law_1_4 (bd1 s0 s1 3) = .nx (bd1 s0 s1 3) := by kernel_rfl
theorem c1_4 (s0 s1 : S) : L_f_law_1_4 (bd1 s0 s1 4) = .nx (bd1 s0 s1 4) := by kernel_rfl
theorem c1_5 (s0 s1 : S) : L_f_law_1_4 (bd1 s0 s1 5) = .nx (bd1 s0 s1 5) := by kernel_rfl
theorem c1_6 (s0 s1 : S) : L_f_law_1_4 (bd1 s0 s1 6) = .nx (bd1 s0 s1 6) := by kernel_rfl
theorem c1_7 (s0 s1 : S) : L_f_law_1_4 (bd1 s0 s1 7) = .nx (bd1 s0 s1 7) := by kernel_rfl
theorem c1_8 (s0 s1 : S) : L_f_law_1_4 (bd1 s0 s1 8) = .nx (bd1 s0 s1 8) := by kernel_rfl
theorem c1_9 (s0 s1 : S) : L_f_law_1_4 (bd1 s0 s1 9) = .nx (bd1 s0 s1 9) := by kernel_rfl
theorem c1_10 (s0 s1 : S) : L_f_law_1_4 (bd1 s0 s1 10) = .nx (bd1 s0 s1 10) := by kernel_rfl
theorem c1_11 (s0 s1 : S) : L_f_law_1_4 (bd1 s0 s1 11) = .nx (bd1 s0 s1 11) := by kernel_rfl
theorem c1_12 (s0 s1 : S) : L_f_law_1_4 (bd1 s0 s1 12) = .nx (bd1 s0 s1 12) := by kernel_rfl
theorem c1_13 (s0 s1 : S) : L_f_law_1_4 (bd1 s0 s1 13) = .nx (bd1 s0 s1 13) := by kernel_rfl
theorem c1_14 (s0 s1 : S) : L_f_law_1_4 (bd1 s0 s1 14) = .nx (bd1 s0 s1 14) := by kernel_rfl
theorem c1_15 (s0 s1 : S) : L_f_law_1_4 (bd1 s0 s1 15) = .nx (bd1 s0 s1 15) := by kernel_rfl
theorem c1_16 (s0 s1 : S) : L_f_law_1_4 (bd1 s0 s1 16) = .nx (bd1 s0 s1 16) := by kernel_rfl
theorem c1_17 (s0 s1 : S) : L_f_law_1_4 (bd1 s0 s1 17) = .nx (bd1 s0 s1 17) := by kernel_rfl
theorem c1_18 (s0 s1 : S) : L_f_law_1_4 (bd1 s0 s1 18) = .nx (bd1 s0 s1 18) := by kernel_rfl
theorem c1_19 (s0 s1 : S) : L_f_law_1_4 (bd1 s0 s1 19) = .nx (bd1 s0 s1 19) := by kernel_rfl
theorem c1_20 (s0 s1 : S) : L_f_law_1_4 (bd1 s0 s1 20) = .nx (bd1 s0 s1 20) := by kernel_rfl
theorem c1_21 (s0 s1 : S) : L_f_law_1_4 (bd1 s0 s1 21) = .nx (bd1 s0 s1 21) := by kernel_rfl
theorem c1_22 (s0 s1 : S) : L_f_law_1_4 (bd1 s0 s1 22) = .nx (bd1 s0 s1 22) := by kernel_rfl
theorem c1_23 (s0 s1 : S) : L_f_law_1_4 (bd1 s0 s1 23) = .nx (bd1 s0 s1 23) := by kernel_rfl
theorem c1_24 (s0 s1 : S) : L_f_law_1_4 (bd1 s0 s1 24) = .nx (bd1 s0 s1 24) := by kernel_rfl
theorem c1_25 (s0 s1 : S) : L_f_law_1_4 (bd1 s0 s1 25) = .nx (bd1 s0 s1 25) := by kernel_rfl
theorem c1_26 (s0 s1 : S) : L_f_law_1_4 (bd1 s0 s1 26) = .nx (bd1 s0 s1 26) := by kernel_rfl
theorem c1_27 (s0 s1 : S) : L_f_law_1_4 (bd1 s0 s1 27) = .nx (bd1 s0 s1 27) := by kernel_rfl
theorem c1_28 (s0 s1 : S) : L_f_law_1_4 (bd1 s0 s1 28) = .nx (bd1 s0 s1 28) := by kernel_rfl
theorem c1_29 (s0 s1 : S) : L_f_law_1_4 (bd1 s0 s1 29) = .nx (bd1 s0 s1 29) := by kernel_rfl
theorem c1_30 (s0 s1 : S) : L_f_law_1_4 (bd1 s0 s1 30) = .nx (bd1 s0 s1 30) := by kernel_rfl
theorem c1_31 (s0 s1 : S) : L_f_law_1_4 (bd1 s0 s1 31) = .nx (bd1 s0 s1 31) := by kernel_rfl
theorem c1_32 (s0 s1 : S) : L_f_law_1_4 (bd1 s0 s1 32) = .nx (bd1 s0 s1 32) := by kernel_rfl
theorem c1_33 (s0 s1 : S) : L_f_law_1_4 (bd1 s0 s1 33) = .nx (bd1 s0 s1 33) := by kernel_rfl
theorem c1_34 (s0 s1 : S) : L_f_law_1_4 (bd1 s0 s1 34) = .nx (bd1 s0 s1 34) := by kernel_rfl
theorem c1_35 (s0 s1 : S) : L_f_law_1_4 (bd1 s0 s1 35) = .nx (bd1 s0 s1 35) := by kernel_rfl
theorem c1_36 (s0 s1 : S) : L_f_law_1_4 (bd1 s0 s1 36) = .nx (bd1 s0 s1 36) := by kernel_rfl
theorem c1_37 (s0 s1 : S) : L_f_law_1_4 (bd1 s0 s1 37) = .nx (bd1 s0 s1 37) := by kernel_rfl
theorem c1_38 (s0 s1 : S) : L_f_law_1_4 (bd1 s0 s1 38) = .nx (bd1 s0 s1 38) := by kernel_rfl
theorem c1_39 (s0 s1 : S) : L_f_law_1_4 (bd1 s0 s1 39) = .nx (bd1 s0 s1 39) := by kernel_rfl
theorem c1_40 (s0 s1 : S) : L_f_law_1_4 (bd1 s0 s1 40) = .nx (bd1 s0 s1 40) := by kernel_rfl
theorem c1_41 (s0 s1 : S) : L_f_law_1_4 (bd1 s0 s1 41) = .nx (bd1 s0 s1 41) := by kernel_rfl
theorem c1_42 (s0 s1 : S) : L_f_law_1_4 (bd1 s0 s1 42) = .nx (bd1 s0 s1 42) := by kernel_rfl
theorem c1_43 (s0 s1 : S) : L_f_law_1_4 (bd1 s0 s1 43) = .nx (bd1 s0 s1 43) := by kernel_rfl
theorem c1_44 (s0 s1 : S) : L_f_law_1_4 (bd1 s0 s1 44) = .nx (bd1 s0 s1 44) := by kernel_rfl
theorem c1_45 (s0 s1 : S) : L_f_law_1_4 (bd1 s0 s1 45) = .nx (bd1 s0 s1 45) := by kernel_rfl
theorem c1_46 (s0 s1 : S) : L_f_law_1_4 (bd1 s0 s1 46) = .nx (bd1 s0 s1 46) := by kernel_rfl
theorem c1_47 (s0 s1 : S) : L_f_law_1_4 (bd1 s0 s1 47) = .nx (bd1 s0 s1 47) := by kernel_rfl
theorem c1_48 (s0 s1 : S) : L_f_law_1_4 (bd1 s0 s1 48) = .nx (bd1 s0 s1 48) := by kernel_rfl
theorem c1_49 (s0 s1 : S) : L_f_law_1_4 (bd1 s0 s1 49) = .nx (bd1 s0 s1 49) := by kernel_rfl
theorem c1_50 (s0 s1 : S) : L_f_law_1_4 (bd1 s0 s1 50) = .nx (bd1 s0 s1 50) := by kernel_rfl
theorem c1_51 (s0 s1 : S) : L_f_law_1_4 (bd1 s0 s1 51) = .nx (bd1 s0 s1 51) := by kernel_rfl
theorem c1_52 (s0 s1 : S) : L_f_law_1_4 (bd1 s0 s1 52) = .nx (bd1 s0 s1 52) := by kernel_rfl
theorem c1_53 (s0 s1 : S) : L_f_law_1_4 (bd1 s0 s1 53) = .nx (bd1 s0 s1 53) := by kernel_rfl
theorem c1_54 (s0 s1 : S) : L_f_law_1_4 (bd1 s0 s1 54) = .nx (bd1 s0 s1 54) := by kernel_rfl
theorem c1_55 (s0 s1 : S) : L_f_law_1_4 (bd1 s0 s1 55) = .nx (bd1 s0 s1 55) := by kernel_rfl
theorem c1_56 (s0 s1 : S) : L_f_law_1_4 (bd1 s0 s1 56) = .nx (bd1 s0 s1 56) := by kernel_rfl
theorem c1_57 (s0 s1 : S) : L_f_law_1_4 (bd1 s0 s1 57) = .nx (bd1 s0 s1 57) := by kernel_rfl
theorem c1_58 (s0 s1 : S) : L_f_law_1_4 (bd1 s0 s1 58) = .nx (bd1 s0 s1 58) := by kernel_rfl
theorem c1_59 (s0 s1 : S) : L_f_law_1_4 (bd1 s0 s1 59) = .nx (bd1 s0 s1 59) := by kernel_rfl
theorem c1_60 (s0 s1 : S) : L_f_law_1_4 (bd1 s0 s1 60) = .nx (bd1 s0 s1 60) := by kernel_rfl
theorem c1_61 (s0 s1 : S) : L_f_law_1_4 (bd1 s0 s1 61) = .nx (bd1 s0 s1 61) := by kernel_rfl
theorem c1_62 (s0 s1 : S) : L_f_law_1_4 (bd1 s0 s1 62) = .nx (bd1 s0 s1 62) := by kernel_rfl
theorem c1_63 (s0 s1 : S) : L_f_law_1_4 (bd1 s0 s1 63) = .nx (bd1 s0 s1 63) := by kernel_rfl
theorem c1_64 (s0 s1 : S) : L_f_law_1_4 (bd1 s0 s1 64) = .nx (bd1 s0 s1 64) := by kernel_rfl
theorem c1_65 (s0 s1 : S) : L_f_law_1_4 (bd1 s0 s1 65) = .nx (bd1 s0 s1 65) := by kernel_rfl
theorem c1_66 (s0 s1 : S) : L_f_law_1_4 (bd1 s0 s1 66) = .nx (bd1 s0 s1 66) := by kernel_rfl
theorem c1_67 (s0 s1 : S) : L_f_law_1_4 (bd1 s0 s1 67) = .nx (bd1 s0 s1 67) := by kernel_rfl
theorem c1_68 (s0 s1 : S) : L_f_law_1_4 (bd1 s0 s1 68) = .nx (bd1 s0 s1 68) := by kernel_rfl
theorem c1_69 (s0 s1 : S) : L_f_law_1_4 (bd1 s0 s1 69) = .nx (bd1 s0 s1 69) := by kernel_rfl
theorem c1_70 (s0 s1 : S) : L_f_law_1_4 (bd1 s0 s1 70) = .nx (bd1 s0 s1 70) := by kernel_rfl
theorem c1_71 (s0 s1 : S) : L_f_law_1_4 (bd1 s0 s1 71) = .nx (bd1 s0 s1 71) := by kernel_rfl
theorem c1_72 (s0 s1 : S) : L_f_law_1_4 (bd1 s0 s1 72) = .nx (bd1 s0 s1 72) := by kernel_rfl
theorem c1_73 (s0 s1 : S) : L_f_law_1_4 (bd1 s0 s1 73) = .nx (bd1 s0 s1 73) := by kernel_rfl
theorem c1_74 (s0 s1 : S) : L_f_law_1_4 (bd1 s0 s1 74) = .nx (bd1 s0 s1 74) := by kernel_rfl
theorem c1_75 (s0 s1 : S) : L_f_law_1_4 (bd1 s0 s1 75) = .nx (bd1 s0 s1 75) := by kernel_rfl
theorem c1_76 (s0 s1 : S) : L_f_law_1_4 (bd1 s0 s1 76) = .nx (bd1 s0 s1 76) := by kernel_rfl
theorem c1_77 (s0 s1 : S) : L_f_law_1_4 (bd1 s0 s1 77) = .nx (bd1 s0 s1 77) := by kernel_rfl
theorem c1_78 (s0 s1 : S) : L_f_law_1_4 (bd1 s0 s1 78) = .nx (bd1 s0 s1 78) := by kernel_rfl
theorem c1_79 (s0 s1 : S) : L_f_law_1_4 (bd1 s0 s1 79) = .nx (bd1 s0 s1 79) := by kernel_rfl
theorem c1_80 (s0 s1 : S) : L_f_law_1_4 (bd1 s0 s1 80) = .nx (bd1 s0 s1 80) := by kernel_rfl
theorem c1_81 (s0 s1 : S) : L_f_law_1_4 (bd1 s0 s1 81) = .nx (bd1 s0 s1 81) := by kernel_rfl
theorem c1_82 (s0 s1 : S) : L_f_law_1_4 (bd1 s0 s1 82) = .nx (bd1 s0 s1 82) := by kernel_rfl
theorem c1_83 (s0 s1 : S) : L_f_law_1_4 (bd1 s0 s1 83) = .nx (bd1 s0 s1 83) := by kernel_rfl
theorem c1_84 (s0 s1 : S) : L_f_law_1_4 (bd1 s0 s1 84) = .nx (bd1 s0 s1 84) := by kernel_rfl
theorem c1_85 (s0 s1 : S) : L_f_law_1_4 (bd1 s0 s1 85) = .nx (bd1 s0 s1 85) := by kernel_rfl
theorem c1_86 (s0 s1 : S) : L_f_law_1_4 (bd1 s0 s1 86) = .nx (bd1 s0 s1 86) := by kernel_rfl
theorem c1_87 (s0 s1 : S) : L_f_law_1_4 (bd1 s0 s1 87) = .nx (bd1 s0 s1 87) := by kernel_rfl
theorem c1_88 (s0 s1 : S) : L_f_law_1_4 (bd1 s0 s1 88) = .nx (bd1 s0 s1 88) := by kernel_rfl
theorem c1_89 (s0 s1 : S) : L_f_law_1_4 (bd1 s0 s1 89) = .nx (bd1 s0 s1 89) := by kernel_rfl
theorem call1 (s0 s1 : S) : ∀ n : Nat, n < 90 → L_f_law_1_4 [s0, s1, .d (.int ((n : Int) + 1)), desk, .gone, .d (.int 1), .gone] = .nx [s0, s1, .d (.int ((n : Int) + 1)), desk, .gone, .d (.int 1), .gone]
  | 0, _ => c1_0 s0 s1
  | 1, _ => c1_1 s0 s1
  | 2, _ => c1_2 s0 s1
  | 3, _ => c1_3 s0 s1
  | 4, _ => c1_4 s0 s1
  | 5, _ => c1_5 s0 s1
  | 6, _ => c1_6 s0 s1
  | 7, _ => c1_7 s0 s1
  | 8, _ => c1_8 s0 s1
  | 9, _ => c1_9 s0 s1
  | 10, _ => c1_10 s0 s1
  | 11, _ => c1_11 s0 s1
  | 12, _ => c1_12 s0 s1
  | 13, _ => c1_13 s0 s1
  | 14, _ => c1_14 s0 s1
  | 15, _ => c1_15 s0 s1
  | 16, _ => c1_16 s0 s1
  | 17, _ => c1_17 s0 s1
  | 18, _ => c1_18 s0 s1
  | 19, _ => c1_19 s0 s1
  | 20, _ => c1_20 s0 s1
  | 21, _ => c1_21 s0 s1
  | 22, _ => c1_22 s0 s1
  | 23, _ => c1_23 s0 s1
  | 24, _ => c1_24 s0 s1
  | 25, _ => c1_25 s0 s1
  | 26, _ => c1_26 s0 s1
  | 27, _ => c1_27 s0 s1
  | 28, _ => c1_28 s0 s1
  | 29, _ => c1_29 s0 s1
  | 30, _ => c1_30 s0 s1
  | 31, _ => c1_31 s0 s1
  | 32, _ => c1_32 s0 s1
  | 33, _ => c1_33 s0 s1
  | 34, _ => c1_34 s0 s1
  | 35, _ => c1_35 s0 s1
  | 36, _ => c1_36 s0 s1
  | 37, _ => c1_37 s0 s1
  | 38, _ => c1_38 s0 s1
  | 39, _ => c1_39 s0 s1
  | 40, _ => c1_40 s0 s1
  | 41, _ => c1_41 s0 s1
  | 42, _ => c1_42 s0 s1
  | 43, _ => c1_43 s0 s1
  | 44, _ => c1_44 s0 s1
  | 45, _ => c1_45 s0 s1
  | 46, _ => c1_46 s0 s1
  | 47, _ => c1_47 s0 s1
  | 48, _ => c1_48 s0 s1
  | 49, _ => c1_49 s0 s1
  | 50, _ => c1_50 s0 s1
  | 51, _ => c1_51 s0 s1
  | 52, _ => c1_52 s0 s1
  | 53, _ => c1_53 s0 s1
  | 54, _ => c1_54 s0 s1
  | 55, _ => c1_55 s0 s1
  | 56, _ => c1_56 s0 s1
  | 57, _ => c1_57 s0 s1
  | 58, _ => c1_58 s0 s1
  | 59, _ => c1_59 s0 s1
  | 60, _ => c1_60 s0 s1
  | 61, _ => c1_61 s0 s1
  | 62, _ => c1_62 s0 s1
  | 63, _ => c1_63 s0 s1
  | 64, _ => c1_64 s0 s1
  | 65, _ => c1_65 s0 s1
  | 66, _ => c1_66 s0 s1
  | 67, _ => c1_67 s0 s1
  | 68, _ => c1_68 s0 s1
  | 69, _ => c1_69 s0 s1
  | 70, _ => c1_70 s0 s1
  | 71, _ => c1_71 s0 s1
  | 72, _ => c1_72 s0 s1
  | 73, _ => c1_73 s0 s1
  | 74, _ => c1_74 s0 s1
  | 75, _ => c1_75 s0 s1
  | 76, _ => c1_76 s0 s1
  | 77, _ => c1_77 s0 s1
  | 78, _ => c1_78 s0 s1
  | 79, _ => c1_79 s0 s1
  | 80, _ => c1_80 s0 s1
  | 81, _ => c1_81 s0 s1
  | 82, _ => c1_82 s0 s1
  | 83, _ => c1_83 s0 s1
  | 84, _ => c1_84 s0 s1
  | 85, _ => c1_85 s0 s1
  | 86, _ => c1_86 s0 s1
  | 87, _ => c1_87 s0 s1
  | 88, _ => c1_88 s0 s1
  | 89, _ => c1_89 s0 s1
  | n + 90, h => absurd h (by omega)
def bd2 (s0 s1 : S) (n : Int) : List S := [s0, s1, .d (.int (n + 1)), desk, .gone, .d (.int 2), .gone]
theorem c2_0 (s0 s1 : S) : L_f_law_1_4 (bd2 s0 s1 0) = .nx (bd2 s0 s1 0) := by kernel_rfl
theorem c2_1 (s0 s1 : S) : L_f_law_1_4 (bd2 s0 s1 1) = .nx (bd2 s0 s1 1) := by kernel_rfl
theorem c2_2 (s0 s1 : S) : L_f_law_1_4 (bd2 s0 s1 2) = .nx (bd2 s0 s1 2) := by kernel_rfl
theorem c2_3 (s0 s1 : S) : L_f_law_1_4 (bd2 s0 s1 3) = .nx (bd2 s0 s1 3) := by kernel_rfl
theorem c2_4 (s0 s1 : S) : L_f_law_1_4 (bd2 s0 s1 4) = .nx (bd2 s0 s1 4) := by kernel_rfl
theorem c2_5 (s0 s1 : S) : L_f_law_1_4 (bd2 s0 s1 5) = .nx (bd2 s0 s1 5) := by kernel_rfl
theorem c2_6 (s0 s1 : S) : L_f_law_1_4 (bd2 s0 s1 6) = .nx (bd2 s0 s1 6) := by kernel_rfl
theorem c2_7 (s0 s1 : S) : L_f_law_1_4 (bd2 s0 s1 7) = .nx (bd2 s0 s1 7) := by kernel_rfl
theorem c2_8 (s0 s1 : S) : L_f_law_1_4 (bd2 s0 s1 8) = .nx (bd2 s0 s1 8) := by kernel_rfl
theorem c2_9 (s0 s1 : S) : L_f_law_1_4 (bd2 s0 s1 9) = .nx (bd2 s0 s1 9) := by kernel_rfl
theorem c2_10 (s0 s1 : S) : L_f_law_1_4 (bd2 s0 s1 10) = .nx (bd2 s0 s1 10) := by kernel_rfl
theorem c2_11 (s0 s1 : S) : L_f_law_1_4 (bd2 s0 s1 11) = .nx (bd2 s0 s1 11) := by kernel_rfl
theorem c2_12 (s0 s1 : S) : L_f_law_1_4 (bd2 s0 s1 12) = .nx (bd2 s0 s1 12) := by kernel_rfl
theorem c2_13 (s0 s1 : S) : L_f_law_1_4 (bd2 s0 s1 13) = .nx (bd2 s0 s1 13) := by kernel_rfl
theorem c2_14 (s0 s1 : S) : L_f_law_1_4 (bd2 s0 s1 14) = .nx (bd2 s0 s1 14) := by kernel_rfl
theorem c2_15 (s0 s1 : S) : L_f_law_1_4 (bd2 s0 s1 15) = .nx (bd2 s0 s1 15) := by kernel_rfl
theorem c2_16 (s0 s1 : S) : L_f_law_1_4 (bd2 s0 s1 16) = .nx (bd2 s0 s1 16) := by kernel_rfl
theorem c2_17 (s0 s1 : S) : L_f_law_1_4 (bd2 s0 s1 17) = .nx (bd2 s0 s1 17) := by kernel_rfl
theorem c2_18 (s0 s1 : S) : L_f_law_1_4 (bd2 s0 s1 18) = .nx (bd2 s0 s1 18) := by kernel_rfl
theorem c2_19 (s0 s1 : S) : L_f_law_1_4 (bd2 s0 s1 19) = .nx (bd2 s0 s1 19) := by kernel_rfl
theorem c2_20 (s0 s1 : S) : L_f_law_1_4 (bd2 s0 s1 20) = .nx (bd2 s0 s1 20) := by kernel_rfl
theorem c2_21 (s0 s1 : S) : L_f_law_1_4 (bd2 s0 s1 21) = .nx (bd2 s0 s1 21) := by kernel_rfl
theorem c2_22 (s0 s1 : S) : L_f_law_1_4 (bd2 s0 s1 22) = .nx (bd2 s0 s1 22) := by kernel_rfl
theorem c2_23 (s0 s1 : S) : L_f_law_1_4 (bd2 s0 s1 23) = .nx (bd2 s0 s1 23) := by kernel_rfl
theorem c2_24 (s0 s1 : S) : L_f_law_1_4 (bd2 s0 s1 24) = .nx (bd2 s0 s1 24) := by kernel_rfl
theorem c2_25 (s0 s1 : S) : L_f_law_1_4 (bd2 s0 s1 25) = .nx (bd2 s0 s1 25) := by kernel_rfl
theorem c2_26 (s0 s1 : S) : L_f_law_1_4 (bd2 s0 s1 26) = .nx (bd2 s0 s1 26) := by kernel_rfl
theorem c2_27 (s0 s1 : S) : L_f_law_1_4 (bd2 s0 s1 27) = .nx (bd2 s0 s1 27) := by kernel_rfl
theorem c2_28 (s0 s1 : S) : L_f_law_1_4 (bd2 s0 s1 28) = .nx (bd2 s0 s1 28) := by kernel_rfl
theorem c2_29 (s0 s1 : S) : L_f_law_1_4 (bd2 s0 s1 29) = .nx (bd2 s0 s1 29) := by kernel_rfl
theorem c2_30 (s0 s1 : S) : L_f_law_1_4 (bd2 s0 s1 30) = .nx (bd2 s0 s1 30) := by kernel_rfl
theorem c2_31 (s0 s1 : S) : L_f_law_1_4 (bd2 s0 s1 31) = .nx (bd2 s0 s1 31) := by kernel_rfl
theorem c2_32 (s0 s1 : S) : L_f_law_1_4 (bd2 s0 s1 32) = .nx (bd2 s0 s1 32) := by kernel_rfl
theorem c2_33 (s0 s1 : S) : L_f_law_1_4 (bd2 s0 s1 33) = .nx (bd2 s0 s1 33) := by kernel_rfl
theorem c2_34 (s0 s1 : S) : L_f_law_1_4 (bd2 s0 s1 34) = .nx (bd2 s0 s1 34) := by kernel_rfl
theorem c2_35 (s0 s1 : S) : L_f_law_1_4 (bd2 s0 s1 35) = .nx (bd2 s0 s1 35) := by kernel_rfl
theorem c2_36 (s0 s1 : S) : L_f_law_1_4 (bd2 s0 s1 36) = .nx (bd2 s0 s1 36) := by kernel_rfl
theorem c2_37 (s0 s1 : S) : L_f_law_1_4 (bd2 s0 s1 37) = .nx (bd2 s0 s1 37) := by kernel_rfl
theorem c2_38 (s0 s1 : S) : L_f_law_1_4 (bd2 s0 s1 38) = .nx (bd2 s0 s1 38) := by kernel_rfl
theorem c2_39 (s0 s1 : S) : L_f_law_1_4 (bd2 s0 s1 39) = .nx (bd2 s0 s1 39) := by kernel_rfl
theorem c2_40 (s0 s1 : S) : L_f_law_1_4 (bd2 s0 s1 40) = .nx (bd2 s0 s1 40) := by kernel_rfl
theorem c2_41 (s0 s1 : S) : L_f_law_1_4 (bd2 s0 s1 41) = .nx (bd2 s0 s1 41) := by kernel_rfl
theorem c2_42 (s0 s1 : S) : L_f_law_1_4 (bd2 s0 s1 42) = .nx (bd2 s0 s1 42) := by kernel_rfl
theorem c2_43 (s0 s1 : S) : L_f_law_1_4 (bd2 s0 s1 43) = .nx (bd2 s0 s1 43) := by kernel_rfl
theorem c2_44 (s0 s1 : S) : L_f_law_1_4 (bd2 s0 s1 44) = .nx (bd2 s0 s1 44) := by kernel_rfl
theorem c2_45 (s0 s1 : S) : L_f_law_1_4 (bd2 s0 s1 45) = .nx (bd2 s0 s1 45) := by kernel_rfl
theorem c2_46 (s0 s1 : S) : L_f_law_1_4 (bd2 s0 s1 46) = .nx (bd2 s0 s1 46) := by kernel_rfl
theorem c2_47 (s0 s1 : S) : L_f_law_1_4 (bd2 s0 s1 47) = .nx (bd2 s0 s1 47) := by kernel_rfl
theorem c2_48 (s0 s1 : S) : L_f_law_1_4 (bd2 s0 s1 48) = .nx (bd2 s0 s1 48) := by kernel_rfl
theorem c2_49 (s0 s1 : S) : L_f_law_1_4 (bd2 s0 s1 49) = .nx (bd2 s0 s1 49) := by kernel_rfl
theorem c2_50 (s0 s1 : S) : L_f_law_1_4 (bd2 s0 s1 50) = .nx (bd2 s0 s1 50) := by kernel_rfl
theorem c2_51 (s0 s1 : S) : L_f_law_1_4 (bd2 s0 s1 51) = .nx (bd2 s0 s1 51) := by kernel_rfl
theorem c2_52 (s0 s1 : S) : L_f_law_1_4 (bd2 s0 s1 52) = .nx (bd2 s0 s1 52) := by kernel_rfl
theorem c2_53 (s0 s1 : S) : L_f_law_1_4 (bd2 s0 s1 53) = .nx (bd2 s0 s1 53) := by kernel_rfl
theorem c2_54 (s0 s1 : S) : L_f_law_1_4 (bd2 s0 s1 54) = .nx (bd2 s0 s1 54) := by kernel_rfl
theorem c2_55 (s0 s1 : S) : L_f_law_1_4 (bd2 s0 s1 55) = .nx (bd2 s0 s1 55) := by kernel_rfl
theorem c2_56 (s0 s1 : S) : L_f_law_1_4 (bd2 s0 s1 56) = .nx (bd2 s0 s1 56) := by kernel_rfl
theorem c2_57 (s0 s1 : S) : L_f_law_1_4 (bd2 s0 s1 57) = .nx (bd2 s0 s1 57) := by kernel_rfl
theorem c2_58 (s0 s1 : S) : L_f_law_1_4 (bd2 s0 s1 58) = .nx (bd2 s0 s1 58) := by kernel_rfl
theorem c2_59 (s0 s1 : S) : L_f_law_1_4 (bd2 s0 s1 59) = .nx (bd2 s0 s1 59) := by kernel_rfl
theorem c2_60 (s0 s1 : S) : L_f_law_1_4 (bd2 s0 s1 60) = .nx (bd2 s0 s1 60) := by kernel_rfl
theorem c2_61 (s0 s1 : S) : L_f_law_1_4 (bd2 s0 s1 61) = .nx (bd2 s0 s1 61) := by kernel_rfl
theorem c2_62 (s0 s1 : S) : L_f_law_1_4 (bd2 s0 s1 62) = .nx (bd2 s0 s1 62) := by kernel_rfl
theorem c2_63 (s0 s1 : S) : L_f_law_1_4 (bd2 s0 s1 63) = .nx (bd2 s0 s1 63) := by kernel_rfl
theorem c2_64 (s0 s1 : S) : L_f_law_1_4 (bd2 s0 s1 64) = .nx (bd2 s0 s1 64) := by kernel_rfl
theorem c2_65 (s0 s1 : S) : L_f_law_1_4 (bd2 s0 s1 65) = .nx (bd2 s0 s1 65) := by kernel_rfl
theorem c2_66 (s0 s1 : S) : L_f_law_1_4 (bd2 s0 s1 66) = .nx (bd2 s0 s1 66) := by kernel_rfl
theorem c2_67 (s0 s1 : S) : L_f_law_1_4 (bd2 s0 s1 67) = .nx (bd2 s0 s1 67) := by kernel_rfl
theorem c2_68 (s0 s1 : S) : L_f_law_1_4 (bd2 s0 s1 68) = .nx (bd2 s0 s1 68) := by kernel_rfl
theorem c2_69 (s0 s1 : S) : L_f_law_1_4 (bd2 s0 s1 69) = .nx (bd2 s0 s1 69) := by kernel_rfl
theorem c2_70 (s0 s1 : S) : L_f_law_1_4 (bd2 s0 s1 70) = .nx (bd2 s0 s1 70) := by kernel_rfl
theorem c2_71 (s0 s1 : S) : L_f_law_1_4 (bd2 s0 s1 71) = .nx (bd2 s0 s1 71) := by kernel_rfl
theorem c2_72 (s0 s1 : S) : L_f_law_1_4 (bd2 s0 s1 72) = .nx (bd2 s0 s1 72) := by kernel_rfl
theorem c2_73 (s0 s1 : S) : L_f_law_1_4 (bd2 s0 s1 73) = .nx (bd2 s0 s1 73) := by kernel_rfl
theorem c2_74 (s0 s1 : S) : L_f_law_1_4 (bd2 s0 s1 74) = .nx (bd2 s0 s1 74) := by kernel_rfl
theorem c2_75 (s0 s1 : S) : L_f_law_1_4 (bd2 s0 s1 75) = .nx (bd2 s0 s1 75) := by kernel_rfl
theorem c2_76 (s0 s1 : S) : L_f_law_1_4 (bd2 s0 s1 76) = .nx (bd2 s0 s1 76) := by kernel_rfl
theorem c2_77 (s0 s1 : S) : L_f_law_1_4 (bd2 s0 s1 77) = .nx (bd2 s0 s1 77) := by kernel_rfl
theorem c2_78 (s0 s1 : S) : L_f_law_1_4 (bd2 s0 s1 78) = .nx (bd2 s0 s1 78) := by kernel_rfl
theorem c2_79 (s0 s1 : S) : L_f_law_1_4 (bd2 s0 s1 79) = .nx (bd2 s0 s1 79) := by kernel_rfl
theorem c2_80 (s0 s1 : S) : L_f_law_1_4 (bd2 s0 s1 80) = .nx (bd2 s0 s1 80) := by kernel_rfl
theorem c2_81 (s0 s1 : S) : L_f_law_1_4 (bd2 s0 s1 81) = .nx (bd2 s0 s1 81) := by kernel_rfl
theorem c2_82 (s0 s1 : S) : L_f_law_1_4 (bd2 s0 s1 82) = .nx (bd2 s0 s1 82) := by kernel_rfl
theorem c2_83 (s0 s1 : S) : L_f_law_1_4 (bd2 s0 s1 83) = .nx (bd2 s0 s1 83) := by kernel_rfl
theorem c2_84 (s0 s1 : S) : L_f_law_1_4 (bd2 s0 s1 84) = .nx (bd2 s0 s1 84) := by kernel_rfl
theorem c2_85 (s0 s1 : S) : L_f_law_1_4 (bd2 s0 s1 85) = .nx (bd2 s0 s1 85) := by kernel_rfl
theorem c2_86 (s0 s1 : S) : L_f_law_1_4 (bd2 s0 s1 86) = .nx (bd2 s0 s1 86) := by kernel_rfl
theorem c2_87 (s0 s1 : S) : L_f_law_1_4 (bd2 s0 s1 87) = .nx (bd2 s0 s1 87) := by kernel_rfl
theorem c2_88 (s0 s1 : S) : L_f_law_1_4 (bd2 s0 s1 88) = .nx (bd2 s0 s1 88) := by kernel_rfl
theorem c2_89 (s0 s1 : S) : L_f_law_1_4 (bd2 s0 s1 89) = .nx (bd2 s0 s1 89) := by kernel_rfl
theorem call2 (s0 s1 : S) : ∀ n : Nat, n < 90 → L_f_law_1_4 [s0, s1, .d (.int ((n : Int) + 1)), desk, .gone, .d (.int 2), .gone] = .nx [s0, s1, .d (.int ((n : Int) + 1)), desk, .gone, .d (.int 2), .gone]
  | 0, _ => c2_0 s0 s1
  | 1, _ => c2_1 s0 s1
  | 2, _ => c2_2 s0 s1
  | 3, _ => c2_3 s0 s1
  | 4, _ => c2_4 s0 s1
  | 5, _ => c2_5 s0 s1
  | 6, _ => c2_6 s0 s1
  | 7, _ => c2_7 s0 s1
  | 8, _ => c2_8 s0 s1
  | 9, _ => c2_9 s0 s1
  | 10, _ => c2_10 s0 s1
  | 11, _ => c2_11 s0 s1
  | 12, _ => c2_12 s0 s1
  | 13, _ => c2_13 s0 s1
  | 14, _ => c2_14 s0 s1
  | 15, _ => c2_15 s0 s1
  | 16, _ => c2_16 s0 s1
  | 17, _ => c2_17 s0 s1
  | 18, _ => c2_18 s0 s1
  | 19, _ => c2_19 s0 s1
  | 20, _ => c2_20 s0 s1
  | 21, _ => c2_21 s0 s1
  | 22, _ => c2_22 s0 s1
  | 23, _ => c2_23 s0 s1
  | 24, _ => c2_24 s0 s1
  | 25, _ => c2_25 s0 s1
  | 26, _ => c2_26 s0 s1
  | 27, _ => c2_27 s0 s1
  | 28, _ => c2_28 s0 s1
  | 29, _ => c2_29 s0 s1
  | 30, _ => c2_30 s0 s1
  | 31, _ => c2_31 s0 s1
  | 32, _ => c2_32 s0 s1
  | 33, _ => c2_33 s0 s1
  | 34, _ => c2_34 s0 s1
  | 35, _ => c2_35 s0 s1
  | 36, _ => c2_36 s0 s1
  | 37, _ => c2_37 s0 s1
  | 38, _ => c2_38 s0 s1
  | 39, _ => c2_39 s0 s1
  | 40, _ => c2_40 s0 s1
  | 41, _ => c2_41 s0 s1
  | 42, _ => c2_42 s0 s1
  | 43, _ => c2_43 s0 s1
  | 44, _ => c2_44 s0 s1
  | 45, _ => c2_45 s0 s1
  | 46, _ => c2_46 s0 s1
  | 47, _ => c2_47 s0 s1
  | 48, _ => c2_48 s0 s1
  | 49, _ => c2_49 s0 s1
  | 50, _ => c2_50 s0 s1
  | 51, _ => c2_51 s0 s1
  | 52, _ => c2_52 s0 s1
  | 53, _ => c2_53 s0 s1
  | 54, _ => c2_54 s0 s1
  | 55, _ => c2_55 s0 s1
  | 56, _ => c2_56 s0 s1
  | 57, _ => c2_57 s0 s1
  | 58, _ => c2_58 s0 s1
  | 59, _ => c2_59 s0 s1
  | 60, _ => c2_60 s0 s1
  | 61, _ => c2_61 s0 s1
  | 62, _ => c2_62 s0 s1
  | 63, _ => c2_63 s0 s1
  | 64, _ => c2_64 s0 s1
  | 65, _ => c2_65 s0 s1
  | 66, _ => c2_66 s0 s1
  | 67, _ => c2_67 s0 s1
  | 68, _ => c2_68 s0 s1
  | 69, _ => c2_69 s0 s1
  | 70, _ => c2_70 s0 s1
  | 71, _ => c2_71 s0 s1
  | 72, _ => c2_72 s0 s1
  | 73, _ => c2_73 s0 s1
  | 74, _ => c2_74 s0 s1
  | 75, _ => c2_75 s0 s1
  | 76, _ => c2_76 s0 s1
  | 77, _ => c2_77 s0 s1
  | 78, _ => c2_78 s0 s1
  | 79, _ => c2_79 s0 s1
  | 80, _ => c2_80 s0 s1
  | 81, _ => c2_81 s0 s1
  | 82, _ => c2_82 s0 s1
  | 83, _ => c2_83 s0 s1
  | 84, _ => c2_84 s0 s1
  | 85, _ => c2_85 s0 s1
  | 86, _ => c2_86 s0 s1
  | 87, _ => c2_87 s0 s1
  | 88, _ => c2_88 s0 s1
  | 89, _ => c2_89 s0 s1
  | n + 90, h => absurd h (by omega)
def bd3 (s0 s1 : S) (n : Int) : List S := [s0, s1, .d (.int (n + 1)), desk, .gone, .d (.int 3), .gone]
theorem c3_0 (s0 s1 : S) : L_f_law_1_4 (bd3 s0 s1 0) = .nx (bd3 s0 s1 0) := by kernel_rfl
theorem c3_1 (s0 s1 : S) : L_f_law_1_4 (bd3 s0 s1 1) = .nx (bd3 s0 s1 1) := by kernel_rfl
theorem c3_2 (s0 s1 : S) : L_f_law_1_4 (bd3 s0 s1 2) = .nx (bd3 s0 s1 2) := by kernel_rfl
theorem c3_3 (s0 s1 : S) : L_f_law_1_4 (bd3 s0 s1 3) = .nx (bd3 s0 s1 3) := by kernel_rfl
theorem c3_4 (s0 s1 : S) : L_f_law_1_4 (bd3 s0 s1 4) = .nx (bd3 s0 s1 4) := by kernel_rfl
theorem c3_5 (s0 s1 : S) : L_f_law_1_4 (bd3 s0 s1 5) = .nx (bd3 s0 s1 5) := by kernel_rfl
theorem c3_6 (s0 s1 : S) : L_f_law_1_4 (bd3 s0 s1 6) = .nx (bd3 s0 s1 6) := by kernel_rfl
theorem c3_7 (s0 s1 : S) : L_f_law_1_4 (bd3 s0 s1 7) = .nx (bd3 s0 s1 7) := by kernel_rfl
theorem c3_8 (s0 s1 : S) : L_f_law_1_4 (bd3 s0 s1 8) = .nx (bd3 s0 s1 8) := by kernel_rfl
theorem c3_9 (s0 s1 : S) : L_f_law_1_4 (bd3 s0 s1 9) = .nx (bd3 s0 s1 9) := by kernel_rfl
theorem c3_10 (s0 s1 : S) : L_f_law_1_4 (bd3 s0 s1 10) = .nx (bd3 s0 s1 10) := by kernel_rfl
theorem c3_11 (s0 s1 : S) : L_f_law_1_4 (bd3 s0 s1 11) = .nx (bd3 s0 s1 11) := by kernel_rfl
theorem c3_12 (s0 s1 : S) : L_f_law_1_4 (bd3 s0 s1 12) = .nx (bd3 s0 s1 12) := by kernel_rfl
theorem c3_13 (s0 s1 : S) : L_f_law_1_4 (bd3 s0 s1 13) = .nx (bd3 s0 s1 13) := by kernel_rfl
theorem c3_14 (s0 s1 : S) : L_f_law_1_4 (bd3 s0 s1 14) = .nx (bd3 s0 s1 14) := by kernel_rfl
theorem c3_15 (s0 s1 : S) : L_f_law_1_4 (bd3 s0 s1 15) = .nx (bd3 s0 s1 15) := by kernel_rfl
theorem c3_16 (s0 s1 : S) : L_f_law_1_4 (bd3 s0 s1 16) = .nx (bd3 s0 s1 16) := by kernel_rfl
theorem c3_17 (s0 s1 : S) : L_f_law_1_4 (bd3 s0 s1 17) = .nx (bd3 s0 s1 17) := by kernel_rfl
theorem c3_18 (s0 s1 : S) : L_f_law_1_4 (bd3 s0 s1 18) = .nx (bd3 s0 s1 18) := by kernel_rfl
theorem c3_19 (s0 s1 : S) : L_f_law_1_4 (bd3 s0 s1 19) = .nx (bd3 s0 s1 19) := by kernel_rfl
theorem c3_20 (s0 s1 : S) : L_f_law_1_4 (bd3 s0 s1 20) = .nx (bd3 s0 s1 20) := by kernel_rfl
theorem c3_21 (s0 s1 : S) : L_f_law_1_4 (bd3 s0 s1 21) = .nx (bd3 s0 s1 21) := by kernel_rfl
theorem c3_22 (s0 s1 : S) : L_f_law_1_4 (bd3 s0 s1 22) = .nx (bd3 s0 s1 22) := by kernel_rfl
theorem c3_23 (s0 s1 : S) : L_f_law_1_4 (bd3 s0 s1 23) = .nx (bd3 s0 s1 23) := by kernel_rfl
theorem c3_24 (s0 s1 : S) : L_f_law_1_4 (bd3 s0 s1 24) = .nx (bd3 s0 s1 24) := by kernel_rfl
theorem c3_25 (s0 s1 : S) : L_f_law_1_4 (bd3 s0 s1 25) = .nx (bd3 s0 s1 25) := by kernel_rfl
theorem c3_26 (s0 s1 : S) : L_f_law_1_4 (bd3 s0 s1 26) = .nx (bd3 s0 s1 26) := by kernel_rfl
theorem c3_27 (s0 s1 : S) : L_f_law_1_4 (bd3 s0 s1 27) = .nx (bd3 s0 s1 27) := by kernel_rfl
theorem c3_28 (s0 s1 : S) : L_f_law_1_4 (bd3 s0 s1 28) = .nx (bd3 s0 s1 28) := by kernel_rfl
theorem c3_29 (s0 s1 : S) : L_f_law_1_4 (bd3 s0 s1 29) = .nx (bd3 s0 s1 29) := by kernel_rfl
theorem c3_30 (s0 s1 : S) : L_f_law_1_4 (bd3 s0 s1 30) = .nx (bd3 s0 s1 30) := by kernel_rfl
theorem c3_31 (s0 s1 : S) : L_f_law_1_4 (bd3 s0 s1 31) = .nx (bd3 s0 s1 31) := by kernel_rfl
theorem c3_32 (s0 s1 : S) : L_f_law_1_4 (bd3 s0 s1 32) = .nx (bd3 s0 s1 32) := by kernel_rfl
theorem c3_33 (s0 s1 : S) : L_f_law_1_4 (bd3 s0 s1 33) = .nx (bd3 s0 s1 33) := by kernel_rfl
theorem c3_34 (s0 s1 : S) : L_f_law_1_4 (bd3 s0 s1 34) = .nx (bd3 s0 s1 34) := by kernel_rfl
theorem c3_35 (s0 s1 : S) : L_f_law_1_4 (bd3 s0 s1 35) = .nx (bd3 s0 s1 35) := by kernel_rfl
theorem c3_36 (s0 s1 : S) : L_f_law_1_4 (bd3 s0 s1 36) = .nx (bd3 s0 s1 36) := by kernel_rfl
theorem c3_37 (s0 s1 : S) : L_f_law_1_4 (bd3 s0 s1 37) = .nx (bd3 s0 s1 37) := by kernel_rfl
theorem c3_38 (s0 s1 : S) : L_f_law_1_4 (bd3 s0 s1 38) = .nx (bd3 s0 s1 38) := by kernel_rfl
theorem c3_39 (s0 s1 : S) : L_f_law_1_4 (bd3 s0 s1 39) = .nx (bd3 s0 s1 39) := by kernel_rfl
theorem c3_40 (s0 s1 : S) : L_f_law_1_4 (bd3 s0 s1 40) = .nx (bd3 s0 s1 40) := by kernel_rfl
theorem c3_41 (s0 s1 : S) : L_f_law_1_4 (bd3 s0 s1 41) = .nx (bd3 s0 s1 41) := by kernel_rfl
theorem c3_42 (s0 s1 : S) : L_f_law_1_4 (bd3 s0 s1 42) = .nx (bd3 s0 s1 42) := by kernel_rfl
theorem c3_43 (s0 s1 : S) : L_f_law_1_4 (bd3 s0 s1 43) = .nx (bd3 s0 s1 43) := by kernel_rfl
theorem c3_44 (s0 s1 : S) : L_f_law_1_4 (bd3 s0 s1 44) = .nx (bd3 s0 s1 44) := by kernel_rfl
theorem c3_45 (s0 s1 : S) : L_f_law_1_4 (bd3 s0 s1 45) = .nx (bd3 s0 s1 45) := by kernel_rfl
theorem c3_46 (s0 s1 : S) : L_f_law_1_4 (bd3 s0 s1 46) = .nx (bd3 s0 s1 46) := by kernel_rfl
theorem c3_47 (s0 s1 : S) : L_f_law_1_4 (bd3 s0 s1 47) = .nx (bd3 s0 s1 47) := by kernel_rfl
theorem c3_48 (s0 s1 : S) : L_f_law_1_4 (bd3 s0 s1 48) = .nx (bd3 s0 s1 48) := by kernel_rfl
theorem c3_49 (s0 s1 : S) : L_f_law_1_4 (bd3 s0 s1 49) = .nx (bd3 s0 s1 49) := by kernel_rfl
theorem c3_50 (s0 s1 : S) : L_f_law_1_4 (bd3 s0 s1 50) = .nx (bd3 s0 s1 50) := by kernel_rfl
theorem c3_51 (s0 s1 : S) : L_f_law_1_4 (bd3 s0 s1 51) = .nx (bd3 s0 s1 51) := by kernel_rfl
theorem c3_52 (s0 s1 : S) : L_f_law_1_4 (bd3 s0 s1 52) = .nx (bd3 s0 s1 52) := by kernel_rfl
theorem c3_53 (s0 s1 : S) : L_f_law_1_4 (bd3 s0 s1 53) = .nx (bd3 s0 s1 53) := by kernel_rfl
theorem c3_54 (s0 s1 : S) : L_f_law_1_4 (bd3 s0 s1 54) = .nx (bd3 s0 s1 54) := by kernel_rfl
theorem c3_55 (s0 s1 : S) : L_f_law_1_4 (bd3 s0 s1 55) = .nx (bd3 s0 s1 55) := by kernel_rfl
theorem c3_56 (s0 s1 : S) : L_f_law_1_4 (bd3 s0 s1 56) = .nx (bd3 s0 s1 56) := by kernel_rfl
theorem c3_57 (s0 s1 : S) : L_f_law_1_4 (bd3 s0 s1 57) = .nx (bd3 s0 s1 57) := by kernel_rfl
theorem c3_58 (s0 s1 : S) : L_f_law_1_4 (bd3 s0 s1 58) = .nx (bd3 s0 s1 58) := by kernel_rfl
theorem c3_59 (s0 s1 : S) : L_f_law_1_4 (bd3 s0 s1 59) = .nx (bd3 s0 s1 59) := by kernel_rfl
theorem c3_60 (s0 s1 : S) : L_f_law_1_4 (bd3 s0 s1 60) = .nx (bd3 s0 s1 60) := by kernel_rfl
theorem c3_61 (s0 s1 : S) : L_f_law_1_4 (bd3 s0 s1 61) = .nx (bd3 s0 s1 61) := by kernel_rfl
theorem c3_62 (s0 s1 : S) : L_f_law_1_4 (bd3 s0 s1 62) = .nx (bd3 s0 s1 62) := by kernel_rfl
theorem c3_63 (s0 s1 : S) : L_f_law_1_4 (bd3 s0 s1 63) = .nx (bd3 s0 s1 63) := by kernel_rfl
theorem c3_64 (s0 s1 : S) : L_f_law_1_4 (bd3 s0 s1 64) = .nx (bd3 s0 s1 64) := by kernel_rfl
theorem c3_65 (s0 s1 : S) : L_f_law_1_4 (bd3 s0 s1 65) = .nx (bd3 s0 s1 65) := by kernel_rfl
theorem c3_66 (s0 s1 : S) : L_f_law_1_4 (bd3 s0 s1 66) = .nx (bd3 s0 s1 66) := by kernel_rfl
theorem c3_67 (s0 s1 : S) : L_f_law_1_4 (bd3 s0 s1 67) = .nx (bd3 s0 s1 67) := by kernel_rfl
theorem c3_68 (s0 s1 : S) : L_f_law_1_4 (bd3 s0 s1 68) = .nx (bd3 s0 s1 68) := by kernel_rfl
theorem c3_69 (s0 s1 : S) : L_f_law_1_4 (bd3 s0 s1 69) = .nx (bd3 s0 s1 69) := by kernel_rfl
theorem c3_70 (s0 s1 : S) : L_f_law_1_4 (bd3 s0 s1 70) = .nx (bd3 s0 s1 70) := by kernel_rfl
theorem c3_71 (s0 s1 : S) : L_f_law_1_4 (bd3 s0 s1 71) = .nx (bd3 s0 s1 71) := by kernel_rfl
theorem c3_72 (s0 s1 : S) : L_f_law_1_4 (bd3 s0 s1 72) = .nx (bd3 s0 s1 72) := by kernel_rfl
theorem c3_73 (s0 s1 : S) : L_f_law_1_4 (bd3 s0 s1 73) = .nx (bd3 s0 s1 73) := by kernel_rfl
theorem c3_74 (s0 s1 : S) : L_f_law_1_4 (bd3 s0 s1 74) = .nx (bd3 s0 s1 74) := by kernel_rfl
theorem c3_75 (s0 s1 : S) : L_f_law_1_4 (bd3 s0 s1 75) = .nx (bd3 s0 s1 75) := by kernel_rfl
theorem c3_76 (s0 s1 : S) : L_f_law_1_4 (bd3 s0 s1 76) = .nx (bd3 s0 s1 76) := by kernel_rfl
theorem c3_77 (s0 s1 : S) : L_f_law_1_4 (bd3 s0 s1 77) = .nx (bd3 s0 s1 77) := by kernel_rfl
theorem c3_78 (s0 s1 : S) : L_f_law_1_4 (bd3 s0 s1 78) = .nx (bd3 s0 s1 78) := by kernel_rfl
theorem c3_79 (s0 s1 : S) : L_f_law_1_4 (bd3 s0 s1 79) = .nx (bd3 s0 s1 79) := by kernel_rfl
theorem c3_80 (s0 s1 : S) : L_f_law_1_4 (bd3 s0 s1 80) = .nx (bd3 s0 s1 80) := by kernel_rfl
theorem c3_81 (s0 s1 : S) : L_f_law_1_4 (bd3 s0 s1 81) = .nx (bd3 s0 s1 81) := by kernel_rfl
theorem c3_82 (s0 s1 : S) : L_f_law_1_4 (bd3 s0 s1 82) = .nx (bd3 s0 s1 82) := by kernel_rfl
theorem c3_83 (s0 s1 : S) : L_f_law_1_4 (bd3 s0 s1 83) = .nx (bd3 s0 s1 83) := by kernel_rfl
theorem c3_84 (s0 s1 : S) : L_f_law_1_4 (bd3 s0 s1 84) = .nx (bd3 s0 s1 84) := by kernel_rfl
theorem c3_85 (s0 s1 : S) : L_f_law_1_4 (bd3 s0 s1 85) = .nx (bd3 s0 s1 85) := by kernel_rfl
theorem c3_86 (s0 s1 : S) : L_f_law_1_4 (bd3 s0 s1 86) = .nx (bd3 s0 s1 86) := by kernel_rfl
theorem c3_87 (s0 s1 : S) : L_f_law_1_4 (bd3 s0 s1 87) = .nx (bd3 s0 s1 87) := by kernel_rfl
theorem c3_88 (s0 s1 : S) : L_f_law_1_4 (bd3 s0 s1 88) = .nx (bd3 s0 s1 88) := by kernel_rfl
theorem c3_89 (s0 s1 : S) : L_f_law_1_4 (bd3 s0 s1 89) = .nx (bd3 s0 s1 89) := by kernel_rfl
theorem call3 (s0 s1 : S) : ∀ n : Nat, n < 90 → L_f_law_1_4 [s0, s1, .d (.int ((n : Int) + 1)), desk, .gone, .d (.int 3), .gone] = .nx [s0, s1, .d (.int ((n : Int) + 1)), desk, .gone, .d (.int 3), .gone]
  | 0, _ => c3_0 s0 s1
  | 1, _ => c3_1 s0 s1
  | 2, _ => c3_2 s0 s1
  | 3, _ => c3_3 s0 s1
  | 4, _ => c3_4 s0 s1
  | 5, _ => c3_5 s0 s1
  | 6, _ => c3_6 s0 s1
  | 7, _ => c3_7 s0 s1
  | 8, _ => c3_8 s0 s1
  | 9, _ => c3_9 s0 s1
  | 10, _ => c3_10 s0 s1
  | 11, _ => c3_11 s0 s1
  | 12, _ => c3_12 s0 s1
  | 13, _ => c3_13 s0 s1
  | 14, _ => c3_14 s0 s1
  | 15, _ => c3_15 s0 s1
  | 16, _ => c3_16 s0 s1
  | 17, _ => c3_17 s0 s1
  | 18, _ => c3_18 s0 s1
  | 19, _ => c3_19 s0 s1
  | 20, _ => c3_20 s0 s1
  | 21, _ => c3_21 s0 s1
  | 22, _ => c3_22 s0 s1
  | 23, _ => c3_23 s0 s1
  | 24, _ => c3_24 s0 s1
  | 25, _ => c3_25 s0 s1
  | 26, _ => c3_26 s0 s1
  | 27, _ => c3_27 s0 s1
  | 28, _ => c3_28 s0 s1
  | 29, _ => c3_29 s0 s1
  | 30, _ => c3_30 s0 s1
  | 31, _ => c3_31 s0 s1
  | 32, _ => c3_32 s0 s1
  | 33, _ => c3_33 s0 s1
  | 34, _ => c3_34 s0 s1
  | 35, _ => c3_35 s0 s1
  | 36, _ => c3_36 s0 s1
  | 37, _ => c3_37 s0 s1
  | 38, _ => c3_38 s0 s1
  | 39, _ => c3_39 s0 s1
  | 40, _ => c3_40 s0 s1
  | 41, _ => c3_41 s0 s1
  | 42, _ => c3_42 s0 s1
  | 43, _ => c3_43 s0 s1
  | 44, _ => c3_44 s0 s1
  | 45, _ => c3_45 s0 s1
  | 46, _ => c3_46 s0 s1
  | 47, _ => c3_47 s0 s1
  | 48, _ => c3_48 s0 s1
  | 49, _ => c3_49 s0 s1
  | 50, _ => c3_50 s0 s1
  | 51, _ => c3_51 s0 s1
  | 52, _ => c3_52 s0 s1
  | 53, _ => c3_53 s0 s1
  | 54, _ => c3_54 s0 s1
  | 55, _ => c3_55 s0 s1
  | 56, _ => c3_56 s0 s1
  | 57, _ => c3_57 s0 s1
  | 58, _ => c3_58 s0 s1
  | 59, _ => c3_59 s0 s1
  | 60, _ => c3_60 s0 s1
  | 61, _ => c3_61 s0 s1
  | 62, _ => c3_62 s0 s1
  | 63, _ => c3_63 s0 s1
  | 64, _ => c3_64 s0 s1
  | 65, _ => c3_65 s0 s1
  | 66, _ => c3_66 s0 s1
  | 67, _ => c3_67 s0 s1
  | 68, _ => c3_68 s0 s1
  | 69, _ => c3_69 s0 s1
  | 70, _ => c3_70 s0 s1
  | 71, _ => c3_71 s0 s1
  | 72, _ => c3_72 s0 s1
  | 73, _ => c3_73 s0 s1
  | 74, _ => c3_74 s0 s1
  | 75, _ => c3_75 s0 s1
  | 76, _ => c3_76 s0 s1
  | 77, _ => c3_77 s0 s1
  | 78, _ => c3_78 s0 s1
  | 79, _ => c3_79 s0 s1
  | 80, _ => c3_80 s0 s1
  | 81, _ => c3_81 s0 s1
  | 82, _ => c3_82 s0 s1
  | 83, _ => c3_83 s0 s1
  | 84, _ => c3_84 s0 s1
  | 85, _ => c3_85 s0 s1
  | 86, _ => c3_86 s0 s1
  | 87, _ => c3_87 s0 s1
  | 88, _ => c3_88 s0 s1
  | 89, _ => c3_89 s0 s1
  | n + 90, h => absurd h (by omega)
def bd4 (s0 s1 : S) (n : Int) : List S := [s0, s1, .d (.int (n + 1)), desk, .gone, .d (.int 4), .gone]
theorem c4_0 (s0 s1 : S) : L_f_law_1_4 (bd4 s0 s1 0) = .nx (bd4 s0 s1 0) := by kernel_rfl
theorem c4_1 (s0 s1 : S) : L_f_law_1_4 (bd4 s0 s1 1) = .nx (bd4 s0 s1 1) := by kernel_rfl
theorem c4_2 (s0 s1 : S) : L_f_law_1_4 (bd4 s0 s1 2) = .nx (bd4 s0 s1 2) := by kernel_rfl
theorem c4_3 (s0 s1 : S) : L_f_law_1_4 (bd4 s0 s1 3) = .nx (bd4 s0 s1 3) := by kernel_rfl
theorem c4_4 (s0 s1 : S) : L_f_law_1_4 (bd4 s0 s1 4) = .nx (bd4 s0 s1 4) := by kernel_rfl
theorem c4_5 (s0 s1 : S) : L_f_law_1_4 (bd4 s0 s1 5) = .nx (bd4 s0 s1 5) := by kernel_rfl
theorem c4_6 (s0 s1 : S) : L_f_law_1_4 (bd4 s0 s1 6) = .nx (bd4 s0 s1 6) := by kernel_rfl
theorem c4_7 (s0 s1 : S) : L_f_law_1_4 (bd4 s0 s1 7) = .nx (bd4 s0 s1 7) := by kernel_rfl
theorem c4_8 (s0 s1 : S) : L_f_law_1_4 (bd4 s0 s1 8) = .nx (bd4 s0 s1 8) := by kernel_rfl
theorem c4_9 (s0 s1 : S) : L_f_law_1_4 (bd4 s0 s1 9) = .nx (bd4 s0 s1 9) := by kernel_rfl
theorem c4_10 (s0 s1 : S) : L_f_law_1_4 (bd4 s0 s1 10) = .nx (bd4 s0 s1 10) := by kernel_rfl
theorem c4_11 (s0 s1 : S) : L_f_law_1_4 (bd4 s0 s1 11) = .nx (bd4 s0 s1 11) := by kernel_rfl
theorem c4_12 (s0 s1 : S) : L_f_law_1_4 (bd4 s0 s1 12) = .nx (bd4 s0 s1 12) := by kernel_rfl
theorem c4_13 (s0 s1 : S) : L_f_law_1_4 (bd4 s0 s1 13) = .nx (bd4 s0 s1 13) := by kernel_rfl
theorem c4_14 (s0 s1 : S) : L_f_law_1_4 (bd4 s0 s1 14) = .nx (bd4 s0 s1 14) := by kernel_rfl
theorem c4_15 (s0 s1 : S) : L_f_law_1_4 (bd4 s0 s1 15) = .nx (bd4 s0 s1 15) := by kernel_rfl
theorem c4_16 (s0 s1 : S) : L_f_law_1_4 (bd4 s0 s1 16) = .nx (bd4 s0 s1 16) := by kernel_rfl
theorem c4_17 (s0 s1 : S) : L_f_law_1_4 (bd4 s0 s1 17) = .nx (bd4 s0 s1 17) := by kernel_rfl
theorem c4_18 (s0 s1 : S) : L_f_law_1_4 (bd4 s0 s1 18) = .nx (bd4 s0 s1 18) := by kernel_rfl
theorem c4_19 (s0 s1 : S) : L_f_law_1_4 (bd4 s0 s1 19) = .nx (bd4 s0 s1 19) := by kernel_rfl
theorem c4_20 (s0 s1 : S) : L_f_law_1_4 (bd4 s0 s1 20) = .nx (bd4 s0 s1 20) := by kernel_rfl
theorem c4_21 (s0 s1 : S) : L_f_law_1_4 (bd4 s0 s1 21) = .nx (bd4 s0 s1 21) := by kernel_rfl
theorem c4_22 (s0 s1 : S) : L_f_law_1_4 (bd4 s0 s1 22) = .nx (bd4 s0 s1 22) := by kernel_rfl
theorem c4_23 (s0 s1 : S) : L_f_law_1_4 (bd4 s0 s1 23) = .nx (bd4 s0 s1 23) := by kernel_rfl
theorem c4_24 (s0 s1 : S) : L_f_law_1_4 (bd4 s0 s1 24) = .nx (bd4 s0 s1 24) := by kernel_rfl
theorem c4_25 (s0 s1 : S) : L_f_law_1_4 (bd4 s0 s1 25) = .nx (bd4 s0 s1 25) := by kernel_rfl
theorem c4_26 (s0 s1 : S) : L_f_law_1_4 (bd4 s0 s1 26) = .nx (bd4 s0 s1 26) := by kernel_rfl
theorem c4_27 (s0 s1 : S) : L_f_law_1_4 (bd4 s0 s1 27) = .nx (bd4 s0 s1 27) := by kernel_rfl
theorem c4_28 (s0 s1 : S) : L_f_law_1_4 (bd4 s0 s1 28) = .nx (bd4 s0 s1 28) := by kernel_rfl
theorem c4_29 (s0 s1 : S) : L_f_law_1_4 (bd4 s0 s1 29) = .nx (bd4 s0 s1 29) := by kernel_rfl
theorem c4_30 (s0 s1 : S) : L_f_law_1_4 (bd4 s0 s1 30) = .nx (bd4 s0 s1 30) := by kernel_rfl
theorem c4_31 (s0 s1 : S) : L_f_law_1_4 (bd4 s0 s1 31) = .nx (bd4 s0 s1 31) := by kernel_rfl
theorem c4_32 (s0 s1 : S) : L_f_law_1_4 (bd4 s0 s1 32) = .nx (bd4 s0 s1 32) := by kernel_rfl
theorem c4_33 (s0 s1 : S) : L_f_law_1_4 (bd4 s0 s1 33) = .nx (bd4 s0 s1 33) := by kernel_rfl
theorem c4_34 (s0 s1 : S) : L_f_law_1_4 (bd4 s0 s1 34) = .nx (bd4 s0 s1 34) := by kernel_rfl
theorem c4_35 (s0 s1 : S) : L_f_law_1_4 (bd4 s0 s1 35) = .nx (bd4 s0 s1 35) := by kernel_rfl
theorem c4_36 (s0 s1 : S) : L_f_law_1_4 (bd4 s0 s1 36) = .nx (bd4 s0 s1 36) := by kernel_rfl
theorem c4_37 (s0 s1 : S) : L_f_law_1_4 (bd4 s0 s1 37) = .nx (bd4 s0 s1 37) := by kernel_rfl
theorem c4_38 (s0 s1 : S) : L_f_law_1_4 (bd4 s0 s1 38) = .nx (bd4 s0 s1 38) := by kernel_rfl
theorem c4_39 (s0 s1 : S) : L_f_law_1_4 (bd4 s0 s1 39) = .nx (bd4 s0 s1 39) := by kernel_rfl
theorem c4_40 (s0 s1 : S) : L_f_law_1_4 (bd4 s0 s1 40) = .nx (bd4 s0 s1 40) := by kernel_rfl
theorem c4_41 (s0 s1 : S) : L_f_law_1_4 (bd4 s0 s1 41) = .nx (bd4 s0 s1 41) := by kernel_rfl
theorem c4_42 (s0 s1 : S) : L_f_law_1_4 (bd4 s0 s1 42) = .nx (bd4 s0 s1 42) := by kernel_rfl
theorem c4_43 (s0 s1 : S) : L_f_law_1_4 (bd4 s0 s1 43) = .nx (bd4 s0 s1 43) := by kernel_rfl
theorem c4_44 (s0 s1 : S) : L_f_law_1_4 (bd4 s0 s1 44) = .nx (bd4 s0 s1 44) := by kernel_rfl
theorem c4_45 (s0 s1 : S) : L_f_law_1_4 (bd4 s0 s1 45) = .nx (bd4 s0 s1 45) := by kernel_rfl
theorem c4_46 (s0 s1 : S) : L_f_law_1_4 (bd4 s0 s1 46) = .nx (bd4 s0 s1 46) := by kernel_rfl
theorem c4_47 (s0 s1 : S) : L_f_law_1_4 (bd4 s0 s1 47) = .nx (bd4 s0 s1 47) := by kernel_rfl
theorem c4_48 (s0 s1 : S) : L_f_law_1_4 (bd4 s0 s1 48) = .nx (bd4 s0 s1 48) := by kernel_rfl
theorem c4_49 (s0 s1 : S) : L_f_law_1_4 (bd4 s0 s1 49) = .nx (bd4 s0 s1 49) := by kernel_rfl
theorem c4_50 (s0 s1 : S) : L_f_law_1_4 (bd4 s0 s1 50) = .nx (bd4 s0 s1 50) := by kernel_rfl
theorem c4_51 (s0 s1 : S) : L_f_law_1_4 (bd4 s0 s1 51) = .nx (bd4 s0 s1 51) := by kernel_rfl
theorem c4_52 (s0 s1 : S) : L_f_law_1_4 (bd4 s0 s1 52) = .nx (bd4 s0 s1 52) := by kernel_rfl
theorem c4_53 (s0 s1 : S) : L_f_law_1_4 (bd4 s0 s1 53) = .nx (bd4 s0 s1 53) := by kernel_rfl
theorem c4_54 (s0 s1 : S) : L_f_law_1_4 (bd4 s0 s1 54) = .nx (bd4 s0 s1 54) := by kernel_rfl
theorem c4_55 (s0 s1 : S) : L_f_law_1_4 (bd4 s0 s1 55) = .nx (bd4 s0 s1 55) := by kernel_rfl
theorem c4_56 (s0 s1 : S) : L_f_law_1_4 (bd4 s0 s1 56) = .nx (bd4 s0 s1 56) := by kernel_rfl
theorem c4_57 (s0 s1 : S) : L_f_law_1_4 (bd4 s0 s1 57) = .nx (bd4 s0 s1 57) := by kernel_rfl
theorem c4_58 (s0 s1 : S) : L_f_law_1_4 (bd4 s0 s1 58) = .nx (bd4 s0 s1 58) := by kernel_rfl
theorem c4_59 (s0 s1 : S) : L_f_law_1_4 (bd4 s0 s1 59) = .nx (bd4 s0 s1 59) := by kernel_rfl
theorem c4_60 (s0 s1 : S) : L_f_law_1_4 (bd4 s0 s1 60) = .nx (bd4 s0 s1 60) := by kernel_rfl
theorem c4_61 (s0 s1 : S) : L_f_law_1_4 (bd4 s0 s1 61) = .nx (bd4 s0 s1 61) := by kernel_rfl
theorem c4_62 (s0 s1 : S) : L_f_law_1_4 (bd4 s0 s1 62) = .nx (bd4 s0 s1 62) := by kernel_rfl
theorem c4_63 (s0 s1 : S) : L_f_law_1_4 (bd4 s0 s1 63) = .nx (bd4 s0 s1 63) := by kernel_rfl
theorem c4_64 (s0 s1 : S) : L_f_law_1_4 (bd4 s0 s1 64) = .nx (bd4 s0 s1 64) := by kernel_rfl
theorem c4_65 (s0 s1 : S) : L_f_law_1_4 (bd4 s0 s1 65) = .nx (bd4 s0 s1 65) := by kernel_rfl
theorem c4_66 (s0 s1 : S) : L_f_law_1_4 (bd4 s0 s1 66) = .nx (bd4 s0 s1 66) := by kernel_rfl
theorem c4_67 (s0 s1 : S) : L_f_law_1_4 (bd4 s0 s1 67) = .nx (bd4 s0 s1 67) := by kernel_rfl
theorem c4_68 (s0 s1 : S) : L_f_law_1_4 (bd4 s0 s1 68) = .nx (bd4 s0 s1 68) := by kernel_rfl
theorem c4_69 (s0 s1 : S) : L_f_law_1_4 (bd4 s0 s1 69) = .nx (bd4 s0 s1 69) := by kernel_rfl
theorem c4_70 (s0 s1 : S) : L_f_law_1_4 (bd4 s0 s1 70) = .nx (bd4 s0 s1 70) := by kernel_rfl
theorem c4_71 (s0 s1 : S) : L_f_law_1_4 (bd4 s0 s1 71) = .nx (bd4 s0 s1 71) := by kernel_rfl
theorem c4_72 (s0 s1 : S) : L_f_law_1_4 (bd4 s0 s1 72) = .nx (bd4 s0 s1 72) := by kernel_rfl
theorem c4_73 (s0 s1 : S) : L_f_law_1_4 (bd4 s0 s1 73) = .nx (bd4 s0 s1 73) := by kernel_rfl
theorem c4_74 (s0 s1 : S) : L_f_law_1_4 (bd4 s0 s1 74) = .nx (bd4 s0 s1 74) := by kernel_rfl
theorem c4_75 (s0 s1 : S) : L_f_law_1_4 (bd4 s0 s1 75) = .nx (bd4 s0 s1 75) := by kernel_rfl
theorem c4_76 (s0 s1 : S) : L_f_law_1_4 (bd4 s0 s1 76) = .nx (bd4 s0 s1 76) := by kernel_rfl
theorem c4_77 (s0 s1 : S) : L_f_law_1_4 (bd4 s0 s1 77) = .nx (bd4 s0 s1 77) := by kernel_rfl
theorem c4_78 (s0 s1 : S) : L_f_law_1_4 (bd4 s0 s1 78) = .nx (bd4 s0 s1 78) := by kernel_rfl
theorem c4_79 (s0 s1 : S) : L_f_law_1_4 (bd4 s0 s1 79) = .nx (bd4 s0 s1 79) := by kernel_rfl
theorem c4_80 (s0 s1 : S) : L_f_law_1_4 (bd4 s0 s1 80) = .nx (bd4 s0 s1 80) := by kernel_rfl
theorem c4_81 (s0 s1 : S) : L_f_law_1_4 (bd4 s0 s1 81) = .nx (bd4 s0 s1 81) := by kernel_rfl
theorem c4_82 (s0 s1 : S) : L_f_law_1_4 (bd4 s0 s1 82) = .nx (bd4 s0 s1 82) := by kernel_rfl
theorem c4_83 (s0 s1 : S) : L_f_law_1_4 (bd4 s0 s1 83) = .nx (bd4 s0 s1 83) := by kernel_rfl
theorem c4_84 (s0 s1 : S) : L_f_law_1_4 (bd4 s0 s1 84) = .nx (bd4 s0 s1 84) := by kernel_rfl
theorem c4_85 (s0 s1 : S) : L_f_law_1_4 (bd4 s0 s1 85) = .nx (bd4 s0 s1 85) := by kernel_rfl
theorem c4_86 (s0 s1 : S) : L_f_law_1_4 (bd4 s0 s1 86) = .nx (bd4 s0 s1 86) := by kernel_rfl
theorem c4_87 (s0 s1 : S) : L_f_law_1_4 (bd4 s0 s1 87) = .nx (bd4 s0 s1 87) := by kernel_rfl
theorem c4_88 (s0 s1 : S) : L_f_law_1_4 (bd4 s0 s1 88) = .nx (bd4 s0 s1 88) := by kernel_rfl
theorem c4_89 (s0 s1 : S) : L_f_law_1_4 (bd4 s0 s1 89) = .nx (bd4 s0 s1 89) := by kernel_rfl
theorem call4 (s0 s1 : S) : ∀ n : Nat, n < 90 → L_f_law_1_4 [s0, s1, .d (.int ((n : Int) + 1)), desk, .gone, .d (.int 4), .gone] = .nx [s0, s1, .d (.int ((n : Int) + 1)), desk, .gone, .d (.int 4), .gone]
  | 0, _ => c4_0 s0 s1
  | 1, _ => c4_1 s0 s1
  | 2, _ => c4_2 s0 s1
  | 3, _ => c4_3 s0 s1
  | 4, _ => c4_4 s0 s1
  | 5, _ => c4_5 s0 s1
  | 6, _ => c4_6 s0 s1
  | 7, _ => c4_7 s0 s1
  | 8, _ => c4_8 s0 s1
  | 9, _ => c4_9 s0 s1
  | 10, _ => c4_10 s0 s1
  | 11, _ => c4_11 s0 s1
  | 12, _ => c4_12 s0 s1
  | 13, _ => c4_13 s0 s1
  | 14, _ => c4_14 s0 s1
  | 15, _ => c4_15 s0 s1
  | 16, _ => c4_16 s0 s1
  | 17, _ => c4_17 s0 s1
  | 18, _ => c4_18 s0 s1
  | 19, _ => c4_19 s0 s1
  | 20, _ => c4_20 s0 s1
  | 21, _ => c4_21 s0 s1
  | 22, _ => c4_22 s0 s1
  | 23, _ => c4_23 s0 s1
  | 24, _ => c4_24 s0 s1
  | 25, _ => c4_25 s0 s1
  | 26, _ => c4_26 s0 s1
  | 27, _ => c4_27 s0 s1
  | 28, _ => c4_28 s0 s1
  | 29, _ => c4_29 s0 s1
  | 30, _ => c4_30 s0 s1
  | 31, _ => c4_31 s0 s1
  | 32, _ => c4_32 s0 s1
  | 33, _ => c4_33 s0 s1
  | 34, _ => c4_34 s0 s1
  | 35, _ => c4_35 s0 s1
  | 36, _ => c4_36 s0 s1
  | 37, _ => c4_37 s0 s1
  | 38, _ => c4_38 s0 s1
  | 39, _ => c4_39 s0 s1
  | 40, _ => c4_40 s0 s1
  | 41, _ => c4_41 s0 s1
  | 42, _ => c4_42 s0 s1
  | 43, _ => c4_43 s0 s1
  | 44, _ => c4_44 s0 s1
  | 45, _ => c4_45 s0 s1
  | 46, _ => c4_46 s0 s1
  | 47, _ => c4_47 s0 s1
  | 48, _ => c4_48 s0 s1
  | 49, _ => c4_49 s0 s1
  | 50, _ => c4_50 s0 s1
  | 51, _ => c4_51 s0 s1
  | 52, _ => c4_52 s0 s1
  | 53, _ => c4_53 s0 s1
  | 54, _ => c4_54 s0 s1
  | 55, _ => c4_55 s0 s1
  | 56, _ => c4_56 s0 s1
  | 57, _ => c4_57 s0 s1
  | 58, _ => c4_58 s0 s1
  | 59, _ => c4_59 s0 s1
  | 60, _ => c4_60 s0 s1
  | 61, _ => c4_61 s0 s1
  | 62, _ => c4_62 s0 s1
  | 63, _ => c4_63 s0 s1
  | 64, _ => c4_64 s0 s1
  | 65, _ => c4_65 s0 s1
  | 66, _ => c4_66 s0 s1
  | 67, _ => c4_67 s0 s1
  | 68, _ => c4_68 s0 s1
  | 69, _ => c4_69 s0 s1
  | 70, _ => c4_70 s0 s1
  | 71, _ => c4_71 s0 s1
  | 72, _ => c4_72 s0 s1
  | 73, _ => c4_73 s0 s1
  | 74, _ => c4_74 s0 s1
  | 75, _ => c4_75 s0 s1
  | 76, _ => c4_76 s0 s1
  | 77, _ => c4_77 s0 s1
  | 78, _ => c4_78 s0 s1
  | 79, _ => c4_79 s0 s1
  | 80, _ => c4_80 s0 s1
  | 81, _ => c4_81 s0 s1
  | 82, _ => c4_82 s0 s1
  | 83, _ => c4_83 s0 s1
  | 84, _ => c4_84 s0 s1
  | 85, _ => c4_85 s0 s1
  | 86, _ => c4_86 s0 s1
  | 87, _ => c4_87 s0 s1
  | 88, _ => c4_88 s0 s1
  | 89, _ => c4_89 s0 s1
  | n + 90, h => absurd h (by omega)
def bd6 (s0 s1 : S) (n : Int) : List S := [s0, s1, .d (.int (n + 1)), desk, .gone, .d (.int 6), .gone]
theorem c6_0 (s0 s1 : S) : L_f_law_1_4 (bd6 s0 s1 0) = .nx (bd6 s0 s1 0) := by kernel_rfl
theorem c6_1 (s0 s1 : S) : L_f_law_1_4 (bd6 s0 s1 1) = .nx (bd6 s0 s1 1) := by kernel_rfl
theorem c6_2 (s0 s1 : S) : L_f_law_1_4 (bd6 s0 s1 2) = .nx (bd6 s0 s1 2) := by kernel_rfl
theorem c6_3 (s0 s1 : S) : L_f_law_1_4 (bd6 s0 s1 3) = .nx (bd6 s0 s1 3) := by kernel_rfl
theorem c6_4 (s0 s1 : S) : L_f_law_1_4 (bd6 s0 s1 4) = .nx (bd6 s0 s1 4) := by kernel_rfl
theorem c6_5 (s0 s1 : S) : L_f_law_1_4 (bd6 s0 s1 5) = .nx (bd6 s0 s1 5) := by kernel_rfl
theorem c6_6 (s0 s1 : S) : L_f_law_1_4 (bd6 s0 s1 6) = .nx (bd6 s0 s1 6) := by kernel_rfl
theorem c6_7 (s0 s1 : S) : L_f_law_1_4 (bd6 s0 s1 7) = .nx (bd6 s0 s1 7) := by kernel_rfl
theorem c6_8 (s0 s1 : S) : L_f_law_1_4 (bd6 s0 s1 8) = .nx (bd6 s0 s1 8) := by kernel_rfl
theorem c6_9 (s0 s1 : S) : L_f_law_1_4 (bd6 s0 s1 9) = .nx (bd6 s0 s1 9) := by kernel_rfl
theorem c6_10 (s0 s1 : S) : L_f_law_1_4 (bd6 s0 s1 10) = .nx (bd6 s0 s1 10) := by kernel_rfl
theorem c6_11 (s0 s1 : S) : L_f_law_1_4 (bd6 s0 s1 11) = .nx (bd6 s0 s1 11) := by kernel_rfl
theorem c6_12 (s0 s1 : S) : L_f_law_1_4 (bd6 s0 s1 12) = .nx (bd6 s0 s1 12) := by kernel_rfl
theorem c6_13 (s0 s1 : S) : L_f_law_1_4 (bd6 s0 s1 13) = .nx (bd6 s0 s1 13) := by kernel_rfl
theorem c6_14 (s0 s1 : S) : L_f_law_1_4 (bd6 s0 s1 14) = .nx (bd6 s0 s1 14) := by kernel_rfl
theorem c6_15 (s0 s1 : S) : L_f_law_1_4 (bd6 s0 s1 15) = .nx (bd6 s0 s1 15) := by kernel_rfl
theorem c6_16 (s0 s1 : S) : L_f_law_1_4 (bd6 s0 s1 16) = .nx (bd6 s0 s1 16) := by kernel_rfl
theorem c6_17 (s0 s1 : S) : L_f_law_1_4 (bd6 s0 s1 17) = .nx (bd6 s0 s1 17) := by kernel_rfl
theorem c6_18 (s0 s1 : S) : L_f_law_1_4 (bd6 s0 s1 18) = .nx (bd6 s0 s1 18) := by kernel_rfl
theorem c6_19 (s0 s1 : S) : L_f_law_1_4 (bd6 s0 s1 19) = .nx (bd6 s0 s1 19) := by kernel_rfl
theorem c6_20 (s0 s1 : S) : L_f_law_1_4 (bd6 s0 s1 20) = .nx (bd6 s0 s1 20) := by kernel_rfl
theorem c6_21 (s0 s1 : S) : L_f_law_1_4 (bd6 s0 s1 21) = .nx (bd6 s0 s1 21) := by kernel_rfl
theorem c6_22 (s0 s1 : S) : L_f_law_1_4 (bd6 s0 s1 22) = .nx (bd6 s0 s1 22) := by kernel_rfl
theorem c6_23 (s0 s1 : S) : L_f_law_1_4 (bd6 s0 s1 23) = .nx (bd6 s0 s1 23) := by kernel_rfl
theorem c6_24 (s0 s1 : S) : L_f_law_1_4 (bd6 s0 s1 24) = .nx (bd6 s0 s1 24) := by kernel_rfl
theorem c6_25 (s0 s1 : S) : L_f_law_1_4 (bd6 s0 s1 25) = .nx (bd6 s0 s1 25) := by kernel_rfl
theorem c6_26 (s0 s1 : S) : L_f_law_1_4 (bd6 s0 s1 26) = .nx (bd6 s0 s1 26) := by kernel_rfl
theorem c6_27 (s0 s1 : S) : L_f_law_1_4 (bd6 s0 s1 27) = .nx (bd6 s0 s1 27) := by kernel_rfl
theorem c6_28 (s0 s1 : S) : L_f_law_1_4 (bd6 s0 s1 28) = .nx (bd6 s0 s1 28) := by kernel_rfl
theorem c6_29 (s0 s1 : S) : L_f_law_1_4 (bd6 s0 s1 29) = .nx (bd6 s0 s1 29) := by kernel_rfl
theorem c6_30 (s0 s1 : S) : L_f_law_1_4 (bd6 s0 s1 30) = .nx (bd6 s0 s1 30) := by kernel_rfl
theorem c6_31 (s0 s1 : S) : L_f_law_1_4 (bd6 s0 s1 31) = .nx (bd6 s0 s1 31) := by kernel_rfl
theorem c6_32 (s0 s1 : S) : L_f_law_1_4 (bd6 s0 s1 32) = .nx (bd6 s0 s1 32) := by kernel_rfl
theorem c6_33 (s0 s1 : S) : L_f_law_1_4 (bd6 s0 s1 33) = .nx (bd6 s0 s1 33) := by kernel_rfl
theorem c6_34 (s0 s1 : S) : L_f_law_1_4 (bd6 s0 s1 34) = .nx (bd6 s0 s1 34) := by kernel_rfl
theorem c6_35 (s0 s1 : S) : L_f_law_1_4 (bd6 s0 s1 35) = .nx (bd6 s0 s1 35) := by kernel_rfl
theorem c6_36 (s0 s1 : S) : L_f_law_1_4 (bd6 s0 s1 36) = .nx (bd6 s0 s1 36) := by kernel_rfl
theorem c6_37 (s0 s1 : S) : L_f_law_1_4 (bd6 s0 s1 37) = .nx (bd6 s0 s1 37) := by kernel_rfl
theorem c6_38 (s0 s1 : S) : L_f_law_1_4 (bd6 s0 s1 38) = .nx (bd6 s0 s1 38) := by kernel_rfl
theorem c6_39 (s0 s1 : S) : L_f_law_1_4 (bd6 s0 s1 39) = .nx (bd6 s0 s1 39) := by kernel_rfl
theorem c6_40 (s0 s1 : S) : L_f_law_1_4 (bd6 s0 s1 40) = .nx (bd6 s0 s1 40) := by kernel_rfl
theorem c6_41 (s0 s1 : S) : L_f_law_1_4 (bd6 s0 s1 41) = .nx (bd6 s0 s1 41) := by kernel_rfl
theorem c6_42 (s0 s1 : S) : L_f_law_1_4 (bd6 s0 s1 42) = .nx (bd6 s0 s1 42) := by kernel_rfl
theorem c6_43 (s0 s1 : S) : L_f_law_1_4 (bd6 s0 s1 43) = .nx (bd6 s0 s1 43) := by kernel_rfl
theorem c6_44 (s0 s1 : S) : L_f_law_1_4 (bd6 s0 s1 44) = .nx (bd6 s0 s1 44) := by kernel_rfl
theorem c6_45 (s0 s1 : S) : L_f_law_1_4 (bd6 s0 s1 45) = .nx (bd6 s0 s1 45) := by kernel_rfl
theorem c6_46 (s0 s1 : S) : L_f_law_1_4 (bd6 s0 s1 46) = .nx (bd6 s0 s1 46) := by kernel_rfl
theorem c6_47 (s0 s1 : S) : L_f_law_1_4 (bd6 s0 s1 47) = .nx (bd6 s0 s1 47) := by kernel_rfl
theorem c6_48 (s0 s1 : S) : L_f_law_1_4 (bd6 s0 s1 48) = .nx (bd6 s0 s1 48) := by kernel_rfl
theorem c6_49 (s0 s1 : S) : L_f_law_1_4 (bd6 s0 s1 49) = .nx (bd6 s0 s1 49) := by kernel_rfl
theorem c6_50 (s0 s1 : S) : L_f_law_1_4 (bd6 s0 s1 50) = .nx (bd6 s0 s1 50) := by kernel_rfl
theorem c6_51 (s0 s1 : S) : L_f_law_1_4 (bd6 s0 s1 51) = .nx (bd6 s0 s1 51) := by kernel_rfl
theorem c6_52 (s0 s1 : S) : L_f_law_1_4 (bd6 s0 s1 52) = .nx (bd6 s0 s1 52) := by kernel_rfl
theorem c6_53 (s0 s1 : S) : L_f_law_1_4 (bd6 s0 s1 53) = .nx (bd6 s0 s1 53) := by kernel_rfl
theorem c6_54 (s0 s1 : S) : L_f_law_1_4 (bd6 s0 s1 54) = .nx (bd6 s0 s1 54) := by kernel_rfl
theorem c6_55 (s0 s1 : S) : L_f_law_1_4 (bd6 s0 s1 55) = .nx (bd6 s0 s1 55) := by kernel_rfl
theorem c6_56 (s0 s1 : S) : L_f_law_1_4 (bd6 s0 s1 56) = .nx (bd6 s0 s1 56) := by kernel_rfl
theorem c6_57 (s0 s1 : S) : L_f_law_1_4 (bd6 s0 s1 57) = .nx (bd6 s0 s1 57) := by kernel_rfl
theorem c6_58 (s0 s1 : S) : L_f_law_1_4 (bd6 s0 s1 58) = .nx (bd6 s0 s1 58) := by kernel_rfl
theorem c6_59 (s0 s1 : S) : L_f_law_1_4 (bd6 s0 s1 59) = .nx (bd6 s0 s1 59) := by kernel_rfl
theorem c6_60 (s0 s1 : S) : L_f_law_1_4 (bd6 s0 s1 60) = .nx (bd6 s0 s1 60) := by kernel_rfl
theorem c6_61 (s0 s1 : S) : L_f_law_1_4 (bd6 s0 s1 61) = .nx (bd6 s0 s1 61) := by kernel_rfl
theorem c6_62 (s0 s1 : S) : L_f_law_1_4 (bd6 s0 s1 62) = .nx (bd6 s0 s1 62) := by kernel_rfl
theorem c6_63 (s0 s1 : S) : L_f_law_1_4 (bd6 s0 s1 63) = .nx (bd6 s0 s1 63) := by kernel_rfl
theorem c6_64 (s0 s1 : S) : L_f_law_1_4 (bd6 s0 s1 64) = .nx (bd6 s0 s1 64) := by kernel_rfl
theorem c6_65 (s0 s1 : S) : L_f_law_1_4 (bd6 s0 s1 65) = .nx (bd6 s0 s1 65) := by kernel_rfl
theorem c6_66 (s0 s1 : S) : L_f_law_1_4 (bd6 s0 s1 66) = .nx (bd6 s0 s1 66) := by kernel_rfl
theorem c6_67 (s0 s1 : S) : L_f_law_1_4 (bd6 s0 s1 67) = .nx (bd6 s0 s1 67) := by kernel_rfl
theorem c6_68 (s0 s1 : S) : L_f_law_1_4 (bd6 s0 s1 68) = .nx (bd6 s0 s1 68) := by kernel_rfl
theorem c6_69 (s0 s1 : S) : L_f_law_1_4 (bd6 s0 s1 69) = .nx (bd6 s0 s1 69) := by kernel_rfl
theorem c6_70 (s0 s1 : S) : L_f_law_1_4 (bd6 s0 s1 70) = .nx (bd6 s0 s1 70) := by kernel_rfl
theorem c6_71 (s0 s1 : S) : L_f_law_1_4 (bd6 s0 s1 71) = .nx (bd6 s0 s1 71) := by kernel_rfl
theorem c6_72 (s0 s1 : S) : L_f_law_1_4 (bd6 s0 s1 72) = .nx (bd6 s0 s1 72) := by kernel_rfl
theorem c6_73 (s0 s1 : S) : L_f_law_1_4 (bd6 s0 s1 73) = .nx (bd6 s0 s1 73) := by kernel_rfl
theorem c6_74 (s0 s1 : S) : L_f_law_1_4 (bd6 s0 s1 74) = .nx (bd6 s0 s1 74) := by kernel_rfl
theorem c6_75 (s0 s1 : S) : L_f_law_1_4 (bd6 s0 s1 75) = .nx (bd6 s0 s1 75) := by kernel_rfl
theorem c6_76 (s0 s1 : S) : L_f_law_1_4 (bd6 s0 s1 76) = .nx (bd6 s0 s1 76) := by kernel_rfl
theorem c6_77 (s0 s1 : S) : L_f_law_1_4 (bd6 s0 s1 77) = .nx (bd6 s0 s1 77) := by kernel_rfl
theorem c6_78 (s0 s1 : S) : L_f_law_1_4 (bd6 s0 s1 78) = .nx (bd6 s0 s1 78) := by kernel_rfl
theorem c6_79 (s0 s1 : S) : L_f_law_1_4 (bd6 s0 s1 79) = .nx (bd6 s0 s1 79) := by kernel_rfl
theorem c6_80 (s0 s1 : S) : L_f_law_1_4 (bd6 s0 s1 80) = .nx (bd6 s0 s1 80) := by kernel_rfl
theorem c6_81 (s0 s1 : S) : L_f_law_1_4 (bd6 s0 s1 81) = .nx (bd6 s0 s1 81) := by kernel_rfl
theorem c6_82 (s0 s1 : S) : L_f_law_1_4 (bd6 s0 s1 82) = .nx (bd6 s0 s1 82) := by kernel_rfl
theorem c6_83 (s0 s1 : S) : L_f_law_1_4 (bd6 s0 s1 83) = .nx (bd6 s0 s1 83) := by kernel_rfl
theorem c6_84 (s0 s1 : S) : L_f_law_1_4 (bd6 s0 s1 84) = .nx (bd6 s0 s1 84) := by kernel_rfl
theorem c6_85 (s0 s1 : S) : L_f_law_1_4 (bd6 s0 s1 85) = .nx (bd6 s0 s1 85) := by kernel_rfl
theorem c6_86 (s0 s1 : S) : L_f_law_1_4 (bd6 s0 s1 86) = .nx (bd6 s0 s1 86) := by kernel_rfl
theorem c6_87 (s0 s1 : S) : L_f_law_1_4 (bd6 s0 s1 87) = .nx (bd6 s0 s1 87) := by kernel_rfl
theorem c6_88 (s0 s1 : S) : L_f_law_1_4 (bd6 s0 s1 88) = .nx (bd6 s0 s1 88) := by kernel_rfl
theorem c6_89 (s0 s1 : S) : L_f_law_1_4 (bd6 s0 s1 89) = .nx (bd6 s0 s1 89) := by kernel_rfl
theorem call6 (s0 s1 : S) : ∀ n : Nat, n < 90 → L_f_law_1_4 [s0, s1, .d (.int ((n : Int) + 1)), desk, .gone, .d (.int 6), .gone] = .nx [s0, s1, .d (.int ((n : Int) + 1)), desk, .gone, .d (.int 6), .gone]
  | 0, _ => c6_0 s0 s1
  | 1, _ => c6_1 s0 s1
  | 2, _ => c6_2 s0 s1
  | 3, _ => c6_3 s0 s1
  | 4, _ => c6_4 s0 s1
  | 5, _ => c6_5 s0 s1
  | 6, _ => c6_6 s0 s1
  | 7, _ => c6_7 s0 s1
  | 8, _ => c6_8 s0 s1
  | 9, _ => c6_9 s0 s1
  | 10, _ => c6_10 s0 s1
  | 11, _ => c6_11 s0 s1
  | 12, _ => c6_12 s0 s1
  | 13, _ => c6_13 s0 s1
  | 14, _ => c6_14 s0 s1
  | 15, _ => c6_15 s0 s1
  | 16, _ => c6_16 s0 s1
  | 17, _ => c6_17 s0 s1
  | 18, _ => c6_18 s0 s1
  | 19, _ => c6_19 s0 s1
  | 20, _ => c6_20 s0 s1
  | 21, _ => c6_21 s0 s1
  | 22, _ => c6_22 s0 s1
  | 23, _ => c6_23 s0 s1
  | 24, _ => c6_24 s0 s1
  | 25, _ => c6_25 s0 s1
  | 26, _ => c6_26 s0 s1
  | 27, _ => c6_27 s0 s1
  | 28, _ => c6_28 s0 s1
  | 29, _ => c6_29 s0 s1
  | 30, _ => c6_30 s0 s1
  | 31, _ => c6_31 s0 s1
  | 32, _ => c6_32 s0 s1
  | 33, _ => c6_33 s0 s1
  | 34, _ => c6_34 s0 s1
  | 35, _ => c6_35 s0 s1
  | 36, _ => c6_36 s0 s1
  | 37, _ => c6_37 s0 s1
  | 38, _ => c6_38 s0 s1
  | 39, _ => c6_39 s0 s1
  | 40, _ => c6_40 s0 s1
  | 41, _ => c6_41 s0 s1
  | 42, _ => c6_42 s0 s1
  | 43, _ => c6_43 s0 s1
  | 44, _ => c6_44 s0 s1
  | 45, _ => c6_45 s0 s1
  | 46, _ => c6_46 s0 s1
  | 47, _ => c6_47 s0 s1
  | 48, _ => c6_48 s0 s1
  | 49, _ => c6_49 s0 s1
  | 50, _ => c6_50 s0 s1
  | 51, _ => c6_51 s0 s1
  | 52, _ => c6_52 s0 s1
  | 53, _ => c6_53 s0 s1
  | 54, _ => c6_54 s0 s1
  | 55, _ => c6_55 s0 s1
  | 56, _ => c6_56 s0 s1
  | 57, _ => c6_57 s0 s1
  | 58, _ => c6_58 s0 s1
  | 59, _ => c6_59 s0 s1
  | 60, _ => c6_60 s0 s1
  | 61, _ => c6_61 s0 s1
  | 62, _ => c6_62 s0 s1
  | 63, _ => c6_63 s0 s1
  | 64, _ => c6_64 s0 s1
  | 65, _ => c6_65 s0 s1
  | 66, _ => c6_66 s0 s1
  | 67, _ => c6_67 s0 s1
  | 68, _ => c6_68 s0 s1
  | 69, _ => c6_69 s0 s1
  | 70, _ => c6_70 s0 s1
  | 71, _ => c6_71 s0 s1
  | 72, _ => c6_72 s0 s1
  | 73, _ => c6_73 s0 s1
  | 74, _ => c6_74 s0 s1
  | 75, _ => c6_75 s0 s1
  | 76, _ => c6_76 s0 s1
  | 77, _ => c6_77 s0 s1
  | 78, _ => c6_78 s0 s1
  | 79, _ => c6_79 s0 s1
  | 80, _ => c6_80 s0 s1
  | 81, _ => c6_81 s0 s1
  | 82, _ => c6_82 s0 s1
  | 83, _ => c6_83 s0 s1
  | 84, _ => c6_84 s0 s1
  | 85, _ => c6_85 s0 s1
  | 86, _ => c6_86 s0 s1
  | 87, _ => c6_87 s0 s1
  | 88, _ => c6_88 s0 s1
  | 89, _ => c6_89 s0 s1
  | n + 90, h => absurd h (by omega)
def bd7 (s0 s1 : S) (n : Int) : List S := [s0, s1, .d (.int (n + 1)), desk, .gone, .d (.int 7), .gone]
theorem c7_0 (s0 s1 : S) : L_f_law_1_4 (bd7 s0 s1 0) = .nx (bd7 s0 s1 0) := by kernel_rfl
theorem c7_1 (s0 s1 : S) : L_f_law_1_4 (bd7 s0 s1 1) = .nx (bd7 s0 s1 1) := by kernel_rfl
theorem c7_2 (s0 s1 : S) : L_f_law_1_4 (bd7 s0 s1 2) = .nx (bd7 s0 s1 2) := by kernel_rfl
theorem c7_3 (s0 s1 : S) : L_f_law_1_4 (bd7 s0 s1 3) = .nx (bd7 s0 s1 3) := by kernel_rfl
theorem c7_4 (s0 s1 : S) : L_f_law_1_4 (bd7 s0 s1 4) = .nx (bd7 s0 s1 4) := by kernel_rfl
theorem c7_5 (s0 s1 : S) : L_f_law_1_4 (bd7 s0 s1 5) = .nx (bd7 s0 s1 5) := by kernel_rfl
theorem c7_6 (s0 s1 : S) : L_f_law_1_4 (bd7 s0 s1 6) = .nx (bd7 s0 s1 6) := by kernel_rfl
theorem c7_7 (s0 s1 : S) : L_f_law_1_4 (bd7 s0 s1 7) = .nx (bd7 s0 s1 7) := by kernel_rfl
theorem c7_8 (s0 s1 : S) : L_f_law_1_4 (bd7 s0 s1 8) = .nx (bd7 s0 s1 8) := by kernel_rfl
theorem c7_9 (s0 s1 : S) : L_f_law_1_4 (bd7 s0 s1 9) = .nx (bd7 s0 s1 9) := by kernel_rfl
theorem c7_10 (s0 s1 : S) : L_f_law_1_4 (bd7 s0 s1 10) = .nx (bd7 s0 s1 10) := by kernel_rfl
theorem c7_11 (s0 s1 : S) : L_f_law_1_4 (bd7 s0 s1 11) = .nx (bd7 s0 s1 11) := by kernel_rfl
theorem c7_12 (s0 s1 : S) : L_f_law_1_4 (bd7 s0 s1 12) = .nx (bd7 s0 s1 12) := by kernel_rfl
theorem c7_13 (s0 s1 : S) : L_f_law_1_4 (bd7 s0 s1 13) = .nx (bd7 s0 s1 13) := by kernel_rfl
theorem c7_14 (s0 s1 : S) : L_f_law_1_4 (bd7 s0 s1 14) = .nx (bd7 s0 s1 14) := by kernel_rfl
theorem c7_15 (s0 s1 : S) : L_f_law_1_4 (bd7 s0 s1 15) = .nx (bd7 s0 s1 15) := by kernel_rfl
theorem c7_16 (s0 s1 : S) : L_f_law_1_4 (bd7 s0 s1 16) = .nx (bd7 s0 s1 16) := by kernel_rfl
theorem c7_17 (s0 s1 : S) : L_f_law_1_4 (bd7 s0 s1 17) = .nx (bd7 s0 s1 17) := by kernel_rfl
theorem c7_18 (s0 s1 : S) : L_f_law_1_4 (bd7 s0 s1 18) = .nx (bd7 s0 s1 18) := by kernel_rfl
theorem c7_19 (s0 s1 : S) : L_f_law_1_4 (bd7 s0 s1 19) = .nx (bd7 s0 s1 19) := by kernel_rfl
theorem c7_20 (s0 s1 : S) : L_f_law_1_4 (bd7 s0 s1 20) = .nx (bd7 s0 s1 20) := by kernel_rfl
theorem c7_21 (s0 s1 : S) : L_f_law_1_4 (bd7 s0 s1 21) = .nx (bd7 s0 s1 21) := by kernel_rfl
theorem c7_22 (s0 s1 : S) : L_f_law_1_4 (bd7 s0 s1 22) = .nx (bd7 s0 s1 22) := by kernel_rfl
theorem c7_23 (s0 s1 : S) : L_f_law_1_4 (bd7 s0 s1 23) = .nx (bd7 s0 s1 23) := by kernel_rfl
theorem c7_24 (s0 s1 : S) : L_f_law_1_4 (bd7 s0 s1 24) = .nx (bd7 s0 s1 24) := by kernel_rfl
theorem c7_25 (s0 s1 : S) : L_f_law_1_4 (bd7 s0 s1 25) = .nx (bd7 s0 s1 25) := by kernel_rfl
theorem c7_26 (s0 s1 : S) : L_f_law_1_4 (bd7 s0 s1 26) = .nx (bd7 s0 s1 26) := by kernel_rfl
theorem c7_27 (s0 s1 : S) : L_f_law_1_4 (bd7 s0 s1 27) = .nx (bd7 s0 s1 27) := by kernel_rfl
theorem c7_28 (s0 s1 : S) : L_f_law_1_4 (bd7 s0 s1 28) = .nx (bd7 s0 s1 28) := by kernel_rfl
theorem c7_29 (s0 s1 : S) : L_f_law_1_4 (bd7 s0 s1 29) = .nx (bd7 s0 s1 29) := by kernel_rfl
theorem c7_30 (s0 s1 : S) : L_f_law_1_4 (bd7 s0 s1 30) = .nx (bd7 s0 s1 30) := by kernel_rfl
theorem c7_31 (s0 s1 : S) : L_f_law_1_4 (bd7 s0 s1 31) = .nx (bd7 s0 s1 31) := by kernel_rfl
theorem c7_32 (s0 s1 : S) : L_f_law_1_4 (bd7 s0 s1 32) = .nx (bd7 s0 s1 32) := by kernel_rfl
theorem c7_33 (s0 s1 : S) : L_f_law_1_4 (bd7 s0 s1 33) = .nx (bd7 s0 s1 33) := by kernel_rfl
theorem c7_34 (s0 s1 : S) : L_f_law_1_4 (bd7 s0 s1 34) = .nx (bd7 s0 s1 34) := by kernel_rfl
theorem c7_35 (s0 s1 : S) : L_f_law_1_4 (bd7 s0 s1 35) = .nx (bd7 s0 s1 35) := by kernel_rfl
theorem c7_36 (s0 s1 : S) : L_f_law_1_4 (bd7 s0 s1 36) = .nx (bd7 s0 s1 36) := by kernel_rfl
theorem c7_37 (s0 s1 : S) : L_f_law_1_4 (bd7 s0 s1 37) = .nx (bd7 s0 s1 37) := by kernel_rfl
theorem c7_38 (s0 s1 : S) : L_f_law_1_4 (bd7 s0 s1 38) = .nx (bd7 s0 s1 38) := by kernel_rfl
theorem c7_39 (s0 s1 : S) : L_f_law_1_4 (bd7 s0 s1 39) = .nx (bd7 s0 s1 39) := by kernel_rfl
theorem c7_40 (s0 s1 : S) : L_f_law_1_4 (bd7 s0 s1 40) = .nx (bd7 s0 s1 40) := by kernel_rfl
theorem c7_41 (s0 s1 : S) : L_f_law_1_4 (bd7 s0 s1 41) = .nx (bd7 s0 s1 41) := by kernel_rfl
theorem c7_42 (s0 s1 : S) : L_f_law_1_4 (bd7 s0 s1 42) = .nx (bd7 s0 s1 42) := by kernel_rfl
theorem c7_43 (s0 s1 : S) : L_f_law_1_4 (bd7 s0 s1 43) = .nx (bd7 s0 s1 43) := by kernel_rfl
theorem c7_44 (s0 s1 : S) : L_f_law_1_4 (bd7 s0 s1 44) = .nx (bd7 s0 s1 44) := by kernel_rfl
theorem c7_45 (s0 s1 : S) : L_f_law_1_4 (bd7 s0 s1 45) = .nx (bd7 s0 s1 45) := by kernel_rfl
theorem c7_46 (s0 s1 : S) : L_f_law_1_4 (bd7 s0 s1 46) = .nx (bd7 s0 s1 46) := by kernel_rfl
theorem c7_47 (s0 s1 : S) : L_f_law_1_4 (bd7 s0 s1 47) = .nx (bd7 s0 s1 47) := by kernel_rfl
theorem c7_48 (s0 s1 : S) : L_f_law_1_4 (bd7 s0 s1 48) = .nx (bd7 s0 s1 48) := by kernel_rfl
theorem c7_49 (s0 s1 : S) : L_f_law_1_4 (bd7 s0 s1 49) = .nx (bd7 s0 s1 49) := by kernel_rfl
theorem c7_50 (s0 s1 : S) : L_f_law_1_4 (bd7 s0 s1 50) = .nx (bd7 s0 s1 50) := by kernel_rfl
theorem c7_51 (s0 s1 : S) : L_f_law_1_4 (bd7 s0 s1 51) = .nx (bd7 s0 s1 51) := by kernel_rfl
theorem c7_52 (s0 s1 : S) : L_f_law_1_4 (bd7 s0 s1 52) = .nx (bd7 s0 s1 52) := by kernel_rfl
theorem c7_53 (s0 s1 : S) : L_f_law_1_4 (bd7 s0 s1 53) = .nx (bd7 s0 s1 53) := by kernel_rfl
theorem c7_54 (s0 s1 : S) : L_f_law_1_4 (bd7 s0 s1 54) = .nx (bd7 s0 s1 54) := by kernel_rfl
theorem c7_55 (s0 s1 : S) : L_f_law_1_4 (bd7 s0 s1 55) = .nx (bd7 s0 s1 55) := by kernel_rfl
theorem c7_56 (s0 s1 : S) : L_f_law_1_4 (bd7 s0 s1 56) = .nx (bd7 s0 s1 56) := by kernel_rfl
theorem c7_57 (s0 s1 : S) : L_f_law_1_4 (bd7 s0 s1 57) = .nx (bd7 s0 s1 57) := by kernel_rfl
theorem c7_58 (s0 s1 : S) : L_f_law_1_4 (bd7 s0 s1 58) = .nx (bd7 s0 s1 58) := by kernel_rfl
theorem c7_59 (s0 s1 : S) : L_f_law_1_4 (bd7 s0 s1 59) = .nx (bd7 s0 s1 59) := by kernel_rfl
theorem c7_60 (s0 s1 : S) : L_f_law_1_4 (bd7 s0 s1 60) = .nx (bd7 s0 s1 60) := by kernel_rfl
theorem c7_61 (s0 s1 : S) : L_f_law_1_4 (bd7 s0 s1 61) = .nx (bd7 s0 s1 61) := by kernel_rfl
theorem c7_62 (s0 s1 : S) : L_f_law_1_4 (bd7 s0 s1 62) = .nx (bd7 s0 s1 62) := by kernel_rfl
theorem c7_63 (s0 s1 : S) : L_f_law_1_4 (bd7 s0 s1 63) = .nx (bd7 s0 s1 63) := by kernel_rfl
theorem c7_64 (s0 s1 : S) : L_f_law_1_4 (bd7 s0 s1 64) = .nx (bd7 s0 s1 64) := by kernel_rfl
theorem c7_65 (s0 s1 : S) : L_f_law_1_4 (bd7 s0 s1 65) = .nx (bd7 s0 s1 65) := by kernel_rfl
theorem c7_66 (s0 s1 : S) : L_f_law_1_4 (bd7 s0 s1 66) = .nx (bd7 s0 s1 66) := by kernel_rfl
theorem c7_67 (s0 s1 : S) : L_f_law_1_4 (bd7 s0 s1 67) = .nx (bd7 s0 s1 67) := by kernel_rfl
theorem c7_68 (s0 s1 : S) : L_f_law_1_4 (bd7 s0 s1 68) = .nx (bd7 s0 s1 68) := by kernel_rfl
theorem c7_69 (s0 s1 : S) : L_f_law_1_4 (bd7 s0 s1 69) = .nx (bd7 s0 s1 69) := by kernel_rfl
theorem c7_70 (s0 s1 : S) : L_f_law_1_4 (bd7 s0 s1 70) = .nx (bd7 s0 s1 70) := by kernel_rfl
theorem c7_71 (s0 s1 : S) : L_f_law_1_4 (bd7 s0 s1 71) = .nx (bd7 s0 s1 71) := by kernel_rfl
theorem c7_72 (s0 s1 : S) : L_f_law_1_4 (bd7 s0 s1 72) = .nx (bd7 s0 s1 72) := by kernel_rfl
theorem c7_73 (s0 s1 : S) : L_f_law_1_4 (bd7 s0 s1 73) = .nx (bd7 s0 s1 73) := by kernel_rfl
theorem c7_74 (s0 s1 : S) : L_f_law_1_4 (bd7 s0 s1 74) = .nx (bd7 s0 s1 74) := by kernel_rfl
theorem c7_75 (s0 s1 : S) : L_f_law_1_4 (bd7 s0 s1 75) = .nx (bd7 s0 s1 75) := by kernel_rfl
theorem c7_76 (s0 s1 : S) : L_f_law_1_4 (bd7 s0 s1 76) = .nx (bd7 s0 s1 76) := by kernel_rfl
theorem c7_77 (s0 s1 : S) : L_f_law_1_4 (bd7 s0 s1 77) = .nx (bd7 s0 s1 77) := by kernel_rfl
theorem c7_78 (s0 s1 : S) : L_f_law_1_4 (bd7 s0 s1 78) = .nx (bd7 s0 s1 78) := by kernel_rfl
theorem c7_79 (s0 s1 : S) : L_f_law_1_4 (bd7 s0 s1 79) = .nx (bd7 s0 s1 79) := by kernel_rfl
theorem c7_80 (s0 s1 : S) : L_f_law_1_4 (bd7 s0 s1 80) = .nx (bd7 s0 s1 80) := by kernel_rfl
theorem c7_81 (s0 s1 : S) : L_f_law_1_4 (bd7 s0 s1 81) = .nx (bd7 s0 s1 81) := by kernel_rfl
theorem c7_82 (s0 s1 : S) : L_f_law_1_4 (bd7 s0 s1 82) = .nx (bd7 s0 s1 82) := by kernel_rfl
theorem c7_83 (s0 s1 : S) : L_f_law_1_4 (bd7 s0 s1 83) = .nx (bd7 s0 s1 83) := by kernel_rfl
theorem c7_84 (s0 s1 : S) : L_f_law_1_4 (bd7 s0 s1 84) = .nx (bd7 s0 s1 84) := by kernel_rfl
theorem c7_85 (s0 s1 : S) : L_f_law_1_4 (bd7 s0 s1 85) = .nx (bd7 s0 s1 85) := by kernel_rfl
theorem c7_86 (s0 s1 : S) : L_f_law_1_4 (bd7 s0 s1 86) = .nx (bd7 s0 s1 86) := by kernel_rfl
theorem c7_87 (s0 s1 : S) : L_f_law_1_4 (bd7 s0 s1 87) = .nx (bd7 s0 s1 87) := by kernel_rfl
theorem c7_88 (s0 s1 : S) : L_f_law_1_4 (bd7 s0 s1 88) = .nx (bd7 s0 s1 88) := by kernel_rfl
theorem c7_89 (s0 s1 : S) : L_f_law_1_4 (bd7 s0 s1 89) = .nx (bd7 s0 s1 89) := by kernel_rfl
theorem call7 (s0 s1 : S) : ∀ n : Nat, n < 90 → L_f_law_1_4 [s0, s1, .d (.int ((n : Int) + 1)), desk, .gone, .d (.int 7), .gone] = .nx [s0, s1, .d (.int ((n : Int) + 1)), desk, .gone, .d (.int 7), .gone]
  | 0, _ => c7_0 s0 s1
  | 1, _ => c7_1 s0 s1
  | 2, _ => c7_2 s0 s1
  | 3, _ => c7_3 s0 s1
  | 4, _ => c7_4 s0 s1
  | 5, _ => c7_5 s0 s1
  | 6, _ => c7_6 s0 s1
  | 7, _ => c7_7 s0 s1
  | 8, _ => c7_8 s0 s1
  | 9, _ => c7_9 s0 s1
  | 10, _ => c7_10 s0 s1
  | 11, _ => c7_11 s0 s1
  | 12, _ => c7_12 s0 s1
  | 13, _ => c7_13 s0 s1
  | 14, _ => c7_14 s0 s1
  | 15, _ => c7_15 s0 s1
  | 16, _ => c7_16 s0 s1
  | 17, _ => c7_17 s0 s1
  | 18, _ => c7_18 s0 s1
  | 19, _ => c7_19 s0 s1
  | 20, _ => c7_20 s0 s1
  | 21, _ => c7_21 s0 s1
  | 22, _ => c7_22 s0 s1
  | 23, _ => c7_23 s0 s1
  | 24, _ => c7_24 s0 s1
  | 25, _ => c7_25 s0 s1
  | 26, _ => c7_26 s0 s1
  | 27, _ => c7_27 s0 s1
  | 28, _ => c7_28 s0 s1
  | 29, _ => c7_29 s0 s1
  | 30, _ => c7_30 s0 s1
  | 31, _ => c7_31 s0 s1
  | 32, _ => c7_32 s0 s1
  | 33, _ => c7_33 s0 s1
  | 34, _ => c7_34 s0 s1
  | 35, _ => c7_35 s0 s1
  | 36, _ => c7_36 s0 s1
  | 37, _ => c7_37 s0 s1
  | 38, _ => c7_38 s0 s1
  | 39, _ => c7_39 s0 s1
  | 40, _ => c7_40 s0 s1
  | 41, _ => c7_41 s0 s1
  | 42, _ => c7_42 s0 s1
  | 43, _ => c7_43 s0 s1
  | 44, _ => c7_44 s0 s1
  | 45, _ => c7_45 s0 s1
  | 46, _ => c7_46 s0 s1
  | 47, _ => c7_47 s0 s1
  | 48, _ => c7_48 s0 s1
  | 49, _ => c7_49 s0 s1
  | 50, _ => c7_50 s0 s1
  | 51, _ => c7_51 s0 s1
  | 52, _ => c7_52 s0 s1
  | 53, _ => c7_53 s0 s1
  | 54, _ => c7_54 s0 s1
  | 55, _ => c7_55 s0 s1
  | 56, _ => c7_56 s0 s1
  | 57, _ => c7_57 s0 s1
  | 58, _ => c7_58 s0 s1
  | 59, _ => c7_59 s0 s1
  | 60, _ => c7_60 s0 s1
  | 61, _ => c7_61 s0 s1
  | 62, _ => c7_62 s0 s1
  | 63, _ => c7_63 s0 s1
  | 64, _ => c7_64 s0 s1
  | 65, _ => c7_65 s0 s1
  | 66, _ => c7_66 s0 s1
  | 67, _ => c7_67 s0 s1
  | 68, _ => c7_68 s0 s1
  | 69, _ => c7_69 s0 s1
  | 70, _ => c7_70 s0 s1
  | 71, _ => c7_71 s0 s1
  | 72, _ => c7_72 s0 s1
  | 73, _ => c7_73 s0 s1
  | 74, _ => c7_74 s0 s1
  | 75, _ => c7_75 s0 s1
  | 76, _ => c7_76 s0 s1
  | 77, _ => c7_77 s0 s1
  | 78, _ => c7_78 s0 s1
  | 79, _ => c7_79 s0 s1
  | 80, _ => c7_80 s0 s1
  | 81, _ => c7_81 s0 s1
  | 82, _ => c7_82 s0 s1
  | 83, _ => c7_83 s0 s1
  | 84, _ => c7_84 s0 s1
  | 85, _ => c7_85 s0 s1
  | 86, _ => c7_86 s0 s1
  | 87, _ => c7_87 s0 s1
  | 88, _ => c7_88 s0 s1
  | 89, _ => c7_89 s0 s1
  | n + 90, h => absurd h (by omega)
theorem call0 (s0 s1 s2 : S) : L_f_law_1_4 [s0, s1, s2, desk, .gone, .d (.int 0), .gone] = .nx [s0, s1, s2, desk2, .gone, .d (.int 0), .gone] := by kernel_rfl
theorem call5 (s0 s1 s2 : S) : L_f_law_1_4 [s0, s1, s2, desk, .gone, .d (.int 5), .gone] = .nx [s0, s1, s2, desk, .gone, .d (.int 5), .gone] := by kernel_rfl
theorem calls (s0 s1 : S) {m k : Int} (hm : 1 ≤ m ∧ m ≤ 90) (hk : 0 ≤ k ∧ k < 8) : ∃ s3, L_f_law_1_4 [s0, s1, .d (.int m), desk, .gone, .d (.int k), .gone] = .nx [s0, s1, .d (.int m), s3, .gone, .d (.int k), .gone] := by
  obtain ⟨n, rfl, hn⟩ : ∃ n : Nat, m = (n : Int) + 1 ∧ n < 90 := ⟨(m - 1).toNat, by omega, by omega⟩
  rcases (show k = 0 ∨ k = 1 ∨ k = 2 ∨ k = 3 ∨ k = 4 ∨ k = 5 ∨ k = 6 ∨ k = 7 by omega) with rfl | rfl | rfl | rfl | rfl | rfl | rfl | rfl
  · exact ⟨_, call0 _ _ _⟩
  · exact ⟨_, call1 _ _ n hn⟩
  · exact ⟨_, call2 _ _ n hn⟩
  · exact ⟨_, call3 _ _ n hn⟩
  · exact ⟨_, call4 _ _ n hn⟩
  · exact ⟨_, call5 _ _ _⟩
  · exact ⟨_, call6 _ _ n hn⟩
  · exact ⟨_, call7 _ _ n hn⟩
theorem body_ok (s0 : S) (a b c : Int) : ∃ ρ', L_f_law_1 [s0, .l [.int a, .int b, .int c], .gone, .gone, .gone, .gone, .gone] = .nx (s0 :: ρ') := by
  obtain ⟨m, a1, b1, c1, e1, h1, h2⟩ := law_roll a b c 90 (by omega) (by omega)
  obtain ⟨k, a2, b2, c2, e2, h3, h4⟩ := law_roll a1 b1 c1 8 (by omega) (by omega)
  obtain ⟨s3, e3⟩ := calls s0 (.l [.int a2, .int b2, .int c2]) (m := 1 + m) (k := k) (by omega) (by omega)
  have e4 := desk_ok
  have e5 : ∀ ρ : List S, 4 < ρ.length → bGone 4 ρ = .nx (ρ.set 4 .gone) := fun ρ h => if_pos h
  refine ⟨[.l [.int a2, .int b2, .int c2], .d (.int (1 + m)), s3, .gone, .d (.int k), .gone], ?_⟩
  generalize desk = DK at *
  ktf_call ⟨L_f_law_1, L_f_law_1_2, L_f_law_1_3, e1, e2, e3, e4, e5⟩
theorem hlaw (s : List Int) : ∃ z, op_f_law [.d (.lst (s.map .int))] = .ok (.d (.bl true)) [z] := by
  obtain ⟨a, b, c, e⟩ := law_rounds s
  obtain ⟨ρ', eb⟩ := body_ok (.d (.lst (s.map .int))) a b c
  have fo : forO 1 L_f_law_1 [.l [.int a, .int b, .int c]] [.d (.lst (s.map .int)), .gone, .gone, .gone, .gone, .gone, .gone] = .nx (.d (.lst (s.map .int)) :: ρ') := forO_one _ _ _ _ _ (by simp) eb
  refine ⟨.d (.lst (s.map .int)), ?_⟩
  ktf_call ⟨op_f_law, b_f_law, e_bForO, e, fo, b_f_law_2⟩
end K21
namespace K21
open PySem PySem.Spec PyProof.Rows L2 DL
/-- the law at its script -/
theorem law_at {w : World} {K : PySem.W.Frag} {mg : Str → Option Value} {f : Addr} {h : Heap}
    (X : K.In h) (g : h.Ns mainGlobals mg) (hmg : mg ("law" : Str) = some (.ref f)) (c0 : He.SaysX fa fn [] tfl exL w h K) (cb : fnB K (He.ga K "BadText") = fnBV "BadText.__init__" s_m_BadText_init) : LamX.LawAtS RL w K (L2.CX PW w) 9 63 "script" mg f h := by
  have c := says_tab c0
  obtain ⟨fd, F⟩ := funC_of c (d := d_f_law) (List.mem_of_getElem? (i := 32) rfl) s_f_law (cd := c.t.d)
  have bi : Binds K fd ["script"] [] := F.binds fun _ _ _ _ _ _ us hl => match us, hl with | [_], _ => rfl
  have e := hmg.symm.trans (He.glo_ok X g (c.t.d.facts (f := .glo "law") (fa_in (by decide +kernel))))
  cases e
  refine ⟨fd, tfl.map fun p => He.cT K p, spD (Gk K w) op_f_law, ?_, ?_, ?_, ?_, ?_, ?_⟩
  · intro p hp
    obtain ⟨q, hq, e⟩ := List.mem_map.mp hp
    subst e
    exact c.empty q hq
  · intro p hp
    obtain ⟨q, hq, e⟩ := List.mem_map.mp hp
    subst e
    exact c.out q hq
  · intro p hp
    obtain ⟨q, hq, e⟩ := List.mem_map.mp hp
    subst e
    exact PySem.W.codeHd_of_K X (c.hd q hq)
  · obtain ⟨oc, od, kV, doc, pm, an, ct, osl, efd, lk, hcd⟩ := F.ex
    subst efd
    intro s u
    exact .of_eq rfl
  · intro H a ns hl hz ht q
    obtain ⟨z, e⟩ := hlaw ns
    refine ⟨⟨[], [], []⟩, [], [], [], [.d (.lst (ns.map .int))], rfl, start_ok (tb_start fun p hp => ?_) q, ?_⟩
    · obtain ⟨y, hy, ey⟩ := List.mem_map.mp hp
      subst ey
      exact ht (He.cT K y.1) (List.mem_map.mpr ⟨y.1, List.mem_map.mpr ⟨y, hy, rfl⟩, rfl⟩)
    · rw [e]
      exact ⟨rfl, fun v H' h' => h'.bl⟩
  · intro base Xb gb tb
    have E0 : En fa fn tq w K mg base := ⟨⟨h, c, X, g⟩, fun p hp => tb _ (List.mem_map.mpr ⟨p.1, List.mem_map.mpr ⟨p, hp, rfl⟩, rfl⟩)⟩
    have E : EnL w K mg base := ⟨E0, btF_of (file := PW.main.file) (He.ba (He.ba c0.more).2).1 cb rfl (E0.free "super" (fa_in (by decide +kernel))) (by kernel_rfl), (He.ba (He.ba c0.more).2).2⟩
    exact fn_ownCs (P := PW) (w := w) (mg := mg) (base := base) (G := Gk K w) F sc_f_law fun A outer s H s0 LL Ex hr => bx_f_law E _ _ rfl A outer s H s0 LL Ex hr
theorem holds_of : RL.Holds := by
  w_on; o_law
  refine HandSHeadRun.head_any (r := R) (q := PySem.W.view R.prog [38]) (H := hk) (ob := ob) (M := 60000) (loose := ["_wall", "CaskFault", "BadSize", "BadFill", "BadPlan", "NoSuch", "NoRoom", "NoWay", "BadText", "BadDeed", "cut_first", "Lot", "mean", "LETTERS", "Brand", "read_brand", "Fleet", "Row", "read_row", "Pages", "Desk", "around", "Pile", "filled", "_law_dice", "_law_roll", "_law_rounds", "_law_under"]) (d := HandSHeadRun.topDef R.prog 38) (kwd := []) ob_eq
    (by kernel_rfl) (fun s => by kernel_rfl) runH (by kernel_rfl) (by kernel_rfl) (by kernel_rfl) (by rfl) (by first | assumption | decide +kernel) (by decide +kernel) ⟨rfl, rfl, rfl, rfl, rfl, by decide +kernel⟩ ?hw ?hc
  case hw => w_witness2
  case hc =>
    refine LamX.walk_ofTsE (l := RL) (n := 63) (k := 9) (x := "script") (CX := fun w => L2.CX PW w) rfl (by decide) (by kernel_rfl) ⟨rfl, by decide, by decide⟩ ?F (fun _ _ _ _ _ ⟨_, _, _, _, _, _, _, _, _, _, _, _, z⟩ => z)
    intro w mg f h Y G hmg0
    obtain ⟨K, KX, c, cb⟩ := Y
    have hmg : mg ("law" : PySem.Str) = some (.ref f) := by
      have e : (HandSHeadRun.topDef R.prog 38).name = ("law" : PySem.Str) := by kernel_rfl
      rw [← e]
      exact hmg0
    exact ⟨K, KX, law_at KX G hmg c cb⟩
end K21
theorem PySem.Challenge.cw_cooperhall_k21_refusals_apart_holds : PySem.Challenge.rw_cooperhall_k21_refusals_apart.Holds :=
  K21.holds_of
