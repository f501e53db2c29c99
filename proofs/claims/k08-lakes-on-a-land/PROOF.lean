import PyProof.Rows.All
import Wide.All
import OpenK.AllK
import Wide.FinOn
import HandS.ForMost
import HandS.ForExc
import HandS.EndTab
import HandS.TupAny
import HandS.Deep
import HandS.IsInst
import HandS.Style
import HandS.WordsExc
import HandS.AnyAll
import HandS.GenList
import HandS.Nested
import KE.GoesMore
import KE.GoesEnum
import HandS.TupMul
import HandS.Conv
import HandS.TryMany
import HandS.SortInts
import HandS.SetFor
import HandS.More
import HandS.ExcValue
import HandS.ExcIs
import HandS.Defaults
import HandS.HeadHook4
import HandS.HeadWalk
import HandS.HeadEnd
import HandS.Head0
import HandS.Head1
import HandS.Head2
import HandS.Rev
import HandS.Lambda
import KE.KMinKey
import HandS.CallSlots
import HandS.Zip
import KE.DataFind
import PySem.Challenge.RW_skytable_k08_lakes_on_a_land
set_option Elab.async false
set_option linter.all false
set_option maxRecDepth 100000
/-! Sk, part 1: pure values, stores, the relation to the abstract heap, steps. -/
namespace Sk
open PySem PySem.Spec PyProof.Rows L2

/-! ### values -/
mutual
def pdEq : (a b : PyData) → Decidable (a = b)
  | .none, .none => .isTrue rfl
  | .bool a, .bool b => if h : a = b then .isTrue (by rw [h]) else .isFalse fun e => h (PyData.bool.inj e)
  | .int a, .int b => if h : a = b then .isTrue (by rw [h]) else .isFalse fun e => h (PyData.int.inj e)
  | .str a, .str b => if h : a = b then .isTrue (by rw [h]) else .isFalse fun e => h (PyData.str.inj e)
  | .list a, .list b => match pdEqs a b with
    | .isTrue h => .isTrue (by rw [h])
    | .isFalse h => .isFalse fun e => h (PyData.list.inj e)
  | .tuple a, .tuple b => match pdEqs a b with
    | .isTrue h => .isTrue (by rw [h])
    | .isFalse h => .isFalse fun e => h (PyData.tuple.inj e)
  | .dict a, .dict b => match pdEqk a b with
    | .isTrue h => .isTrue (by rw [h])
    | .isFalse h => .isFalse fun e => h (PyData.dict.inj e)
  | .none, .bool _ | .none, .int _ | .none, .str _ | .none, .list _ | .none, .tuple _ | .none, .dict _ => .isFalse (fun e => nomatch e)
  | .bool _, .none | .bool _, .int _ | .bool _, .str _ | .bool _, .list _ | .bool _, .tuple _ | .bool _, .dict _ => .isFalse (fun e => nomatch e)
  | .int _, .none | .int _, .bool _ | .int _, .str _ | .int _, .list _ | .int _, .tuple _ | .int _, .dict _ => .isFalse (fun e => nomatch e)
  | .str _, .none | .str _, .bool _ | .str _, .int _ | .str _, .list _ | .str _, .tuple _ | .str _, .dict _ => .isFalse (fun e => nomatch e)
  | .list _, .none | .list _, .bool _ | .list _, .int _ | .list _, .str _ | .list _, .tuple _ | .list _, .dict _ => .isFalse (fun e => nomatch e)
  | .tuple _, .none | .tuple _, .bool _ | .tuple _, .int _ | .tuple _, .str _ | .tuple _, .list _ | .tuple _, .dict _ => .isFalse (fun e => nomatch e)
  | .dict _, .none | .dict _, .bool _ | .dict _, .int _ | .dict _, .str _ | .dict _, .list _ | .dict _, .tuple _ => .isFalse (fun e => nomatch e)
def pdEqs : (a b : List PyData) → Decidable (a = b)
  | [], [] => .isTrue rfl
  | x :: xs, y :: ys => match pdEq x y, pdEqs xs ys with
    | .isTrue h, .isTrue g => .isTrue (by rw [h, g])
    | .isFalse h, _ => .isFalse fun e => h (List.cons.inj e).1
    | _, .isFalse g => .isFalse fun e => g (List.cons.inj e).2
  | [], _ :: _ => .isFalse (fun e => nomatch e)
  | _ :: _, [] => .isFalse (fun e => nomatch e)
def pdEqk : (a b : List (PyData × PyData)) → Decidable (a = b)
  | [], [] => .isTrue rfl
  | (x, u) :: xs, (y, v) :: ys => match pdEq x y, pdEq u v, pdEqk xs ys with
    | .isTrue h, .isTrue k, .isTrue g => .isTrue (by rw [h, k, g])
    | .isFalse h, _, _ => .isFalse fun e => h (Prod.mk.inj (List.cons.inj e).1).1
    | _, .isFalse k, _ => .isFalse fun e => k (Prod.mk.inj (List.cons.inj e).1).2
    | _, _, .isFalse g => .isFalse fun e => g (List.cons.inj e).2
  | [], _ :: _ => .isFalse (fun e => nomatch e)
  | _ :: _, [] => .isFalse (fun e => nomatch e)
end
instance : DecidableEq PyData := pdEq

/-- a value: data; a thing of the store; a frozen list or tuple that holds such; a function -/
inductive Va where
  | dat (d : PyData) | ref (n : Nat) | seq (t : Bool) (xs : List Va) | fn (n : Nat)
mutual
def vaEq : (a b : Va) → Decidable (a = b)
  | .dat a, .dat b => if h : a = b then .isTrue (by rw [h]) else .isFalse fun e => h (Va.dat.inj e)
  | .ref a, .ref b => if h : a = b then .isTrue (by rw [h]) else .isFalse fun e => h (Va.ref.inj e)
  | .fn a, .fn b => if h : a = b then .isTrue (by rw [h]) else .isFalse fun e => h (Va.fn.inj e)
  | .seq t a, .seq u b => if h : t = u then (match vaEqs a b with
      | .isTrue g => .isTrue (by rw [h, g])
      | .isFalse g => .isFalse fun e => g (Va.seq.inj e).2) else .isFalse fun e => h (Va.seq.inj e).1
  | .dat _, .ref _ | .dat _, .seq _ _ | .dat _, .fn _ => .isFalse (fun e => nomatch e)
  | .ref _, .dat _ | .ref _, .seq _ _ | .ref _, .fn _ => .isFalse (fun e => nomatch e)
  | .seq _ _, .dat _ | .seq _ _, .ref _ | .seq _ _, .fn _ => .isFalse (fun e => nomatch e)
  | .fn _, .dat _ | .fn _, .ref _ | .fn _, .seq _ _ => .isFalse (fun e => nomatch e)
def vaEqs : (a b : List Va) → Decidable (a = b)
  | [], [] => .isTrue rfl
  | x :: xs, y :: ys => match vaEq x y, vaEqs xs ys with
    | .isTrue h, .isTrue g => .isTrue (by rw [h, g])
    | .isFalse h, _ => .isFalse fun e => h (List.cons.inj e).1
    | _, .isFalse g => .isFalse fun e => g (List.cons.inj e).2
  | [], _ :: _ => .isFalse (fun e => nomatch e)
  | _ :: _, [] => .isFalse (fun e => nomatch e)
end
instance : DecidableEq Va := vaEq
/-- a thing of the store -/
inductive Ob where
  | lst (xs : List Va) | dic (t : Bool) (kvs : List (PyData × Va)) | ins (c : Nat) (fs : List (Str × Va))
  deriving DecidableEq
abbrev Sto := List (Option Ob)
abbrev Ev := List (Option Va)
/-- an exception: the number of its class, what it was handed -/
structure Ec where
  cls : Nat
  arg : Option PyData
inductive Rs (a : Type) where
  | ok (x : a) (st : Sto) | err (e : Ec) (st : Sto) | bad
def Rs.bind {a b : Type} : Rs a → (a → Sto → Rs b) → Rs b
  | .ok x st, k => k x st
  | .err e st, _ => .err e st
  | .bad, _ => .bad
@[simp] theorem Rs.bind_ok {a b : Type} (x : a) (st : Sto) (k : a → Sto → Rs b) : (Rs.ok x st).bind k = k x st := rfl
@[simp] theorem Rs.bind_err {a b : Type} (e : Ec) (st : Sto) (k : a → Sto → Rs b) : (Rs.err e st).bind k = .err e st := rfl
@[simp] theorem Rs.bind_bad {a b : Type} (k : a → Sto → Rs b) : (Rs.bad).bind k = .bad := rfl

/-! ### the relation -/
structure Cfg where
  K : PySem.W.Frag
  /-- tables of code objects: some q for lambdas of the name q -/
  T : List (Addr × Option Str)
  cl : Nat → Option Addr
  ec : Nat → Option Addr
  ic : Nat → Option Addr
  /-- data that stay known; entries of the abstract heap that stay -/
  hid : List (V × PyData) := []
  ko : List (Addr × HO) := []

mutual
inductive RD (K : PySem.W.Frag) (H : Hp) (M : Addr → Prop) : V → PyData → Prop
  | non : RD K H M .non .none
  | bl (b : Bool) : RD K H M (.bl b) (.bool b)
  | int (i : Int) : RD K H M (.int i) (.int i)
  | str (x : Str) : RD K H M (.str x) (.str x)
  | lst {a : Addr} {vs : List V} {ds : List PyData} : H a = some (.lst vs) → ¬ M a → RDs K H M vs ds → RD K H M (.ref a) (.list ds)
  | tup {a : Addr} {vs : List V} {ds : List PyData} : H a = some (.tup vs) → RDs K H M vs ds → RD K H M (.ref a) (.tuple ds)
inductive RDs (K : PySem.W.Frag) (H : Hp) (M : Addr → Prop) : List V → List PyData → Prop
  | nil : RDs K H M [] []
  | cons {v : V} {vs : List V} {d : PyData} {ds : List PyData} : RD K H M v d → RDs K H M vs ds → RDs K H M (v :: vs) (d :: ds)
end
/-- a list that nobody changes -/
def SqF (K : PySem.W.Frag) (H : Hp) (a : Addr) (xs : List V) : Prop := (∃ o, H a = some (.frz o (.lst xs))) ∨
    ∃ (o : Obj) (its : Array Value) (n : Nat), K.lookup a = some o ∧ o.cls = .type "list" ∧ o.dict = none ∧ o.data = .seq its n ∧ its.size ≤ sizeLine ∧ Vals xs its.toList
theorem SqF.sql {K : PySem.W.Frag} {H : Hp} {a : Addr} {xs : List V} (h : SqF K H a xs) : SqL K H a xs := by
  rcases h with h | h
  · exact .inl (.inr h)
  · exact .inr h
mutual
inductive RV (C : Cfg) (H : Hp) (M : Addr → Prop) (m : List Addr) : V → Va → Prop
  | dat {v : V} {d : PyData} : RD C.K H M v d → RV C H M m v (.dat d)
  | ref {n : Nat} {a : Addr} : m[n]? = some a → RV C H M m (.ref a) (.ref n)
  | lst {a : Addr} {vs : List V} {xs : List Va} : H a = some (.lst vs) → ¬ M a → RVs C H M m vs xs → RV C H M m (.ref a) (.seq false xs)
  | frz {a : Addr} {vs : List V} {xs : List Va} : SqF C.K H a vs → RVs C H M m vs xs → RV C H M m (.ref a) (.seq false xs)
  | tup {a : Addr} {vs : List V} {xs : List Va} : SqT C.K H a vs → RVs C H M m vs xs → RV C H M m (.ref a) (.seq true xs)
  | fn {n : Nat} {a : Addr} : C.cl n = some a → RV C H M m (.ref a) (.fn n)
inductive RVs (C : Cfg) (H : Hp) (M : Addr → Prop) (m : List Addr) : List V → List Va → Prop
  | nil : RVs C H M m [] []
  | cons {v : V} {vs : List V} {x : Va} {xs : List Va} : RV C H M m v x → RVs C H M m vs xs → RVs C H M m (v :: vs) (x :: xs)
end

/-- what may be changed: the callers' and our own -/
abbrev Mx (M0 : Addr → Prop) (m : List Addr) : Addr → Prop := fun a => M0 a ∨ a ∈ m
def NoTbl (o : HO) : Prop := ∀ ps, o ≠ .tbl ps
/-- a step of ours: what we may not change stays; what we add was free -/
structure Go (m : List Addr) (H : Hp) (m' : List Addr) (H' : Hp) : Prop where
  pre : ∃ n, m' = m ++ n
  kp : ∀ b o, H b = some o → b ∉ m → NoTbl o → H' b = some o
  tk : ∀ b ps, H b = some (.tbl ps) → ∃ qs, H' b = some (.tbl qs)
  nw : ∀ a, a ∈ m' → a ∉ m → H a = none
theorem Go.refl (m : List Addr) (H : Hp) : Go m H m H := ⟨⟨[], by simp⟩, fun _ _ h _ _ => h, fun _ ps h => ⟨ps, h⟩, fun _ h n => absurd h n⟩
theorem Go.ex {m m' : List Addr} {H H' : Hp} (g : Go m H m' H') {b : Addr} {o : HO} (h : H b = some o) (n : b ∉ m) : ∃ u, H' b = some u := by
  by_cases t : NoTbl o
  · exact ⟨o, g.kp b o h n t⟩
  · have e : ∃ ps, o = .tbl ps := by
      apply Classical.byContradiction
      intro z
      exact t fun ps e => z ⟨ps, e⟩
    obtain ⟨ps, rfl⟩ := e
    obtain ⟨qs, q⟩ := g.tk b ps h
    exact ⟨_, q⟩
theorem Go.trans {m m1 m2 : List Addr} {H H1 H2 : Hp} (a : Go m H m1 H1) (b : Go m1 H1 m2 H2) : Go m H m2 H2 := by
  obtain ⟨n1, e1⟩ := a.pre
  obtain ⟨n2, e2⟩ := b.pre
  refine ⟨⟨n1 ++ n2, by rw [e2, e1, List.append_assoc]⟩, fun c o h n t => ?_, fun c ps h => ?_, fun x hx n => ?_⟩
  · refine b.kp c o (a.kp c o h n t) (fun hc => ?_) t
    rw [a.nw c hc n] at h
    cases h
  · obtain ⟨qs, q⟩ := a.tk c ps h
    exact b.tk c qs q
  · by_cases h1 : x ∈ m1
    · exact a.nw x h1 n
    · have q := b.nw x hx h1
      cases e : H x with
      | none => rfl
      | some o =>
        obtain ⟨u, hu⟩ := a.ex e n
        rw [hu] at q
        cases q
theorem Go.mem {m m' : List Addr} {H H' : Hp} (g : Go m H m' H') {n : Nat} {a : Addr} (h : m[n]? = some a) : m'[n]? = some a := by
  obtain ⟨l, e⟩ := g.pre
  rw [e, List.getElem?_append_left (List.getElem?_eq_some_iff.mp h).1]
  exact h
theorem Rd.ex {H : Hp} {a : Addr} {u : HO} (h : Rd H a u) : ∃ o, H a = some o := by
  rcases h with h | ⟨o, h⟩
  · exact ⟨_, h⟩
  · exact ⟨_, h⟩
theorem Go.rd {m m' : List Addr} {H H' : Hp} (g : Go m H m' H') {a : Addr} {u : HO} (h : Rd H a u) (n : a ∉ m) (t : NoTbl u) : Rd H' a u := by
  rcases h with h | ⟨o, h⟩
  · exact .inl (g.kp a _ h n t)
  · exact .inr ⟨o, g.kp a _ h n fun ps e => nomatch e⟩
theorem Go.nmx {m m' : List Addr} {H H' : Hp} (g : Go m H m' H') {M0 : Addr → Prop} {a : Addr} {o : HO} (h : H a = some o) (n : ¬ Mx M0 m a) : ¬ Mx M0 m' a := fun z => by
  rcases z with z | z
  · exact n (.inl z)
  · have q := g.nw a z fun y => n (.inr y)
    rw [h] at q
    cases q
/-- what stands in m: a list, a dict, an instance -/
def MutX : HO → Prop
  | .lst _ => True
  | .dK _ => True
  | .dT _ => True
  | .ins _ _ _ => True
  | _ => False
def MutO (H : Hp) (m : List Addr) : Prop := ∀ a ∈ m, ∃ o, H a = some o ∧ MutX o
theorem Go.sqt {K : PySem.W.Frag} {m m' : List Addr} {H H' : Hp} (g : Go m H m' H') (mu : MutO H m) {a : Addr} {vs : List V} (h : SqT K H a vs) : SqT K H' a vs := by
  rcases h with h | h
  · refine .inl (g.rd h (fun z => ?_) fun ps e => nomatch e)
    obtain ⟨o, ho, mo⟩ := mu a z
    rcases h with h | ⟨ob, h⟩
    · rw [h] at ho
      cases ho
      exact mo
    · rw [h] at ho
      cases ho
      exact mo
  · exact .inr h
theorem Go.sqf {K : PySem.W.Frag} {m m' : List Addr} {H H' : Hp} (g : Go m H m' H') (mu : MutO H m) {a : Addr} {vs : List V} (h : SqF K H a vs) : SqF K H' a vs := by
  rcases h with ⟨ob, h⟩ | h
  · refine .inl ⟨ob, g.kp a _ h (fun z => ?_) fun ps e => nomatch e⟩
    obtain ⟨o, ho, mo⟩ := mu a z
    rw [h] at ho
    cases ho
    exact mo
  · exact .inr h
theorem Go.tup {m m' : List Addr} {H H' : Hp} (g : Go m H m' H') (mu : MutO H m) {a : Addr} {vs : List V} (h : H a = some (.tup vs)) : H' a = some (.tup vs) := by
  refine g.kp a _ h (fun z => ?_) fun ps e => nomatch e
  obtain ⟨o, ho, mo⟩ := mu a z
  rw [h] at ho
  cases ho
  exact mo
section
variable {C : Cfg} {M0 : Addr → Prop} {m m' : List Addr} {H H' : Hp}
mutual
theorem RD.go {K : PySem.W.Frag} (g : Go m H m' H') (mu : MutO H m) : ∀ {v : V} {d : PyData}, RD K H (Mx M0 m) v d → RD K H' (Mx M0 m') v d
  | _, _, .non => .non
  | _, _, .bl b => .bl b
  | _, _, .int i => .int i
  | _, _, .str x => .str x
  | _, _, .lst h n r => .lst (g.kp _ _ h (fun z => n (.inr z)) fun ps e => nomatch e) (g.nmx h n) (RDs.go g mu r)
  | _, _, .tup h r => .tup (g.tup mu h) (RDs.go g mu r)
theorem RDs.go {K : PySem.W.Frag} (g : Go m H m' H') (mu : MutO H m) : ∀ {vs : List V} {ds : List PyData}, RDs K H (Mx M0 m) vs ds → RDs K H' (Mx M0 m') vs ds
  | _, _, .nil => .nil
  | _, _, .cons a b => .cons (RD.go g mu a) (RDs.go g mu b)
end
mutual
theorem RV.go (g : Go m H m' H') (mu : MutO H m) : ∀ {v : V} {x : Va}, RV C H (Mx M0 m) m v x → RV C H' (Mx M0 m') m' v x
  | _, _, .dat h => .dat (h.go g mu)
  | _, _, .ref h => .ref (g.mem h)
  | _, _, .lst h n r => .lst (g.kp _ _ h (fun z => n (.inr z)) fun ps e => nomatch e) (g.nmx h n) (RVs.go g mu r)
  | _, _, .frz h r => .frz (g.sqf mu h) (RVs.go g mu r)
  | _, _, .tup h r => .tup (g.sqt mu h) (RVs.go g mu r)
  | _, _, .fn h => .fn h
theorem RVs.go (g : Go m H m' H') (mu : MutO H m) : ∀ {vs : List V} {xs : List Va}, RVs C H (Mx M0 m) m vs xs → RVs C H' (Mx M0 m') m' vs xs
  | _, _, .nil => .nil
  | _, _, .cons a b => .cons (RV.go g mu a) (RVs.go g mu b)
end
end

/-! ### things of the store -/
def keyD : Key → PyData
  | .inl i => .int i
  | .inr x => .str x
def RO (C : Cfg) (H : Hp) (M : Addr → Prop) (m : List Addr) (a : Addr) : Ob → Prop
  | .lst xs => ∃ vs, H a = some (.lst vs) ∧ RVs C H M m vs xs
  | .dic false kvs => ∃ ks : List (Key × V), H a = some (.dK ks) ∧ Paired (fun (p : Key × V) (q : PyData × Va) => keyD p.1 = q.1 ∧ RV C H M m p.2 q.2) ks kvs
  | .dic true kvs => ∃ ks : List (List Key × V), H a = some (.dT ks) ∧ Paired (fun (p : List Key × V) (q : PyData × Va) => PyData.tuple (p.1.map keyD) = q.1 ∧ RV C H M m p.2 q.2) ks kvs
  | .ins c fs => ∃ A dx gs, C.ic c = some A ∧ H a = some (.ins A dx gs) ∧ Paired (fun (p : Str × V) (q : Str × Va) => p.1 = q.1 ∧ RV C H M m p.2 q.2) gs fs
theorem RO.mut {C : Cfg} {H : Hp} {M : Addr → Prop} {m : List Addr} {a : Addr} {o : Ob} (h : RO C H M m a o) : ∃ u, H a = some u ∧ MutX u := by
  cases o with
  | lst xs => obtain ⟨vs, e, _⟩ := h; exact ⟨_, e, trivial⟩
  | dic t kvs =>
    cases t with
    | false => obtain ⟨ks, e, _⟩ := h; exact ⟨_, e, trivial⟩
    | true => obtain ⟨ks, e, _⟩ := h; exact ⟨_, e, trivial⟩
  | ins c fs => obtain ⟨_, _, _, _, e, _⟩ := h; exact ⟨_, e, trivial⟩
theorem RO.go {C : Cfg} {M0 : Addr → Prop} {m m' : List Addr} {H H' : Hp} {a : Addr} {o : Ob} (h : RO C H (Mx M0 m) m a o) (g : Go m H m' H') (mu : MutO H m) (e : H' a = H a) : RO C H' (Mx M0 m') m' a o := by
  cases o with
  | lst xs => obtain ⟨vs, q, r⟩ := h; exact ⟨vs, e.trans q, r.go g mu⟩
  | dic t kvs =>
    cases t with
    | false => obtain ⟨ks, q, r⟩ := h; exact ⟨ks, e.trans q, Paired.mapP r fun _ _ z => ⟨z.1, z.2.go g mu⟩⟩
    | true => obtain ⟨ks, q, r⟩ := h; exact ⟨ks, e.trans q, Paired.mapP r fun _ _ z => ⟨z.1, z.2.go g mu⟩⟩
  | ins c fs => obtain ⟨A, dx, gs, ha, q, r⟩ := h; exact ⟨A, dx, gs, ha, e.trans q, Paired.mapP r fun _ _ z => ⟨z.1, z.2.go g mu⟩⟩

def TbOk (H : Hp) (p : Addr × Option Str) : Prop := ∃ ps : Array Value, H p.1 = some (.tbl ps) ∧ TriplesOk ps.toList ∧
  ∀ q, p.2 = some q → ∀ (pos : Pos) (cv : Value), codeAmong pos ps.toList = some cv → ∃ c, cv = .ref c ∧ H c = some (LamX.CodeO c q)
structure RH (C : Cfg) (M0 : Addr → Prop) (m : List Addr) (H : Hp) (st : Sto) : Prop where
  m0 : ∀ a, M0 a → ∃ o, H a = some o
  len : m.length = st.length
  nd : m.Nodup
  dj : ∀ a ∈ m, ¬ M0 a
  mu : MutO H m
  ob : ∀ (n : Nat) (o : Ob), st[n]? = some (some o) → ∃ a, m[n]? = some a ∧ RO C H (Mx M0 m) m a o
  tb : ∀ p ∈ C.T, TbOk H p
  hd : ∀ p ∈ C.hid, RD C.K H (Mx M0 m) p.1 p.2
  ko : ∀ p ∈ C.ko, H p.1 = some p.2 ∧ NoTbl p.2 ∧ ¬ MutX p.2
section
variable {C : Cfg} {M0 : Addr → Prop} {m m' : List Addr} {H H' : Hp} {st : Sto}
theorem TbOk.same {p : Addr × Option Str} (t : TbOk H p) (e : ∀ b o, H b = some o → H' b = some o) : TbOk H' p := by
  obtain ⟨ps, h1, h2, h3⟩ := t
  refine ⟨ps, e _ _ h1, h2, fun q hq pos cv hc => ?_⟩
  obtain ⟨c, e1, e2⟩ := h3 q hq pos cv hc
  exact ⟨c, e1, e _ _ e2⟩
theorem Go.same (e : Same H H') : Go m H m H' := ⟨⟨[], by simp⟩, fun b o h _ _ => e b o h, fun b ps h => ⟨ps, e _ _ h⟩, fun _ h n => absurd h n⟩
/-- all that stood stands -/
theorem RH.same (r : RH C M0 m H st) (e : Same H H') : RH C M0 m H' st where
  m0 := fun a h => let ⟨o, q⟩ := r.m0 a h; ⟨o, e _ _ q⟩
  len := r.len
  nd := r.nd
  dj := r.dj
  mu := fun a h => let ⟨o, q, z⟩ := r.mu a h; ⟨o, e _ _ q, z⟩
  ob := fun n o h => by
    obtain ⟨a, ha, ro⟩ := r.ob n o h
    obtain ⟨u, hu, _⟩ := ro.mut
    exact ⟨a, ha, ro.go (Go.same e) r.mu ((e _ _ hu).trans hu.symm)⟩
  tb := fun p h => (r.tb p h).same e
  hd := fun p h => (r.hd p h).go (Go.same e) r.mu
  ko := fun p h => ⟨e _ _ (r.ko p h).1, (r.ko p h).2⟩
theorem same_new {p : Addr} {o : HO} (h : H p = none) : Same H (upd H p o) := fun b x e => by
  rw [upd_ne (ne_of_none e h)]
  exact e
/-- a new thing of the store -/
theorem Go.alloc {p : Addr} {o : HO} (h : H p = none) : Go m H (m ++ [p]) (upd H p o) :=
  ⟨⟨[p], rfl⟩, fun b u e _ _ => same_new h b u e, fun b ps e => ⟨ps, same_new h _ _ e⟩, fun a ha n => by
    rcases List.mem_append.mp ha with z | z
    · exact absurd z n
    · have e : a = p := by simpa using z
      rw [e]
      exact h⟩
theorem RH.alloc (r : RH C M0 m H st) {p : Addr} {o : HO} {ob : Ob} (h : H p = none) (ro : RO C (upd H p o) (Mx M0 (m ++ [p])) (m ++ [p]) p ob) : RH C M0 (m ++ [p]) (upd H p o) (st ++ [some ob]) where
  m0 := fun a ha => let ⟨u, q⟩ := r.m0 a ha; ⟨u, same_new h _ _ q⟩
  len := by rw [List.length_append, List.length_append, r.len]; rfl
  nd := by
    rw [List.nodup_append]
    refine ⟨r.nd, by simp, fun a ha b hb e => ?_⟩
    have e2 : b = p := by simpa using hb
    obtain ⟨u, hu, _⟩ := r.mu a ha
    rw [e, e2, h] at hu
    cases hu
  dj := fun a ha z => by
    rcases List.mem_append.mp ha with q | q
    · exact r.dj a q z
    · have e2 : a = p := by simpa using q
      obtain ⟨u, hu⟩ := r.m0 a z
      rw [e2, h] at hu
      cases hu
  mu := fun a ha => by
    rcases List.mem_append.mp ha with q | q
    · obtain ⟨u, hu, z⟩ := r.mu a q
      exact ⟨u, same_new h _ _ hu, z⟩
    · have e2 : a = p := by simpa using q
      obtain ⟨u, hu, z⟩ := ro.mut
      rw [e2]
      exact ⟨u, hu, z⟩
  ob := fun n u hn => by
    by_cases hl : n < st.length
    · rw [List.getElem?_append_left hl] at hn
      obtain ⟨a, ha, q⟩ := r.ob n u hn
      obtain ⟨x, hx, _⟩ := q.mut
      exact ⟨a, (Go.alloc (m := m) (o := o) h).mem ha, q.go (Go.alloc h) r.mu ((same_new h _ _ hx).trans hx.symm)⟩
    · have e : n = st.length := by
        have h2 := (List.getElem?_eq_some_iff.mp hn).1
        rw [List.length_append] at h2
        simp at h2
        omega
      subst e
      rw [List.getElem?_append_right (Nat.le_refl _)] at hn
      have e3 : u = ob := by simpa using hn.symm
      refine ⟨p, ?_, by rw [e3]; exact ro⟩
      rw [← r.len, List.getElem?_append_right (Nat.le_refl _)]
      simp
  tb := fun q hq => (r.tb q hq).same (same_new h)
  hd := fun q hq => (r.hd q hq).go (Go.alloc h) r.mu
  ko := fun q hq => ⟨same_new h _ _ (r.ko q hq).1, (r.ko q hq).2⟩
/-- a thing of the store is written -/
theorem Go.write {a : Addr} {o : HO} (ha : a ∈ m) (mu : MutO H m) : Go m H m (upd H a o) :=
  ⟨⟨[], by simp⟩, fun b u e n _ => (upd_ne (show b ≠ a from fun z => n (z.symm ▸ ha))).trans e, fun b ps e => ⟨ps, (upd_ne (show b ≠ a from fun z => by
      obtain ⟨u, hu, w⟩ := mu a ha
      rw [z, hu] at e
      cases e
      exact w)).trans e⟩, fun _ h n => absurd h n⟩
theorem RH.write (r : RH C M0 m H st) {n : Nat} {a : Addr} {o : HO} {ob : Ob} (ha : m[n]? = some a) (mo : MutX o) (ro : RO C (upd H a o) (Mx M0 m) m a ob) : RH C M0 m (upd H a o) (st.set n (some ob)) := by
  have hm : a ∈ m := List.mem_of_getElem? ha
  have g := Go.write (o := o) hm r.mu
  refine ⟨fun b hb => ?_, by rw [List.length_set]; exact r.len, r.nd, r.dj, fun b hb => ?_, fun k u hk => ?_, fun p hp => ?_, fun p hp => (r.hd p hp).go g r.mu, fun p hp => ⟨g.kp _ _ (r.ko p hp).1 (fun z => by
    obtain ⟨u, hu, w⟩ := r.mu p.1 z
    rw [(r.ko p hp).1] at hu
    cases hu
    exact (r.ko p hp).2.2 w) (r.ko p hp).2.1, (r.ko p hp).2⟩⟩
  · obtain ⟨u, hu⟩ := r.m0 b hb
    exact ⟨u, (upd_ne (show b ≠ a from fun z => r.dj a hm (z ▸ hb))).trans hu⟩
  · by_cases e : b = a
    · subst e
      exact ⟨o, upd_same, mo⟩
    · obtain ⟨u, hu, z⟩ := r.mu b hb
      exact ⟨u, by rw [upd_ne e]; exact hu, z⟩
  · by_cases e : n = k
    · subst e
      have hl : n < st.length := by rw [← r.len]; exact (List.getElem?_eq_some_iff.mp ha).1
      rw [List.getElem?_set_self hl] at hk
      cases hk
      exact ⟨a, ha, ro⟩
    · rw [List.getElem?_set_ne e] at hk
      obtain ⟨b, hb, q⟩ := r.ob k u hk
      have nb : b ≠ a := fun z => e (by
        obtain ⟨h1, e1⟩ := List.getElem?_eq_some_iff.mp ha
        obtain ⟨h2, e2⟩ := List.getElem?_eq_some_iff.mp hb
        exact (List.getElem_inj r.nd).mp (e1.trans (z.symm.trans e2.symm)))
      exact ⟨b, hb, q.go g r.mu (upd_ne nb)⟩
  · obtain ⟨ps, h1, h2, h3⟩ := r.tb p hp
    have na : ∀ c u, H c = some u → ¬ MutX u → c ≠ a := fun c u hc nm z => by
      obtain ⟨u', hu', w⟩ := r.mu a hm
      rw [← z, hc] at hu'
      cases hu'
      exact nm w
    refine ⟨ps, by rw [upd_ne (na _ _ h1 fun z => z)]; exact h1, h2, fun q hq pos cv hc => ?_⟩
    obtain ⟨c, e1, e2⟩ := h3 q hq pos cv hc
    exact ⟨c, e1, by rw [upd_ne (na _ _ e2 fun z => z)]; exact e2⟩
end
end Sk

/-! Sk, part 2: ends, readings, expressions. -/
namespace Sk
open PySem PySem.Spec PyProof.Rows L2

/-! ### ends -/
def REx (C : Cfg) (H : Hp) (M : Addr → Prop) (e : Ec) (c : Value) (d : Option Addr) : Prop :=
  (∃ A, C.ec e.cls = some A ∧ c = .ref A) ∧ (match e.arg with
    | none => d = none
    | some p => ∃ x v, d = some x ∧ H x = some (.xd [("at", v)]) ∧ RD C.K H M v p)
/-- what a result of ours promises to Q (and to E) -/
def FinG {a b : Type} (R : Hp → List Addr → b → a → Prop) (C : Cfg) (M0 : Addr → Prop) (m : List Addr) (H : Hp) (E : XK) (r : Rs a) (Q : b → Hp → Prop) : Prop :=
  match r with
  | .ok x st => ∀ (y : b) (m' : List Addr) (H' : Hp), Go m H m' H' → RH C M0 m' H' st → R H' m' y x → Q y H'
  | .err e st => ∀ (c : Value) (d : Option Addr) (m' : List Addr) (H' : Hp), Go m H m' H' → RH C M0 m' H' st → REx C H' (Mx M0 m') e c d → E c d H'
  | .bad => False
abbrev relV (C : Cfg) (M0 : Addr → Prop) : Hp → List Addr → V → Va → Prop := fun H m v x => RV C H (Mx M0 m) m v x
abbrev relVs (C : Cfg) (M0 : Addr → Prop) : Hp → List Addr → List V → List Va → Prop := fun H m v x => RVs C H (Mx M0 m) m v x
abbrev relB : Hp → List Addr → Bool → Bool → Prop := fun _ _ a b => a = b
abbrev Fin (C : Cfg) (M0 : Addr → Prop) := FinG (relV C M0) C M0
section
variable {a b c d : Type} {R : Hp → List Addr → b → a → Prop} {R2 : Hp → List Addr → d → c → Prop} {C : Cfg} {M0 : Addr → Prop} {m m1 : List Addr} {H H1 : Hp} {E : XK} {Q Q' : b → Hp → Prop}
theorem FinG.rebase {r : Rs a} (h : FinG R C M0 m H E r Q) (g : Go m H m1 H1) : FinG R C M0 m1 H1 E r Q := by
  cases r with
  | ok x st => exact fun y m' H' g' rh q => h y m' H' (g.trans g') rh q
  | err e st => exact fun c d m' H' g' rh q => h c d m' H' (g.trans g') rh q
  | bad => exact h
theorem FinG.mono {r : Rs a} (h : FinG R C M0 m H E r Q) (i : ∀ y H, Q y H → Q' y H) : FinG R C M0 m H E r Q' := by
  cases r with
  | ok x st => exact fun y m' H' g' rh q => i _ _ (h y m' H' g' rh q)
  | err e st => exact h
  | bad => exact h
/-- first r, then k -/
theorem FinG.bind {r : Rs a} {k : a → Sto → Rs c} {Q2 : d → Hp → Prop} (h : FinG R2 C M0 m H E (r.bind k) Q2) :
    FinG R C M0 m H E r (fun y H1 => ∃ m1 st1 x, Go m H m1 H1 ∧ RH C M0 m1 H1 st1 ∧ R H1 m1 y x ∧ FinG R2 C M0 m1 H1 E (k x st1) Q2) := by
  cases r with
  | ok x st => exact fun y m' H' g' rh q => ⟨m', st, x, g', rh, q, FinG.rebase h g'⟩
  | err e st => exact h
  | bad => exact h
theorem FinG.out {x : a} {st : Sto} {y : b} (h : FinG R C M0 m H E (.ok x st) Q) (rh : RH C M0 m H st) (q : R H m y x) : Q y H := h y m H (Go.refl m H) rh q
theorem FinG.same {x : a} {st : Sto} {y : b} (h : FinG R C M0 m H E (.ok x st) Q) (rh : RH C M0 m H st) (e : Same H H1) (q : R H1 m y x) : Q y H1 := h y m H1 (Go.same e) (rh.same e) q
end

/-! ### names -/
structure RE (C : Cfg) (H : Hp) (M0 : Addr → Prop) (m : List Addr) (s : L2.St) (ev : Ev) : Prop where
  len : s.length = ev.length
  vr : ∀ (i : Nat) (x : Va), ev[i]? = some (some x) → ∃ v, s[i]? = some (some v) ∧ RV C H (Mx M0 m) m v x
section
variable {C : Cfg} {H H1 : Hp} {M0 : Addr → Prop} {m m1 : List Addr} {s : L2.St} {ev : Ev}
theorem RE.go (r : RE C H M0 m s ev) (g : Go m H m1 H1) (mu : MutO H m) : RE C H1 M0 m1 s ev := ⟨r.len, fun i x h => let ⟨v, e, q⟩ := r.vr i x h; ⟨v, e, q.go g mu⟩⟩
theorem RE.set (r : RE C H M0 m s ev) (i : Nat) {v : V} {x : Va} (q : RV C H (Mx M0 m) m v x) : RE C H M0 m (s.set i (some v)) (ev.set i (some x)) := by
  refine ⟨by rw [List.length_set, List.length_set, r.len], fun j y h => ?_⟩
  by_cases e : i = j
  · subst e
    have hl : i < ev.length := by
      have h2 := (List.getElem?_eq_some_iff.mp h).1
      rw [List.length_set] at h2
      exact h2
    rw [List.getElem?_set_self hl] at h
    cases h
    exact ⟨v, List.getElem?_set_self (by rw [r.len]; exact hl), q⟩
  · rw [List.getElem?_set_ne e] at h
    rw [List.getElem?_set_ne e]
    exact r.vr j y h
end

/-! ### readings -/
abbrev CE := Ev → Sto → Rs Va
abbrev CA := Ev → Sto → Rs (List Va)
abbrev CB := Ev → Sto → Rs Bool
def tG {a b : Type} (R : Cfg → (Addr → Prop) → Hp → List Addr → b → a → Prop) (C : Cfg) (W : WX) (c : Ev → Sto → Rs a) : L2.St → Hp → (b → Hp → Prop) → Prop := fun s H Q =>
  ∃ M0 m ev st, RH C M0 m H st ∧ RE C H M0 m s ev ∧ FinG (R C M0) C M0 m H (WE W s) (c ev st) Q
abbrev tE (C : Cfg) (W : WX) (c : CE) : TE := tG relV C W c
abbrev tA (C : Cfg) (W : WX) (c : CA) : TA := tG relVs C W c
abbrev tT (C : Cfg) (W : WX) (c : CB) : TT := tG (fun _ _ => relB) C W c
section
variable {X : Cx}
theorem PE.imp {e : Expr} {t t' : TE} (h : PE X e t) (i : ∀ s H Q, t' s H Q → t s H Q) : PE X e t' := ⟨fun pins s σ H Q I q => h.run pins s σ H Q I (i _ _ _ q)⟩
theorem PT.imp {e : Expr} {t t' : TT} (h : PT X e t) (i : ∀ s H Q, t' s H Q → t s H Q) : PT X e t' := ⟨fun pins s σ H Q I q => h.run pins s σ H Q I (i _ _ _ q)⟩
theorem PW.imp {e : Expr} {t t' : TT} (h : PW X e t) (i : ∀ s H Q, t' s H Q → t s H Q) : PW X e t' := ⟨fun w pins s σ H Q I q => h.run w pins s σ H Q I (i _ _ _ q)⟩
theorem PA.imp {e : List Expr} {t t' : TA} (h : PA X e t) (i : ∀ s H Q, t' s H Q → t s H Q) : PA X e t' := ⟨fun p pins s σ H Q I q => h.run p pins s σ H Q I (i _ _ _ q)⟩
end
section
variable {a b c d : Type} {R : Cfg → (Addr → Prop) → Hp → List Addr → b → a → Prop} {R2 : Cfg → (Addr → Prop) → Hp → List Addr → d → c → Prop} {C : Cfg} {W : WX} {s : L2.St} {H : Hp}
/-- a reading taken apart: first f, then k -/
theorem tG.bind {f : Ev → Sto → Rs a} {k : a → Ev → Sto → Rs c} {Q : d → Hp → Prop} {P : b → Hp → Prop} (h : tG R2 C W (fun ev st => (f ev st).bind fun x st1 => k x ev st1) s H Q)
    (n : ∀ M0 m ev st x y H1, RH C M0 m H1 st → RE C H1 M0 m s ev → R C M0 H1 m y x → FinG (R2 C M0) C M0 m H1 (WE W s) (k x ev st) Q → P y H1) : tG R C W f s H P := by
  obtain ⟨M0, m, ev, st, rh, re, fin⟩ := h
  refine ⟨M0, m, ev, st, rh, re, (FinG.bind (R := R C M0) fin).mono fun y H1 q => ?_⟩
  obtain ⟨m1, st1, x, g, rh1, rx, fin1⟩ := q
  exact n M0 m1 ev st1 x y H1 rh1 (re.go g rh.mu) rx fin1
theorem tG.mk {M0 : Addr → Prop} {m : List Addr} {ev : Ev} {st : Sto} {f : Ev → Sto → Rs a} {Q : b → Hp → Prop} (rh : RH C M0 m H st) (re : RE C H M0 m s ev) (fin : FinG (R C M0) C M0 m H (WE W s) (f ev st) Q) : tG R C W f s H Q := ⟨M0, m, ev, st, rh, re, fin⟩
end

/-! ### the simplest expressions -/
section
variable {X : Cx} {C : Cfg} {W : WX} {pos : Pos}
def dC (x : PyData) : CE := fun _ st => .ok (.dat x) st
def dVar (i : Nat) : CE := fun ev st => match ev[i]? with
  | some (some x) => .ok x st
  | _ => .bad
theorem fe_c {e : Expr} {v : V} {d : PyData} (h : PE X e (tC v)) (r : ∀ H M, RD C.K H M v d) : PE X e (tE C W (dC d)) := PE.imp h fun s H Q ⟨M0, m, ev, st, rh, re, fin⟩ => FinG.out fin rh (.dat (r _ _))
theorem fe_int {i : Int} {j : Nat} : PE X (.Constant (.int i) j pos) (tE C W (dC (.int i))) := fe_c pe_int fun _ _ => .int i
theorem fe_bl {b : Bool} {j : Nat} : PE X (.Constant (.bool b) j pos) (tE C W (dC (.bool b))) := fe_c pe_bl fun _ _ => .bl b
theorem fe_non {j : Nat} : PE X (.Constant .none j pos) (tE C W (dC .none)) := fe_c pe_non fun _ _ => .non
theorem fe_str {x : Str} {j : Nat} : PE X (.Constant (.str x) j pos) (tE C W (dC (.str x))) := fe_c pe_str fun _ _ => .str x
theorem fe_v {e : Expr} {i : Nat} (h : PE X e (tVar i)) : PE X e (tE C W (dVar i)) := PE.imp h fun s H Q ⟨M0, m, ev, st, rh, re, fin⟩ => by
  have fin' : FinG (relV C M0) C M0 m H (WE W s) (match ev[i]? with | some (some x) => Rs.ok x st | _ => .bad) Q := fin
  cases e : ev[i]? with
  | none => rw [e] at fin'; exact fin'.elim
  | some o =>
    cases o with
    | none => rw [e] at fin'; exact fin'.elim
    | some x =>
      rw [e] at fin'
      obtain ⟨v, h1, h2⟩ := re.vr i x e
      exact ⟨v, h1, FinG.out fin' rh h2⟩
theorem fv (i : Nat) {x : Str} (hN : X.N[i]? = some x := by rfl) (hv : Vis X.env.scope x := by first | exact Or.inl rfl | exact Or.inr (Or.inl rfl) | exact Or.inr (Or.inr rfl)) (hd : (x == ("__debug__" : Str)) = false := by decide)
    (hcd : (x == ("__classdict__" : Str)) = false := by decide) : PE X (.Name x pos) (tE C W (dVar i)) := fe_v (pe_var hN hv hd hcd)

/-! ### two operands -/
def dBin (f : Va → Va → Sto → Rs Va) (a b : CE) : CE := fun ev st => (a ev st).bind fun x st1 => (b ev st1).bind fun y st2 => f x y st2
def OpS (C : Cfg) (r : R2) (f : Va → Va → Sto → Rs Va) : Prop := ∀ (M0 : Addr → Prop) (m : List Addr) (H : Hp) (st : Sto) (v u : V) (x y : Va) (E : XK) (Q : VK),
  RH C M0 m H st → RV C H (Mx M0 m) m v x → RV C H (Mx M0 m) m u y → Fin C M0 m H E (f x y st) Q → r v u H Q
theorem tOp_of {r : R2} {f : Va → Va → Sto → Rs Va} {ca cb : CE} (hs : OpS C r f) (s : L2.St) (H : Hp) (Q : VK) (h : tE C W (dBin f ca cb) s H Q) : tOp r (tE C W ca) (tE C W cb) s H Q :=
  tG.bind h fun M0 m ev st x v H1 rh re rv fin => by
    refine ⟨M0, m, ev, st, rh, re, (FinG.bind (R := relV C M0) fin).mono fun u H2 q => ?_⟩
    obtain ⟨m2, st2, y, g, rh2, ry, fin2⟩ := q
    exact hs M0 m2 H2 st2 v u x y _ Q rh2 (rv.go g rh.mu) ry fin2
variable {a b c : Expr} {ca cb cc : CE}
theorem fe_bin {op : Operator} {r : R2} {f : Va → Va → Sto → Rs Va} (ho : OpR X (binaryOp op) r) (hs : OpS C r f) (ha : PE X a (tE C W ca)) (hb : PE X b (tE C W cb)) : PE X (.BinOp a op b pos) (tE C W (dBin f ca cb)) :=
  PE.imp (pe_op ho ha hb) (tOp_of hs)
theorem fe_cmp {op : CmpOp} {r : R2} {f : Va → Va → Sto → Rs Va} (ho : OpR X (compareOp op) r) (hs : OpS C r f) (ha : PE X a (tE C W ca)) (hb : PE X b (tE C W cb)) (hm : behindInMarks op b = false) : PE X (.Compare a [op] [b] pos) (tE C W (dBin f ca cb)) :=
  PE.imp (pe_cmpR ho ha hb hm) (tOp_of hs)
theorem fe_ix {r : R2} {f : Va → Va → Sto → Rs Va} (ho : IxR X r) (hs : OpS C r f) (ha : PE X a (tE C W ca)) (hb : PE X b (tE C W cb)) (hp : PlainIx b) : PE X (.Subscript a b pos) (tE C W (dBin f ca cb)) :=
  PE.imp (pe_ix ho ha hb hp) (tOp_of hs)
/-- as a test -/
def asB (x : Va) (st : Sto) : Rs Bool := match x with
  | .dat (.bool k) => .ok k st
  | _ => .bad
def dTest (c : CE) : CB := fun ev st => (c ev st).bind asB
theorem tB_of (s : L2.St) (H : Hp) (Q : Bool → Hp → Prop) (h : tT C W (dTest cc) s H Q) : tTest (tE C W cc) s H Q := by
  refine tG.bind (k := fun x _ st => asB x st) h fun M0 m ev st x v H1 rh re rv fin => ?_
  cases rv with
  | dat rd =>
    cases rd with
    | bl k => exact ⟨k, rfl, FinG.out (R := relB) fin rh rfl⟩
    | _ => exact False.elim fin
  | _ => exact False.elim fin
theorem ft_val (h : PE X c (tE C W cc)) (he : ∀ whole, isTrue c X.env whole = (do let v ← whole; standAt c.pos; holding [v] (truthy v)) := by intro _; rfl) : PT X c (tT C W (dTest cc)) := PT.imp (pt_val h he) tB_of
theorem ft_cmp {op : CmpOp} {r : R2} {f : Va → Va → Sto → Rs Va} (ho : OpR X (compareOp op) r) (hs : OpS C r f) (ha : PE X a (tE C W ca)) (hb : PE X b (tE C W cb)) (hm : behindInMarks op b = false) : PT X (.Compare a [op] [b] pos) (tT C W (dTest (dBin f ca cb))) :=
  PT.imp (pt_cmpR ho ha hb hm) fun s H Q h => tG.bind (k := fun x ev st => (cb ev st).bind fun y st2 => (f x y st2).bind asB)
    (show tT C W (fun ev st => (ca ev st).bind fun x st1 => (cb ev st1).bind fun y st2 => (f x y st2).bind asB) s H Q from by
      have e : (dTest (dBin f ca cb)) = (fun ev st => (ca ev st).bind fun x st1 => (cb ev st1).bind fun y st2 => (f x y st2).bind asB) := by
        funext ev st
        unfold dTest dBin
        cases ca ev st with
        | ok x st1 =>
          show ((cb ev st1).bind fun y st2 => f x y st2).bind asB = _
          cases h2 : cb ev st1 with
          | ok y st2 => simp [h2]
          | err _ _ => simp [h2]
          | bad => simp [h2]
        | err _ _ => rfl
        | bad => rfl
      rw [← e]
      exact h) fun M0 m ev st x v H1 rh re rv fin => by
    refine ⟨M0, m, ev, st, rh, re, (FinG.bind (R := relV C M0) fin).mono fun u H2 q => ?_⟩
    obtain ⟨m2, st2, y, g, rh2, ry, fin2⟩ := q
    refine hs M0 m2 H2 st2 v u x y _ _ rh2 (rv.go g rh.mu) ry ((FinG.bind (R := relV C M0) fin2).mono fun w H3 q3 => ?_)
    obtain ⟨m3, st3, z, g3, rh3, rz, fin3⟩ := q3
    cases rz with
    | dat rd =>
      cases rd with
      | bl k => exact ⟨k, rfl, FinG.out (R := relB) fin3 rh3 rfl⟩
      | _ => exact False.elim fin3
    | _ => exact False.elim fin3
end
end Sk

/-! Sk, part 3: and, or, not, chains, arguments, displays, operators by values. -/
namespace Sk
open PySem PySem.Spec PyProof.Rows L2
@[simp] theorem Rs.bind_assoc {a b c : Type} (r : Rs a) (f : a → Sto → Rs b) (g : b → Sto → Rs c) : (r.bind f).bind g = r.bind fun x st => (f x st).bind g := by
  cases r <;> rfl

/-! ### and, or, not, if -/
section
variable {X : Cx} {C : Cfg} {W : WX} {pos : Pos} {a b c : Expr} {rest : List Expr} {ca cb cc : CE} {ta tb tc : CB}
def dAndT (a b : CB) : CB := fun ev st => (a ev st).bind fun k st1 => if k = true then b ev st1 else .ok false st1
def dOrT (a b : CB) : CB := fun ev st => (a ev st).bind fun k st1 => if k = true then .ok true st1 else b ev st1
def dNotT (a : CB) : CB := fun ev st => (a ev st).bind fun k st1 => .ok (!k) st1
theorem fw_and1 (ha : PT X a (tT C W ta)) : PW X (.BoolOp .And [a] pos) (tT C W ta) := pw_and1 ha
theorem fw_or1 (ha : PT X a (tT C W ta)) : PW X (.BoolOp .Or [a] pos) (tT C W ta) := pw_or1 ha
theorem fw_and (ha : PT X a (tT C W ta)) (hb : PW X (.BoolOp .And (b :: rest) pos) (tT C W tb)) : PW X (.BoolOp .And (a :: b :: rest) pos) (tT C W (dAndT ta tb)) :=
  PW.imp (pw_and ha hb) fun s H Q h => tG.bind (R := fun _ _ => relB) (k := fun k ev st => if k = true then tb ev st else .ok false st) h fun M0 m ev st x y H1 rh re rv fin => by
    have e0 : y = x := rv
    subst e0
    cases y with
    | true => exact ite_tt (tG.mk rh re fin)
    | false => exact ite_ff (FinG.out (R := relB) fin rh rfl)
theorem fw_or (ha : PT X a (tT C W ta)) (hb : PW X (.BoolOp .Or (b :: rest) pos) (tT C W tb)) : PW X (.BoolOp .Or (a :: b :: rest) pos) (tT C W (dOrT ta tb)) :=
  PW.imp (pw_or ha hb) fun s H Q h => tG.bind (R := fun _ _ => relB) (k := fun k ev st => if k = true then .ok true st else tb ev st) h fun M0 m ev st x y H1 rh re rv fin => by
    have e0 : y = x := rv
    subst e0
    cases y with
    | true => exact ite_tt (FinG.out (R := relB) fin rh rfl)
    | false => exact ite_ff (tG.mk rh re fin)
theorem ft_not (ha : PT X a (tT C W ta)) : PT X (.UnaryOp .Not a pos) (tT C W (dNotT ta)) :=
  PT.imp (pt_not ha) fun s H Q h => tG.bind (R := fun _ _ => relB) (k := fun k ev st => .ok (!k) st) h fun M0 m ev st x y H1 rh re rv fin => by
    have e0 : y = x := rv
    subst e0
    exact FinG.out (R := relB) fin rh rfl
def dAnd (a b : CE) : CE := fun ev st => (a ev st).bind fun x st1 => (asB x st1).bind fun k st2 => if k = true then b ev st2 else .ok (.dat (.bool false)) st2
def dOr (a b : CE) : CE := fun ev st => (a ev st).bind fun x st1 => (asB x st1).bind fun k st2 => if k = true then .ok (.dat (.bool true)) st2 else b ev st2
def notV (x : Va) (st : Sto) : Rs Va := (asB x st).bind fun k st2 => .ok (.dat (.bool (!k))) st2
def dUn (f : Va → Sto → Rs Va) (a : CE) : CE := fun ev st => (a ev st).bind f
theorem asB_inv {b : Type} {R : Hp → List Addr → b → Va → Prop} {H : Hp} {M0 : Addr → Prop} {m : List Addr} {v : V} {x : Va} (rv : RV C H (Mx M0 m) m v x) (st : Sto) : asB x st = .bad ∨ ∃ k, v = .bl k ∧ x = .dat (.bool k) := by
  cases rv with
  | dat rd =>
    cases rd with
    | bl k => exact .inr ⟨k, rfl, rfl⟩
    | _ => exact .inl rfl
  | _ => exact .inl rfl
theorem fe_one {op : BoolOp} (h : PE X a (tE C W ca)) : PE X (.BoolOp op [a] pos) (tE C W ca) := pe_one h
theorem fe_and (ha : PE X a (tE C W ca)) (hb : PE X (.BoolOp .And (b :: rest) pos) (tE C W cb)) : PE X (.BoolOp .And (a :: b :: rest) pos) (tE C W (dAnd ca cb)) :=
  PE.imp (pe_and ha hb) fun s H Q h => tG.bind (R := relV) (k := fun x ev st1 => (asB x st1).bind fun k st2 => if k = true then cb ev st2 else .ok (.dat (.bool false)) st2) h fun M0 m ev st x v H1 rh re rv fin => by
    rcases asB_inv (R := relV C M0) rv st with z | ⟨k, rfl, rfl⟩
    · rw [z] at fin; exact fin.elim
    · refine ⟨k, rfl, ?_⟩
      cases k with
      | true => exact ite_tt (tG.mk rh re fin)
      | false => exact ite_ff (FinG.out (R := relV C M0) fin rh (.dat (.bl false)))
theorem fe_or (ha : PE X a (tE C W ca)) (hb : PE X (.BoolOp .Or (b :: rest) pos) (tE C W cb)) : PE X (.BoolOp .Or (a :: b :: rest) pos) (tE C W (dOr ca cb)) :=
  PE.imp (pe_or ha hb) fun s H Q h => tG.bind (R := relV) (k := fun x ev st1 => (asB x st1).bind fun k st2 => if k = true then .ok (.dat (.bool true)) st2 else cb ev st2) h fun M0 m ev st x v H1 rh re rv fin => by
    rcases asB_inv (R := relV C M0) rv st with z | ⟨k, rfl, rfl⟩
    · rw [z] at fin; exact fin.elim
    · refine ⟨k, rfl, ?_⟩
      cases k with
      | true => exact ite_tt (FinG.out (R := relV C M0) fin rh (.dat (.bl true)))
      | false => exact ite_ff (tG.mk rh re fin)
theorem fe_not (ha : PE X a (tE C W ca)) : PE X (.UnaryOp .Not a pos) (tE C W (dUn notV ca)) :=
  PE.imp (pe_not ha) fun s H Q h => tG.bind (R := relV) (k := fun x _ st => notV x st) h fun M0 m ev st x v H1 rh re rv fin => by
    rcases asB_inv (R := relV C M0) rv st with z | ⟨k, rfl, rfl⟩
    · unfold notV at fin; rw [z] at fin; exact fin.elim
    · exact ⟨k, rfl, FinG.out (R := relV C M0) fin rh (.dat (.bl _))⟩
def dIf (c : CB) (a b : CE) : CE := fun ev st => (c ev st).bind fun k st1 => if k = true then a ev st1 else b ev st1
theorem fe_if (hc : PT X c (tT C W tc)) (ha : PE X a (tE C W ca)) (hb : PE X b (tE C W cb)) : PE X (.IfExp c a b pos) (tE C W (dIf tc ca cb)) :=
  PE.imp (pe_ifExp hc ha hb) fun s H Q h => tG.bind (R := fun _ _ => relB) (k := fun k ev st => if k = true then ca ev st else cb ev st) h fun M0 m ev st x y H1 rh re rv fin => by
    have e0 : y = x := rv
    subst e0
    cases y with
    | true => exact ite_tt (tG.mk rh re fin)
    | false => exact ite_ff (tG.mk rh re fin)
/-- an operator of one operand -/
def UnS (C : Cfg) (r : V → Hp → VK → Prop) (f : Va → Sto → Rs Va) : Prop := ∀ (M0 : Addr → Prop) (m : List Addr) (H : Hp) (st : Sto) (v : V) (x : Va) (E : XK) (Q : VK),
  RH C M0 m H st → RV C H (Mx M0 m) m v x → Fin C M0 m H E (f x st) Q → r v H Q
theorem fe_un {op : UnaryOp} {r : V → Hp → VK → Prop} {f : Va → Sto → Rs Va} (ho : UnR X (unaryOp op) r) (hs : UnS C r f) (ha : PE X a (tE C W ca)) : PE X (.UnaryOp op a pos) (tE C W (dUn f ca)) :=
  PE.imp (pe_un ho ha) fun s H Q h => tG.bind (R := relV) (k := fun x _ st => f x st) h fun M0 m ev st x v H1 rh re rv fin => hs M0 m H1 st v x _ Q rh rv fin
/-! ### chains -/
def dChain (f g : Va → Va → Sto → Rs Va) (a b c : CE) : CE := fun ev st => (a ev st).bind fun x st1 => (b ev st1).bind fun y st2 => (f x y st2).bind fun z st3 => (asB z st3).bind fun k st4 =>
  if k = true then (c ev st4).bind fun w st5 => g y w st5 else .ok (.dat (.bool false)) st4
theorem tChain_of {r r' : R2} {f g : Va → Va → Sto → Rs Va} (hf : OpS C r f) (hg : OpS C r' g) (s : L2.St) (H : Hp) (Q : VK) (h : tE C W (dChain f g ca cb cc) s H Q) : tChain r r' (tE C W ca) (tE C W cb) (tE C W cc) s H Q :=
  tG.bind (R := relV) (k := fun x ev st1 => (cb ev st1).bind fun y st2 => (f x y st2).bind fun z st3 => (asB z st3).bind fun k st4 => if k = true then (cc ev st4).bind fun w st5 => g y w st5 else .ok (.dat (.bool false)) st4) h fun M0 m ev st x v H1 rh re rv fin => by
    refine ⟨M0, m, ev, st, rh, re, (FinG.bind (R := relV C M0) fin).mono fun u H2 q => ?_⟩
    obtain ⟨m2, st2, y, g2, rh2, ry, fin2⟩ := q
    refine hf M0 m2 H2 st2 v u x y (WE W s) _ rh2 (rv.go g2 rh.mu) ry ((FinG.bind (R := relV C M0) fin2).mono fun w H3 q3 => ?_)
    obtain ⟨m3, st3, z, g3, rh3, rz, fin3⟩ := q3
    rcases asB_inv (R := relV C M0) rz st3 with e | ⟨k, rfl, rfl⟩
    · rw [e] at fin3; exact fin3.elim
    · refine ⟨k, rfl, ?_⟩
      cases k with
      | false => exact ite_ff (FinG.out (R := relV C M0) fin3 rh3 (.dat (.bl false)))
      | true =>
        have re3 := (re.go g2 rh.mu).go g3 rh2.mu
        refine ite_tt ⟨M0, m3, ev, st3, rh3, re3, (FinG.bind (R := relV C M0) fin3).mono fun w H4 q4 => ?_⟩
        obtain ⟨m4, st4, z4, g4, rh4, rz4, fin4⟩ := q4
        exact hg M0 m4 H4 st4 u w y z4 _ Q rh4 ((ry.go g3 rh2.mu).go g4 rh3.mu) rz4 fin4
theorem fe_chain {op op' : CmpOp} {r r' : R2} {f g : Va → Va → Sto → Rs Va} (ho : OpR X (compareOp op) r) (ho' : OpR X (compareOp op') r') (hf : OpS C r f) (hg : OpS C r' g) (ha : PE X a (tE C W ca)) (hb : PE X b (tE C W cb)) (hc : PE X c (tE C W cc))
    (hm : lastMarks [op, op'] [b, c] = false := by with_unfolding_all rfl) : PE X (.Compare a [op, op'] [b, c] pos) (tE C W (dChain f g ca cb cc)) := PE.imp (pe_chain ho ho' ha hb hc hm) (tChain_of hf hg)
/-- a reading weakened at its end -/
theorem tE_test {t : TE} (i : ∀ s H Q, tE C W cc s H Q → t s H Q) (s : L2.St) (H : Hp) (Q : Bool → Hp → Prop) (h : tT C W (dTest cc) s H Q) : tTest t s H Q := i s H _ (tB_of s H Q h)
theorem ft_chain {op op' : CmpOp} {r r' : R2} {f g : Va → Va → Sto → Rs Va} (ho : OpR X (compareOp op) r) (ho' : OpR X (compareOp op') r') (hf : OpS C r f) (hg : OpS C r' g) (ha : PE X a (tE C W ca)) (hb : PE X b (tE C W cb)) (hc : PE X c (tE C W cc))
    (hm : lastMarks [op, op'] [b, c] = false := by with_unfolding_all rfl) : PT X (.Compare a [op, op'] [b, c] pos) (tT C W (dTest (dChain f g ca cb cc))) := PT.imp (pt_chain ho ho' ha hb hc hm) (tE_test (tChain_of hf hg))
end

/-! ### arguments, displays -/
def allDat : List Va → Option (List PyData)
  | [] => some []
  | .dat d :: r => (allDat r).map (d :: ·)
  | _ :: _ => none
theorem allDat_map : ∀ ds : List PyData, allDat (ds.map .dat) = some ds
  | [] => rfl
  | d :: r => by
    show (allDat (r.map .dat)).map (d :: ·) = _
    rw [allDat_map r]
    rfl
def mkT (xs : List Va) : Va := match allDat xs with
  | some ds => .dat (.tuple ds)
  | none => .seq true xs
def mkL (xs : List Va) : Va := match allDat xs with
  | some ds => .dat (.list ds)
  | none => .seq false xs
@[simp] theorem mkT_map (ds : List PyData) : mkT (ds.map .dat) = .dat (.tuple ds) := by unfold mkT; rw [allDat_map]
@[simp] theorem mkL_map (ds : List PyData) : mkL (ds.map .dat) = .dat (.list ds) := by unfold mkL; rw [allDat_map]
section
variable {C : Cfg} {H : Hp} {M : Addr → Prop} {m : List Addr}
theorem RVs.dats : ∀ {vs : List V} {xs : List Va} {ds : List PyData}, RVs C H M m vs xs → allDat xs = some ds → RDs C.K H M vs ds
  | _, _, _, .nil, e => by cases e; exact .nil
  | _, _, _, .cons (.dat h) r, e => by
    have e' : (allDat _).map (_ :: ·) = some _ := e
    obtain ⟨ds', e1, e2⟩ := Option.map_eq_some_iff.mp e'
    subst e2
    exact .cons h (RVs.dats r e1)
  | _, _, _, .cons (.ref _) r, e => nomatch e
  | _, _, _, .cons (.lst _ _ _) r, e => nomatch e
  | _, _, _, .cons (.frz _ _) r, e => nomatch e
  | _, _, _, .cons (.tup _ _) r, e => nomatch e
  | _, _, _, .cons (.fn _) r, e => nomatch e
theorem RVs.len : ∀ {vs : List V} {xs : List Va}, RVs C H M m vs xs → vs.length = xs.length
  | _, _, .nil => rfl
  | _, _, .cons _ r => by rw [List.length_cons, List.length_cons, RVs.len r]
theorem RDs.len {K : PySem.W.Frag} : ∀ {vs : List V} {xs : List PyData}, RDs K H M vs xs → vs.length = xs.length
  | _, _, .nil => rfl
  | _, _, .cons _ r => by rw [List.length_cons, List.length_cons, RDs.len r]
theorem RDs.rvs : ∀ {vs : List V} {ds : List PyData}, RDs C.K H M vs ds → RVs C H M m vs (ds.map .dat)
  | _, _, .nil => .nil
  | _, _, .cons a r => .cons (.dat a) (RDs.rvs r)
theorem RV.mkT {vs : List V} {xs : List Va} {a : Addr} (h : H a = some (.tup vs)) (r : RVs C H M m vs xs) : RV C H M m (.ref a) (mkT xs) := by
  unfold Sk.mkT
  cases e : allDat xs with
  | some ds => exact .dat (.tup h (r.dats e))
  | none => exact .tup (.inl (.inl h)) r
theorem RV.mkL {vs : List V} {xs : List Va} {a : Addr} (h : H a = some (.lst vs)) (n : ¬ M a) (r : RVs C H M m vs xs) : RV C H M m (.ref a) (mkL xs) := by
  unfold Sk.mkL
  cases e : allDat xs with
  | some ds => exact .dat (.lst h n (r.dats e))
  | none => exact .lst h n r
end
theorem notMx {C : Cfg} {M0 : Addr → Prop} {m : List Addr} {H : Hp} {st : Sto} {p : Addr} (rh : RH C M0 m H st) (hp : H p = none) : ¬ Mx M0 m p := fun z => by
  rcases z with z | z
  · obtain ⟨o, e⟩ := rh.m0 p z
    rw [hp] at e; cases e
  · obtain ⟨o, e, _⟩ := rh.mu p z
    rw [hp] at e; cases e
section
variable {X : Cx} {C : Cfg} {W : WX} {pos : Pos} {e : Expr} {es : List Expr} {ca : CE} {cs : CA}
def dNil : CA := fun _ st => .ok [] st
def dCons (a : CE) (r : CA) : CA := fun ev st => (a ev st).bind fun x st1 => (r ev st1).bind fun xs st2 => .ok (x :: xs) st2
theorem fa_nil : PA X [] (tA C W dNil) := PA.imp pa_nil fun s H Q ⟨M0, m, ev, st, rh, re, fin⟩ => FinG.out (R := relVs C M0) fin rh .nil
theorem fa_cons (ha : PE X e (tE C W ca)) (hr : PA X es (tA C W cs)) (hs : starEach (e :: es) X.env = (false, eval e X.env) :: starEach es X.env := by rfl) : PA X (e :: es) (tA C W (dCons ca cs)) :=
  PA.imp (pa_cons ha hr hs) fun s H Q h => tG.bind (R := relV) (k := fun x ev st1 => (cs ev st1).bind fun xs st2 => .ok (x :: xs) st2) h fun M0 m ev st x v H1 rh re rv fin => by
    refine ⟨M0, m, ev, st, rh, re, (FinG.bind (R := relVs C M0) fin).mono fun us H2 q => ?_⟩
    obtain ⟨m2, st2, xs, g, rh2, rs, fin2⟩ := q
    exact FinG.out (R := relVs C M0) fin2 rh2 (.cons (rv.go g rh.mu) rs)
/-- the most items that we make at once -/
def few (n : Nat) : Bool := decide (n ≤ 10000000)
theorem few_le {n : Nat} (h : few n = true) : n ≤ sizeLine := Nat.le_trans (of_decide_eq_true h) (by rw [sizeLine_eq]; decide)
theorem few_lt {n : Nat} (h : few n = true) : n < sizeLine := Nat.lt_of_le_of_lt (of_decide_eq_true h) (by rw [sizeLine_eq]; decide)
def dTup (c : CA) : CE := fun ev st => (c ev st).bind fun xs st1 => if few xs.length = true then .ok (mkT xs) st1 else .bad
def dLst (c : CA) : CE := fun ev st => (c ev st).bind fun xs st1 => if few xs.length = true then .ok (mkL xs) st1 else .bad
/-- a list that is to be changed -/
def newL (xs : List Va) (st : Sto) : Rs Va := .ok (.ref st.length) (st ++ [some (.lst xs)])
def dLstM (c : CA) : CE := fun ev st => (c ev st).bind fun xs st1 => if few xs.length = true then newL xs st1 else .bad
theorem Fin.newL {M0 : Addr → Prop} {m : List Addr} {H : Hp} {st : Sto} {E : XK} {Q : VK} {xs : List Va} {vs : List V} {p : Addr} (fin : Fin C M0 m H E (newL xs st) Q) (rh : RH C M0 m H st) (hp : H p = none) (r : RVs C H (Mx M0 m) m vs xs) : Q (.ref p) (upd H p (.lst vs)) := by
  have g : Go m H (m ++ [p]) (upd H p (.lst vs)) := Go.alloc hp
  refine fin (.ref p) (m ++ [p]) _ g (rh.alloc hp ⟨vs, upd_same, r.go g rh.mu⟩) (.ref ?_)
  rw [← rh.len, List.getElem?_append_right (Nat.le_refl _)]
  simp
theorem Fin.newT {M0 : Addr → Prop} {m : List Addr} {H : Hp} {st : Sto} {E : XK} {Q : VK} {xs : List Va} {vs : List V} {p : Addr} (fin : Fin C M0 m H E (.ok (mkT xs) st) Q) (rh : RH C M0 m H st) (hp : H p = none) (r : RVs C H (Mx M0 m) m vs xs) : Q (.ref p) (upd H p (.tup vs)) :=
  FinG.same (R := relV C M0) fin rh (same_new hp) (RV.mkT upd_same (r.go (Go.same (same_new hp)) rh.mu))
theorem Fin.newF {M0 : Addr → Prop} {m : List Addr} {H : Hp} {st : Sto} {E : XK} {Q : VK} {xs : List Va} {vs : List V} {p : Addr} (fin : Fin C M0 m H E (.ok (mkL xs) st) Q) (rh : RH C M0 m H st) (hp : H p = none) (r : RVs C H (Mx M0 m) m vs xs) : Q (.ref p) (upd H p (.lst vs)) :=
  FinG.same (R := relV C M0) fin rh (same_new hp) (RV.mkL upd_same (notMx rh hp) (r.go (Go.same (same_new hp)) rh.mu))
theorem Fin.ifGo {a b : Type} {R : Hp → List Addr → b → a → Prop} {M0 : Addr → Prop} {m : List Addr} {H : Hp} {E : XK} {Q : b → Hp → Prop} {k : Bool} {r : Rs a} (h : FinG R C M0 m H E (if k = true then r else .bad) Q) : k = true ∧ FinG R C M0 m H E r Q := by
  cases k with
  | true => exact ⟨rfl, h⟩
  | false => exact h.elim
theorem fe_tup {x1 : Nat} (h : PA X es (tA C W cs)) : PE X (.Tuple es x1 pos) (tE C W (dTup cs)) :=
  PE.imp (pe_tup h) fun s H Q h => tG.bind (R := relVs) (k := fun xs _ st1 => if few xs.length = true then .ok (mkT xs) st1 else .bad) h fun M0 m ev st xs vs H1 rh re rv fin => by
    obtain ⟨hk, fin⟩ := Fin.ifGo fin
    exact ⟨by rw [rv.len]; exact few_le hk, fun p hp => Fin.newT fin rh hp rv⟩
theorem fe_lst (h : PA X es (tA C W cs)) : PE X (.List es pos) (tE C W (dLst cs)) :=
  PE.imp (pe_lst h) fun s H Q h => tG.bind (R := relVs) (k := fun xs _ st1 => if few xs.length = true then .ok (mkL xs) st1 else .bad) h fun M0 m ev st xs vs H1 rh re rv fin => by
    obtain ⟨hk, fin⟩ := Fin.ifGo fin
    exact ⟨by rw [rv.len]; exact few_le hk, fun p hp => Fin.newF fin rh hp rv⟩
theorem fe_lstM (h : PA X es (tA C W cs)) : PE X (.List es pos) (tE C W (dLstM cs)) :=
  PE.imp (pe_lst h) fun s H Q h => tG.bind (R := relVs) (k := fun xs _ st1 => if few xs.length = true then newL xs st1 else .bad) h fun M0 m ev st xs vs H1 rh re rv fin => by
    obtain ⟨hk, fin⟩ := Fin.ifGo fin
    exact ⟨by rw [rv.len]; exact few_le hk, fun p hp => Fin.newL fin rh hp rv⟩

/-! ### calls of built-ins by values -/
def dCallB (f : List Va → Sto → Rs Va) (c : CA) : CE := fun ev st => (c ev st).bind f
def CallS (C : Cfg) (r : List V → Hp → VK → Prop) (f : List Va → Sto → Rs Va) : Prop := ∀ (M0 : Addr → Prop) (m : List Addr) (H : Hp) (st : Sto) (vs : List V) (xs : List Va) (E : XK) (Q : VK),
  RH C M0 m H st → RVs C H (Mx M0 m) m vs xs → Fin C M0 m H E (f xs st) Q → r vs H Q
theorem tCB_of {r : List V → Hp → VK → Prop} {f : List Va → Sto → Rs Va} (hs : CallS C r f) (s : L2.St) (H : Hp) (Q : VK) (h : tE C W (dCallB f cs) s H Q) : tCB r (tA C W cs) s H Q :=
  tG.bind (R := relVs) (k := fun xs _ st => f xs st) h fun M0 m ev st xs vs H1 rh re rv fin => hs M0 m H1 st vs xs _ Q rh rv fin
theorem fe_callB {x : Str} {p : Pos} {id : String} {r : List V → Hp → VK → Prop} {f : List Va → Sto → Rs Va} (hc : CallR X (.builtin id) r) (hs : CallS C r f) (hg : Gl X x) (hm : X.mg x = none) (hv : bootBuiltins x = some (.builtin id)) (ha : PA X (e :: es) (tA C W cs)) (hn : x ≠ "__name__" := by decide) (hdb : (x == ("__debug__" : Str)) = false := by decide)
    (he : starEach (e :: es) X.env = (false, eval e X.env) :: starEach es X.env := by rfl) (hpl : (backTo pos (starEach es X.env)).any (·.1) = false := by rfl) : PE X (.Call (.Name x p) (e :: es) [] pos) (tE C W (dCallB f cs)) :=
  PE.imp (pe_callB hc hg hm hv ha hn hdb he hpl) (tCB_of hs)
theorem fe_callTy {x : Str} {p : Pos} {T : String} {r : List V → Hp → VK → Prop} {f : List Va → Sto → Rs Va} (hc : CallR X (.type T) r) (hs : CallS C r f) (hg : Gl X x) (hm : X.mg x = none) (hv : bootBuiltins x = some (.type T)) (ha : PA X (e :: es) (tA C W cs)) (hn : x ≠ "__name__" := by decide) (hdb : (x == ("__debug__" : Str)) = false := by decide)
    (he : starEach (e :: es) X.env = (false, eval e X.env) :: starEach es X.env := by rfl) (hpl : (backTo pos (starEach es X.env)).any (·.1) = false := by rfl) : PE X (.Call (.Name x p) (e :: es) [] pos) (tE C W (dCallB f cs)) :=
  PE.imp (pe_callTy hc hg hm hv ha hn hdb he hpl) (tCB_of hs)
end
end Sk

/-! Sk, part 4: operators and built-ins by values. -/
namespace Sk
open PySem PySem.Spec PyProof.Rows L2

/-! ### deep reading -/
def mapO {a b : Type} (f : a → Option b) : List a → Option (List b)
  | [] => some []
  | x :: r => (f x).bind fun y => (mapO f r).map (y :: ·)
theorem mapO_dat {f : Va → Option PyData} (h : ∀ d, f (.dat d) = some d) : ∀ ds : List PyData, mapO f (ds.map .dat) = some ds
  | [] => rfl
  | d :: r => by
    show ((f (.dat d)).bind fun y => (mapO f (r.map .dat)).map (y :: ·)) = _
    rw [h, mapO_dat h r]
    rfl
def rdD : Nat → Sto → Va → Option PyData
  | _, _, .dat d => some d
  | k + 1, st, .ref n => match st[n]? with
    | some (some (.lst xs)) => (mapO (rdD k st) xs).map .list
    | _ => none
  | k + 1, st, .seq false xs => (mapO (rdD k st) xs).map .list
  | k + 1, st, .seq true xs => (mapO (rdD k st) xs).map .tuple
  | _, _, _ => none
@[simp] theorem rdD_dat (k : Nat) (st : Sto) (d : PyData) : rdD k st (.dat d) = some d := by cases k <;> rfl
section
variable {K : PySem.W.Frag} {H : Hp} {M : Addr → Prop}
mutual
theorem RD.dp : ∀ {v : V} {d : PyData}, RD K H M v d → Dp K H v d
  | _, _, .non => .non
  | _, _, .bl b => .bl b
  | _, _, .int i => .int i
  | _, _, .str x => .str x
  | _, _, .lst h n r => .lst (.inl (.inl h)) (RDs.dp r)
  | _, _, .tup h r => .tup (.inl (.inl h)) (RDs.dp r)
theorem RDs.dp : ∀ {vs : List V} {ds : List PyData}, RDs K H M vs ds → DpAll K H vs ds
  | _, _, .nil => .nil
  | _, _, .cons a b => .cons (RD.dp a) (RDs.dp b)
end
end
section
variable {C : Cfg} {M0 : Addr → Prop} {m : List Addr} {H : Hp} {st : Sto}
theorem dpAll_of {f : Va → Option PyData} (ih : ∀ v x d, RV C H (Mx M0 m) m v x → f x = some d → Dp C.K H v d) : ∀ {vs : List V} {xs : List Va} {ds : List PyData}, RVs C H (Mx M0 m) m vs xs → mapO f xs = some ds → DpAll C.K H vs ds
  | _, _, _, .nil, e => by cases e; exact .nil
  | _, _, _, .cons (x := x) (xs := xs) a b, e => by
    have e' : ((f x).bind fun y => (mapO f xs).map (y :: ·)) = some _ := e
    cases h : f x with
    | none => rw [h] at e'; cases e'
    | some y =>
      rw [h] at e'
      obtain ⟨ds', e1, e2⟩ := Option.map_eq_some_iff.mp (show (mapO f xs).map (y :: ·) = some _ from e')
      subst e2
      exact .cons (ih _ _ _ a h) (dpAll_of ih b e1)
theorem rdD_dp (rh : RH C M0 m H st) : ∀ (k : Nat) (v : V) (x : Va) (d : PyData), RV C H (Mx M0 m) m v x → rdD k st x = some d → Dp C.K H v d
  | k, _, _, _, .dat h, e => by
    rw [rdD_dat] at e
    cases e
    exact h.dp
  | 0, _, _, _, .ref _, e => nomatch e
  | 0, _, _, _, .lst _ _ _, e => nomatch e
  | 0, _, _, _, .frz _ _, e => nomatch e
  | 0, _, _, _, .tup _ _, e => nomatch e
  | 0, _, _, _, .fn _, e => nomatch e
  | k + 1, _, _, _, .fn _, e => nomatch e
  | k + 1, _, _, d, .lst h n r, e => by
    obtain ⟨ds, e1, e2⟩ := Option.map_eq_some_iff.mp (show (mapO (rdD k st) _).map PyData.list = some d from e)
    subst e2
    exact .lst (.inl (.inl h)) (dpAll_of (fun v x d => rdD_dp rh k v x d) r e1)
  | k + 1, _, _, d, .frz h r, e => by
    obtain ⟨ds, e1, e2⟩ := Option.map_eq_some_iff.mp (show (mapO (rdD k st) _).map PyData.list = some d from e)
    subst e2
    exact .lst h.sql (dpAll_of (fun v x d => rdD_dp rh k v x d) r e1)
  | k + 1, _, _, d, .tup h r, e => by
    obtain ⟨ds, e1, e2⟩ := Option.map_eq_some_iff.mp (show (mapO (rdD k st) _).map PyData.tuple = some d from e)
    subst e2
    exact .tup h (dpAll_of (fun v x d => rdD_dp rh k v x d) r e1)
  | k + 1, _, _, d, .ref (n := n) (a := a) h, e => by
    have e' : (match st[n]? with | some (some (.lst xs)) => (mapO (rdD k st) xs).map PyData.list | _ => none) = some d := e
    split at e'
    · rename_i xs hx
      obtain ⟨ds, e1, e2⟩ := Option.map_eq_some_iff.mp e'
      subst e2
      obtain ⟨b, hb, vs, hv, r⟩ := rh.ob n _ hx
      rw [h] at hb
      cases hb
      exact .lst (.inl (.inl hv)) (dpAll_of (fun v x d => rdD_dp rh k v x d) r e1)
    · cases e'
end

/-! ### numbers -/
def oI (i : Int) (st : Sto) : Rs Va := .ok (.dat (.int i)) st
def oB (b : Bool) (st : Sto) : Rs Va := .ok (.dat (.bool b)) st
def addV (x y : Va) (st : Sto) : Rs Va := match x, y with
  | .dat (.int i), .dat (.int j) => oI (i + j) st
  | .dat (.str i), .dat (.str j) => if few (i.length + j.length) = true then .ok (.dat (.str (i ++ j))) st else .bad
  | .dat (.tuple i), .dat (.tuple j) => if few (i.length + j.length) = true then .ok (.dat (.tuple (i ++ j))) st else .bad
  | .dat (.list i), .dat (.list j) => if few (i.length + j.length) = true then .ok (.dat (.list (i ++ j))) st else .bad
  | _, _ => .bad
def subV (x y : Va) (st : Sto) : Rs Va := match x, y with
  | .dat (.int i), .dat (.int j) => oI (i - j) st
  | _, _ => .bad
/-- no more than n either way (read by the kernel without counting) -/
def upto (n : Nat) (i : Int) : Bool := Nat.ble i.natAbs n
theorem upto_iff {n : Nat} {i : Int} : upto n i = true ↔ -(n : Int) ≤ i ∧ i ≤ n := by
  unfold upto
  rw [Nat.ble_eq]
  omega
theorem upto_of {n : Nat} {i : Int} (h1 : -(n : Int) ≤ i) (h2 : i ≤ n) : upto n i = true := upto_iff.mpr ⟨h1, h2⟩
def near64 (i : Int) : Bool := upto 18000000000000000000 i
@[simp] theorem near64_of {i : Int} (h1 : -18000000000000000000 ≤ i) (h2 : i ≤ 18000000000000000000) : near64 i = true := upto_of h1 h2
def mulI (x y : Va) (st : Sto) : Rs Va := match x, y with
  | .dat (.int i), .dat (.int j) => if (near64 i || near64 j) = true then oI (i * j) st else .bad
  | _, _ => .bad
def divV (x y : Va) (st : Sto) : Rs Va := match x, y with
  | .dat (.int i), .dat (.int j) => if (decide (0 < j) && upto 1000000000 j) = true then oI (i / j) st else .bad
  | _, _ => .bad
def modV (x y : Va) (st : Sto) : Rs Va := match x, y with
  | .dat (.int i), .dat (.int j) => if decide (0 < j) = true then oI (i % j) st else .bad
  | _, _ => .bad
def powV (x y : Va) (st : Sto) : Rs Va := match x, y with
  | .dat (.int i), .dat (.int j) => if (decide (0 ≤ j) && decide (j ≤ 1000) && near64 i) = true then oI (i ^ j.toNat) st else .bad
  | _, _ => .bad
def negV (x : Va) (st : Sto) : Rs Va := match x with
  | .dat (.int i) => oI (-i) st
  | _ => .bad
def ltV (x y : Va) (st : Sto) : Rs Va := match x, y with
  | .dat (.int i), .dat (.int j) => oB (decide (i < j)) st
  | _, _ => .bad
def leV (x y : Va) (st : Sto) : Rs Va := match x, y with
  | .dat (.int i), .dat (.int j) => oB (decide (i ≤ j)) st
  | _, _ => .bad
def gtV (x y : Va) (st : Sto) : Rs Va := match x, y with
  | .dat (.int i), .dat (.int j) => oB (decide (j < i)) st
  | _, _ => .bad
def geV (x y : Va) (st : Sto) : Rs Va := match x, y with
  | .dat (.int i), .dat (.int j) => oB (decide (j ≤ i)) st
  | _, _ => .bad
def eqV (x y : Va) (st : Sto) : Rs Va := match rdD 8 st x, rdD 8 st y with
  | some d, some e => if (SeqAt.shaped d && SeqAt.shaped e) = true then oB (PyData.eqv d e) st else .bad
  | _, _ => .bad
def neV (x y : Va) (st : Sto) : Rs Va := match rdD 8 st x, rdD 8 st y with
  | some d, some e => if (SeqAt.shaped d && SeqAt.shaped e) = true then oB (!PyData.eqv d e) st else .bad
  | _, _ => .bad
def isNV (x y : Va) (st : Sto) : Rs Va := match x, y with
  | .dat d, .dat .none => oB (decide (d = .none)) st
  | .ref _, .dat .none => oB false st
  | .seq _ _, .dat .none => oB false st
  | _, _ => .bad
def notNV (x y : Va) (st : Sto) : Rs Va := match x, y with
  | .dat d, .dat .none => oB (!decide (d = .none)) st
  | .ref _, .dat .none => oB true st
  | .seq _ _, .dat .none => oB true st
  | _, _ => .bad
section
variable {C : Cfg} {X : Cx}
theorem near_of {i : Int} (h : near64 i = true) : -(2 ^ 64) < i ∧ i < 2 ^ 64 := by
  have := upto_iff.mp h
  omega
theorem RV.int_inv {H : Hp} {M : Addr → Prop} {m : List Addr} {v : V} {i : Int} (h : RV C H M m v (.dat (.int i))) : v = .int i := by
  cases h with
  | dat h => cases h; rfl
theorem RV.str_inv {H : Hp} {M : Addr → Prop} {m : List Addr} {v : V} {i : Str} (h : RV C H M m v (.dat (.str i))) : v = .str i := by
  cases h with
  | dat h => cases h; rfl
theorem RV.tup_inv {H : Hp} {M : Addr → Prop} {m : List Addr} {v : V} {i : List PyData} (h : RV C H M m v (.dat (.tuple i))) : ∃ a vs, v = .ref a ∧ H a = some (.tup vs) ∧ RDs C.K H M vs i := by
  cases h with
  | dat h => cases h with
    | tup h r => exact ⟨_, _, rfl, h, r⟩
theorem RV.lst_inv {H : Hp} {M : Addr → Prop} {m : List Addr} {v : V} {i : List PyData} (h : RV C H M m v (.dat (.list i))) : ∃ a vs, v = .ref a ∧ H a = some (.lst vs) ∧ ¬ M a ∧ RDs C.K H M vs i := by
  cases h with
  | dat h => cases h with
    | lst h n r => exact ⟨_, _, rfl, h, n, r⟩
theorem RDs.append {K : PySem.W.Frag} {H : Hp} {M : Addr → Prop} : ∀ {vs us : List V} {ds es : List PyData}, RDs K H M vs ds → RDs K H M us es → RDs K H M (vs ++ us) (ds ++ es)
  | _, _, _, _, .nil, h => h
  | _, _, _, _, .cons a b, h => .cons a (RDs.append b h)
theorem RVs.append {H : Hp} {M : Addr → Prop} {m : List Addr} : ∀ {vs us : List V} {ds es : List Va}, RVs C H M m vs ds → RVs C H M m us es → RVs C H M m (vs ++ us) (ds ++ es)
  | _, _, _, _, .nil, h => h
  | _, _, _, _, .cons a b, h => .cons a (RVs.append b h)
def rAddX (K : PySem.W.Frag) : R2 := fun x y H Q => rI0 (fun i j => .int (i + j)) x y H Q ∨ (∃ i j, x = .str i ∧ y = .str j ∧ i.length + j.length ≤ sizeLine ∧ Q (.str (i ++ j)) H) ∨ rCatA K x y H Q ∨ rCat x y H Q
theorem op_addX (hK : X.K = C.K := by rfl) : OpR X (binaryOp .Add) (rAddX C.K) := hK ▸ op_add.or (op_add_str.or (op_catA.or op_cat))
theorem RDs.nil_of {K : PySem.W.Frag} {H : Hp} {M : Addr → Prop} {ds : List PyData} (h : RDs K H M [] ds) : ds = [] := by cases h; rfl
theorem os_add : OpS C (rAddX C.K) addV := by
  intro M0 m H st v u x y E Q rh rx ry fin
  unfold addV at fin
  split at fin
  · exact .inl ⟨_, _, rx.int_inv, ry.int_inv, FinG.out (R := relV C M0) fin rh (.dat (.int _))⟩
  · obtain ⟨hk, fin⟩ := Fin.ifGo fin
    exact .inr (.inl ⟨_, _, rx.str_inv, ry.str_inv, few_le hk, FinG.out (R := relV C M0) fin rh (.dat (.str _))⟩)
  · obtain ⟨hk, fin⟩ := Fin.ifGo fin
    obtain ⟨a, vs, rfl, h1, r1⟩ := rx.tup_inv
    obtain ⟨b, us, rfl, h2, r2⟩ := ry.tup_inv
    refine .inr (.inr (.inl ⟨a, b, vs, us, rfl, rfl, .inl (.inl h1), .inl (.inl h2), by rw [r1.len, r2.len]; exact few_le hk, fun e => ?_, fun _ e => ?_, fun _ _ p hp => ?_⟩))
    · subst e
      cases r1.nil_of
      exact FinG.out (R := relV C M0) fin rh ry
    · subst e
      cases r2.nil_of
      rw [List.append_nil] at fin
      exact FinG.out (R := relV C M0) fin rh rx
    · have g : Go m H m (upd H p (.tup (vs ++ us))) := Go.same (same_new hp)
      exact FinG.same (R := relV C M0) fin rh (same_new hp) (.dat (.tup upd_same ((r1.append r2).go g rh.mu)))
  · obtain ⟨hk, fin⟩ := Fin.ifGo fin
    obtain ⟨a, vs, rfl, h1, n1, r1⟩ := rx.lst_inv
    obtain ⟨b, us, rfl, h2, n2, r2⟩ := ry.lst_inv
    refine .inr (.inr (.inr ⟨a, b, vs, us, rfl, rfl, h1, h2, by rw [r1.len, r2.len]; exact few_le hk, fun p hp => ?_⟩))
    have g : Go m H m (upd H p (.lst (vs ++ us))) := Go.same (same_new hp)
    exact FinG.same (R := relV C M0) fin rh (same_new hp) (.dat (.lst upd_same (notMx rh hp) ((r1.append r2).go g rh.mu)))
  · exact fin.elim
theorem os_sub : OpS C (rI0 fun i j => .int (i - j)) subV := by
  intro M0 m H st v u x y E Q rh rx ry fin
  unfold subV at fin
  split at fin
  · exact ⟨_, _, rx.int_inv, ry.int_inv, FinG.out (R := relV C M0) fin rh (.dat (.int _))⟩
  · exact fin.elim
theorem os_mulI : OpS C (rI CMul fun i j => .int (i * j)) mulI := by
  intro M0 m H st v u x y E Q rh rx ry fin
  unfold mulI at fin
  split at fin
  · obtain ⟨hk, fin⟩ := Fin.ifGo fin
    refine ⟨_, _, rx.int_inv, ry.int_inv, ?_, FinG.out (R := relV C M0) fin rh (.dat (.int _))⟩
    rcases Bool.or_eq_true_iff.mp hk with h | h
    · exact .inl (near_of h)
    · exact .inr (near_of h)
  · exact fin.elim
theorem os_div : OpS C (rI CDiv fun i j => .int (i / j)) divV := by
  intro M0 m H st v u x y E Q rh rx ry fin
  unfold divV at fin
  split at fin
  · obtain ⟨hk, fin⟩ := Fin.ifGo fin
    obtain ⟨h1, h2⟩ := Bool.and_eq_true_iff.mp hk
    exact ⟨_, _, rx.int_inv, ry.int_inv, ⟨of_decide_eq_true h1, by have := upto_iff.mp h2; omega⟩, FinG.out (R := relV C M0) fin rh (.dat (.int _))⟩
  · exact fin.elim
theorem os_mod : OpS C (rI (fun _ j => 0 < j) fun i j => .int (i % j)) modV := by
  intro M0 m H st v u x y E Q rh rx ry fin
  unfold modV at fin
  split at fin
  · obtain ⟨hk, fin⟩ := Fin.ifGo fin
    exact ⟨_, _, rx.int_inv, ry.int_inv, of_decide_eq_true hk, FinG.out (R := relV C M0) fin rh (.dat (.int _))⟩
  · exact fin.elim
theorem os_pow : OpS C (rI CPow fun i j => .int (i ^ j.toNat)) powV := by
  intro M0 m H st v u x y E Q rh rx ry fin
  unfold powV at fin
  split at fin
  · obtain ⟨hk, fin⟩ := Fin.ifGo fin
    obtain ⟨h12, h3⟩ := Bool.and_eq_true_iff.mp hk
    obtain ⟨h1, h2⟩ := Bool.and_eq_true_iff.mp h12
    have a := of_decide_eq_true h1
    have b := of_decide_eq_true h2
    obtain ⟨c, d⟩ := near_of h3
    exact ⟨_, _, rx.int_inv, ry.int_inv, ⟨a, by omega, by omega⟩, FinG.out (R := relV C M0) fin rh (.dat (.int _))⟩
  · exact fin.elim
theorem us_neg : UnS C (rU fun i => .int (-i)) negV := by
  intro M0 m H st v x E Q rh rx fin
  unfold negV at fin
  split at fin
  · exact ⟨_, rx.int_inv, FinG.out (R := relV C M0) fin rh (.dat (.int _))⟩
  · exact fin.elim
theorem os_lt : OpS C (rI0 fun i j => .bl (decide (i < j))) ltV := by
  intro M0 m H st v u x y E Q rh rx ry fin
  unfold ltV at fin
  split at fin
  · exact ⟨_, _, rx.int_inv, ry.int_inv, FinG.out (R := relV C M0) fin rh (.dat (.bl _))⟩
  · exact fin.elim
theorem os_le : OpS C (rI0 fun i j => .bl (decide (i ≤ j))) leV := by
  intro M0 m H st v u x y E Q rh rx ry fin
  unfold leV at fin
  split at fin
  · exact ⟨_, _, rx.int_inv, ry.int_inv, FinG.out (R := relV C M0) fin rh (.dat (.bl _))⟩
  · exact fin.elim
theorem os_gt : OpS C (rI0 fun i j => .bl (decide (j < i))) gtV := by
  intro M0 m H st v u x y E Q rh rx ry fin
  unfold gtV at fin
  split at fin
  · exact ⟨_, _, rx.int_inv, ry.int_inv, FinG.out (R := relV C M0) fin rh (.dat (.bl _))⟩
  · exact fin.elim
theorem os_ge : OpS C (rI0 fun i j => .bl (decide (j ≤ i))) geV := by
  intro M0 m H st v u x y E Q rh rx ry fin
  unfold geV at fin
  split at fin
  · exact ⟨_, _, rx.int_inv, ry.int_inv, FinG.out (R := relV C M0) fin rh (.dat (.bl _))⟩
  · exact fin.elim
theorem op_eqX (hu : X.A.units + 64 < cLine) (hK : X.K = C.K := by rfl) : OpR X (compareOp .Eq) (rEqD C.K) := hK ▸ op_eqD hu
theorem op_neX (hu : X.A.units + 64 < cLine) (hK : X.K = C.K := by rfl) : OpR X (compareOp .NotEq) (rNeD C.K) := hK ▸ op_neD hu
theorem os_eq : OpS C (rEqD C.K) eqV := by
  intro M0 m H st v u x y E Q rh rx ry fin
  unfold eqV at fin
  split at fin
  · rename_i d e h1 h2
    obtain ⟨hk, fin⟩ := Fin.ifGo fin
    obtain ⟨a, b⟩ := Bool.and_eq_true_iff.mp hk
    exact ⟨d, e, rdD_dp rh 8 v x d rx h1, rdD_dp rh 8 u y e ry h2, a, b, FinG.out (R := relV C M0) fin rh (.dat (.bl _))⟩
  · exact fin.elim
theorem os_ne : OpS C (rNeD C.K) neV := by
  intro M0 m H st v u x y E Q rh rx ry fin
  unfold neV at fin
  split at fin
  · rename_i d e h1 h2
    obtain ⟨hk, fin⟩ := Fin.ifGo fin
    obtain ⟨a, b⟩ := Bool.and_eq_true_iff.mp hk
    exact ⟨d, e, rdD_dp rh 8 v x d rx h1, rdD_dp rh 8 u y e ry h2, a, b, FinG.out (R := relV C M0) fin rh (.dat (.bl _))⟩
  · exact fin.elim
theorem RD.non_iff {K : PySem.W.Frag} {H : Hp} {M : Addr → Prop} {v : V} {d : PyData} (h : RD K H M v d) : decide (v = .non) = decide (d = .none) := by
  cases h <;> rfl
theorem RV.none_inv {H : Hp} {M : Addr → Prop} {m : List Addr} {v : V} (h : RV C H M m v (.dat .none)) : v = .non := by
  cases h with
  | dat h => cases h; rfl
theorem os_isN : OpS C (fun x y H Q => y = .non ∧ Q (.bl (decide (x = .non))) H) isNV := by
  intro M0 m H st v u x y E Q rh rx ry fin
  unfold isNV at fin
  split at fin
  · refine ⟨ry.none_inv, ?_⟩
    cases rx with
    | dat rd => rw [rd.non_iff]; exact FinG.out (R := relV C M0) fin rh (.dat (.bl _))
  · refine ⟨ry.none_inv, ?_⟩
    cases rx
    exact FinG.out (R := relV C M0) fin rh (.dat (.bl _))
  · refine ⟨ry.none_inv, ?_⟩
    cases rx <;> exact FinG.out (R := relV C M0) fin rh (.dat (.bl _))
  · exact fin.elim
theorem os_notN : OpS C (fun x y H Q => y = .non ∧ Q (.bl (!decide (x = .non))) H) notNV := by
  intro M0 m H st v u x y E Q rh rx ry fin
  unfold notNV at fin
  split at fin
  · refine ⟨ry.none_inv, ?_⟩
    cases rx with
    | dat rd => rw [rd.non_iff]; exact FinG.out (R := relV C M0) fin rh (.dat (.bl _))
  · refine ⟨ry.none_inv, ?_⟩
    cases rx
    exact FinG.out (R := relV C M0) fin rh (.dat (.bl _))
  · refine ⟨ry.none_inv, ?_⟩
    cases rx <;> exact FinG.out (R := relV C M0) fin rh (.dat (.bl _))
  · exact fin.elim
end
end Sk

/-! Sk, part 5: sequences and dicts by values. -/
namespace Sk
open PySem PySem.Spec PyProof.Rows L2

/-! ### sequences -/
def seqOf (st : Sto) : Va → Option (Bool × List Va)
  | .dat (.list ds) => some (false, ds.map .dat)
  | .dat (.tuple ds) => some (true, ds.map .dat)
  | .seq t xs => some (t, xs)
  | .ref n => match st[n]? with
    | some (some (.lst xs)) => some (false, xs)
    | _ => none
  | _ => none
@[simp] theorem seqOf_list (st : Sto) (ds : List PyData) : seqOf st (.dat (.list ds)) = some (false, ds.map .dat) := rfl
@[simp] theorem seqOf_tuple (st : Sto) (ds : List PyData) : seqOf st (.dat (.tuple ds)) = some (true, ds.map .dat) := rfl
@[simp] theorem seqOf_seq (st : Sto) (t : Bool) (xs : List Va) : seqOf st (.seq t xs) = some (t, xs) := rfl
theorem seqOf_ref {st : Sto} {n : Nat} {xs : List Va} (h : st[n]? = some (some (.lst xs))) : seqOf st (.ref n) = some (false, xs) := by
  show (match st[n]? with | some (some (.lst xs)) => some (false, xs) | _ => none) = _
  rw [h]
section
variable {C : Cfg} {M0 : Addr → Prop} {m : List Addr} {H : Hp} {st : Sto}
theorem seqOf_rel (rh : RH C M0 m H st) {v : V} {x : Va} {t : Bool} {xs : List Va} (r : RV C H (Mx M0 m) m v x) (e : seqOf st x = some (t, xs)) :
    ∃ a vs, v = .ref a ∧ RVs C H (Mx M0 m) m vs xs ∧ (if t = true then SqT C.K H a vs else SqL C.K H a vs) := by
  cases r with
  | dat rd =>
    cases rd with
    | lst h n r => cases e; exact ⟨_, _, rfl, r.rvs, .inl (.inl h)⟩
    | tup h r => cases e; exact ⟨_, _, rfl, r.rvs, .inl (.inl h)⟩
    | _ => cases e
  | @ref n a h =>
    have e' : (match st[n]? with | some (some (.lst xs)) => some (false, xs) | _ => none) = some (t, xs) := e
    split at e'
    · rename_i ys hy
      cases e'
      obtain ⟨b, hb, vs, hv, r⟩ := rh.ob n _ hy
      rw [h] at hb
      cases hb
      exact ⟨_, vs, rfl, r, .inl (.inl hv)⟩
    · cases e'
  | lst h n r => cases e; exact ⟨_, _, rfl, r, .inl (.inl h)⟩
  | frz h r => cases e; exact ⟨_, _, rfl, r, h.sql⟩
  | tup h r => cases e; exact ⟨_, _, rfl, r, h⟩
  | fn h => cases e
theorem RVs.get {M : Addr → Prop} : ∀ {vs : List V} {xs : List Va} {i : Nat} {x : Va}, RVs C H M m vs xs → xs[i]? = some x → ∃ v, vs[i]? = some v ∧ RV C H M m v x
  | _, _, _, _, .nil, e => by simp at e
  | _, _, 0, _, .cons a r, e => by simp at e; subst e; exact ⟨_, rfl, a⟩
  | _, _, i + 1, x, .cons _ r, e => by
    obtain ⟨v, h1, h2⟩ := RVs.get (i := i) (x := x) r (by simpa using e)
    exact ⟨v, by simpa using h1, h2⟩
theorem RVs.set {M : Addr → Prop} {v : V} {x : Va} (h : RV C H M m v x) : ∀ {vs : List V} {xs : List Va} (i : Nat), RVs C H M m vs xs → RVs C H M m (vs.set i v) (xs.set i x)
  | _, _, _, .nil => .nil
  | _, _, 0, .cons _ r => .cons h r
  | _, _, i + 1, .cons a r => .cons a (RVs.set h i r)
theorem RVs.take {M : Addr → Prop} : ∀ {vs : List V} {xs : List Va} (i : Nat), RVs C H M m vs xs → RVs C H M m (vs.take i) (xs.take i)
  | _, _, 0, _ => .nil
  | _, _, _ + 1, .nil => .nil
  | _, _, i + 1, .cons a r => .cons a (RVs.take i r)
theorem RVs.drop {M : Addr → Prop} : ∀ {vs : List V} {xs : List Va} (i : Nat), RVs C H M m vs xs → RVs C H M m (vs.drop i) (xs.drop i)
  | _, _, 0, r => r
  | _, _, _ + 1, .nil => .nil
  | _, _, i + 1, .cons a r => RVs.drop i r
theorem RVs.eraseIdx {M : Addr → Prop} : ∀ {vs : List V} {xs : List Va} (i : Nat), RVs C H M m vs xs → RVs C H M m (vs.eraseIdx i) (xs.eraseIdx i)
  | _, _, _, .nil => .nil
  | _, _, 0, .cons a r => r
  | _, _, i + 1, .cons a r => .cons a (RVs.eraseIdx i r)
theorem RVs.reverse {M : Addr → Prop} : ∀ {vs : List V} {xs : List Va}, RVs C H M m vs xs → RVs C H M m vs.reverse xs.reverse
  | _, _, .nil => .nil
  | _, _, .cons a r => by
    rw [List.reverse_cons, List.reverse_cons]
    exact (RVs.reverse r).append (.cons a .nil)
theorem RVs.atI {M : Addr → Prop} {vs : List V} {xs : List Va} {i : Int} {x : Va} (r : RVs C H M m vs xs) (e : L2.atI xs i = some x) : ∃ v, L2.atI vs i = some v ∧ RV C H M m v x := by
  unfold L2.atI at e ⊢
  rw [r.len]
  cases h : ixN xs.length i with
  | none => rw [h] at e; cases e
  | some j =>
    rw [h] at e
    exact r.get e
def cut {a : Type} (xs : List a) (lo hi : Option Int) : List a := (xs.drop (HT.sIx xs.length 0 lo)).take (HT.sIx xs.length xs.length hi - HT.sIx xs.length 0 lo)
theorem cut_map {a b : Type} (f : a → b) (xs : List a) (lo hi : Option Int) : cut (xs.map f) lo hi = (cut xs lo hi).map f := by
  unfold cut
  rw [List.length_map, List.map_take, List.map_drop]
theorem RVs.cut {M : Addr → Prop} {vs : List V} {xs : List Va} (r : RVs C H M m vs xs) (lo hi : Option Int) : RVs C H M m (cutV vs lo hi) (cut xs lo hi) := by
  unfold cutV Sk.cut
  rw [r.len]
  exact (r.drop _).take _
end
theorem atI_map {a b : Type} (f : a → b) (xs : List a) (i : Int) : L2.atI (xs.map f) i = (L2.atI xs i).map f := by
  unfold L2.atI
  rw [List.length_map]
  cases ixN xs.length i with
  | none => rfl
  | some j => simp

/-! ### dicts -/
def dget (kvs : List (PyData × Va)) (k : PyData) : Option Va := (kvs.find? fun kv => decide (kv.1 = k)).map (·.2)
def dput (kvs : List (PyData × Va)) (k : PyData) (x : Va) : List (PyData × Va) :=
  if (kvs.any fun kv => decide (kv.1 = k)) = true then kvs.map (fun kv => if kv.1 = k then (kv.1, x) else kv) else kvs ++ [(k, x)]
def ddrop (kvs : List (PyData × Va)) (k : PyData) : List (PyData × Va) := kvs.filter fun kv => decide (kv.1 ≠ k)
theorem keyD_inj {a b : Key} (e : keyD a = keyD b) : a = b := by
  cases a <;> cases b <;> simp [keyD] at e
  · rw [e]
  · rw [e]
theorem keyDs_inj : ∀ {a b : List Key}, a.map keyD = b.map keyD → a = b
  | [], [], _ => rfl
  | [], _ :: _, e => by simp at e
  | _ :: _, [], e => by simp at e
  | x :: xs, y :: ys, e => by
    simp only [List.map_cons, List.cons.injEq] at e
    rw [keyD_inj e.1, keyDs_inj e.2]
section
variable {C : Cfg} {H : Hp} {M : Addr → Prop} {m : List Addr} {κ : Type} [DecidableEq κ] {f : κ → PyData}
abbrev RK (C : Cfg) (H : Hp) (M : Addr → Prop) (m : List Addr) (f : κ → PyData) : List (κ × V) → List (PyData × Va) → Prop := Paired fun (p : κ × V) (q : PyData × Va) => f p.1 = q.1 ∧ RV C H M m p.2 q.2
theorem RK.val (inj : ∀ a b, f a = f b → a = b) : ∀ {ks : List (κ × V)} {kvs : List (PyData × Va)} (k : κ), RK C H M m f ks kvs →
    (valV ks k = none ∧ dget kvs (f k) = none) ∨ ∃ v x, valV ks k = some v ∧ dget kvs (f k) = some x ∧ RV C H M m v x
  | _, _, k, .nil => .inl ⟨rfl, rfl⟩
  | p :: ks, q :: kvs, k, .cons h r => by
    by_cases e : p.1 = k
    · refine .inr ⟨p.2, q.2, valV_pos e, ?_, h.2⟩
      have e2 : q.1 = f k := by rw [← h.1, e]
      simp [dget, List.find?_cons, e2]
    · have e2 : ¬ q.1 = f k := fun z => e (inj _ _ (h.1.trans z))
      have e3 : dget (q :: kvs) (f k) = dget kvs (f k) := by simp [dget, List.find?_cons, e2]
      rw [valV_neg e, e3]
      exact RK.val inj k r
theorem RK.len : ∀ {ks : List (κ × V)} {kvs : List (PyData × Va)}, RK C H M m f ks kvs → ks.length = kvs.length
  | _, _, .nil => rfl
  | _, _, .cons _ r => by rw [List.length_cons, List.length_cons, RK.len r]
theorem RK.any (inj : ∀ a b, f a = f b → a = b) (k : κ) : ∀ {ks : List (κ × V)} {kvs : List (PyData × Va)}, RK C H M m f ks kvs → (ks.any fun kv => decide (kv.1 = k)) = kvs.any fun kv => decide (kv.1 = f k)
  | _, _, .nil => rfl
  | p :: ks, q :: kvs, .cons h r => by
    rw [List.any_cons, List.any_cons, RK.any inj k r]
    congr 1
    by_cases e : p.1 = k
    · have e2 : q.1 = f k := by rw [← h.1, e]
      simp [e, e2]
    · have e2 : ¬ q.1 = f k := fun z => e (inj _ _ (h.1.trans z))
      simp [e, e2]
theorem RK.repl (inj : ∀ a b, f a = f b → a = b) (k : κ) {v : V} {x : Va} (hv : RV C H M m v x) : ∀ {ks : List (κ × V)} {kvs : List (PyData × Va)}, RK C H M m f ks kvs →
    RK C H M m f (ks.map fun kv => if kv.1 = k then (kv.1, v) else kv) (kvs.map fun kv => if kv.1 = f k then (kv.1, x) else kv)
  | _, _, .nil => .nil
  | p :: ks, q :: kvs, .cons h r => by
    rw [List.map_cons, List.map_cons]
    refine .cons ?_ (RK.repl inj k hv r)
    by_cases e : p.1 = k
    · have e2 : q.1 = f k := by rw [← h.1, e]
      rw [if_pos e, if_pos e2]
      exact ⟨h.1, hv⟩
    · have e2 : ¬ q.1 = f k := fun z => e (inj _ _ (h.1.trans z))
      rw [if_neg e, if_neg e2]
      exact h
theorem RK.snoc {k : κ} {v : V} {x : Va} (hv : RV C H M m v x) : ∀ {ks : List (κ × V)} {kvs : List (PyData × Va)}, RK C H M m f ks kvs → RK C H M m f (ks ++ [(k, v)]) (kvs ++ [(f k, x)])
  | _, _, .nil => .cons ⟨rfl, hv⟩ .nil
  | _, _, .cons h r => .cons h (RK.snoc hv r)
theorem RK.put (inj : ∀ a b, f a = f b → a = b) (k : κ) {v : V} {x : Va} (hv : RV C H M m v x) {ks : List (κ × V)} {kvs : List (PyData × Va)} (r : RK C H M m f ks kvs) : RK C H M m f (putK ks k v) (dput kvs (f k) x) := by
  unfold putK dput
  rw [← r.any inj k]
  by_cases e : (ks.any fun kv => decide (kv.1 = k)) = true
  · rw [if_pos e, if_pos e]
    exact r.repl inj k hv
  · rw [if_neg e, if_neg e]
    exact r.snoc hv
end
end Sk

/-! Sk, part 6: rules for sequences and dicts. -/
namespace Sk
open PySem PySem.Spec PyProof.Rows L2

/-! ### keys -/
def dicOf (st : Sto) : Va → Option (Bool × List (PyData × Va))
  | .ref n => match st[n]? with
    | some (some (.dic t kvs)) => some (t, kvs)
    | _ => none
  | _ => none
theorem dicOf_ref {st : Sto} {n : Nat} {t : Bool} {kvs : List (PyData × Va)} (h : st[n]? = some (some (.dic t kvs))) : dicOf st (.ref n) = some (t, kvs) := by
  show (match st[n]? with | some (some (.dic t kvs)) => some (t, kvs) | _ => none) = _
  rw [h]
def flatKey : PyData → Option Key
  | .int i => some (.inl i)
  | .str x => some (.inr x)
  | _ => none
def flatKeys : List PyData → Option (List Key)
  | [] => some []
  | d :: r => (flatKey d).bind fun k => (flatKeys r).map (k :: ·)
theorem flatKey_eq {d : PyData} {k : Key} (h : flatKey d = some k) : keyD k = d := by
  cases d <;> simp [flatKey] at h <;> subst h <;> rfl
theorem flatKeys_eq : ∀ {ds : List PyData} {ks : List Key}, flatKeys ds = some ks → ks.map keyD = ds
  | [], _, h => by cases h; rfl
  | d :: r, ks, h => by
    have h' : ((flatKey d).bind fun k => (flatKeys r).map (k :: ·)) = some ks := h
    cases e : flatKey d with
    | none => rw [e] at h'; cases h'
    | some k =>
      rw [e] at h'
      obtain ⟨l, e1, e2⟩ := Option.map_eq_some_iff.mp (show (flatKeys r).map (k :: ·) = some ks from h')
      subst e2
      rw [List.map_cons, flatKey_eq e, flatKeys_eq e1]
/-- may the thing be a key of such a dict? -/
def isKey (t : Bool) (x : Va) : Option PyData := match t, x with
  | false, .dat d => (flatKey d).map fun _ => d
  | true, .dat (.tuple ds) => (flatKeys ds).map fun _ => .tuple ds
  | _, _ => none
section
variable {C : Cfg} {M0 : Addr → Prop} {m : List Addr} {H : Hp} {st : Sto}
theorem RD.keyV {K : PySem.W.Frag} {M : Addr → Prop} {v : V} {k : Key} (h : RD K H M v (keyD k)) : v = kV k := by
  cases k with
  | inl i => cases h; rfl
  | inr x => cases h; rfl
theorem RDs.keyVs {K : PySem.W.Frag} {M : Addr → Prop} : ∀ {ks : List Key} {vs : List V}, RDs K H M vs (ks.map keyD) → vs = ks.map kV
  | [], _, .nil => rfl
  | k :: ks, _, .cons a r => by rw [List.map_cons, RD.keyV a, RDs.keyVs r]
theorem tupD_inj (a b : List Key) (e : PyData.tuple (a.map keyD) = PyData.tuple (b.map keyD)) : a = b := keyDs_inj (PyData.tuple.inj e)
theorem keyD_inj' (a b : Key) (e : keyD a = keyD b) : a = b := keyD_inj e
/-- the dict at n, asked at a key -/
theorem dic_at (rh : RH C M0 m H st) {v : V} {x : Va} {t : Bool} {kvs : List (PyData × Va)} (r : RV C H (Mx M0 m) m v x) (e : dicOf st x = some (t, kvs)) : ∃ n a, x = .ref n ∧ v = .ref a ∧ m[n]? = some a ∧ st[n]? = some (some (.dic t kvs)) ∧ RO C H (Mx M0 m) m a (.dic t kvs) := by
  cases r with
  | @ref n a h =>
    have e' : (match st[n]? with | some (some (.dic t kvs)) => some (t, kvs) | _ => none) = some (t, kvs) := e
    split at e'
    · rename_i t' ys hy
      cases e'
      obtain ⟨b, hb, ro⟩ := rh.ob n _ hy
      rw [h] at hb
      cases hb
      exact ⟨n, a, rfl, rfl, h, hy, ro⟩
    · cases e'
  | _ => cases e
theorem dget_rel {a : Addr} {t : Bool} {kvs : List (PyData × Va)} {M : Addr → Prop} (ro : RO C H M m a (.dic t kvs)) {u : V} {y : Va} {k : PyData} (ry : RV C H M m u y) (hk : isKey t y = some k) :
    ∃ o, DGet H a u o ∧ ((o = none ∧ dget kvs k = none) ∨ ∃ w z, o = some w ∧ dget kvs k = some z ∧ RV C H M m w z) := by
  cases t with
  | false =>
    cases y with
    | dat d =>
      obtain ⟨kk, e1, e2⟩ := Option.map_eq_some_iff.mp (show (flatKey d).map (fun _ => d) = some k from hk)
      subst e2
      obtain ⟨ks, h1, h2⟩ := ro
      cases ry with
      | dat rd =>
        rw [← flatKey_eq e1] at rd ⊢
        have eu := RD.keyV rd
        subst eu
        exact ⟨_, DGet.k h1, RK.val (f := keyD) keyD_inj' kk h2⟩
    | _ => cases hk
  | true =>
    cases y with
    | dat d =>
      cases d with
      | tuple ds =>
        obtain ⟨kk, e1, e2⟩ := Option.map_eq_some_iff.mp (show (flatKeys ds).map (fun _ => PyData.tuple ds) = some k from hk)
        subst e2
        obtain ⟨ks, h1, h2⟩ := ro
        obtain ⟨b, vs, eu, hb, rs⟩ := ry.tup_inv
        subst eu
        rw [← flatKeys_eq e1] at rs ⊢
        have ev := RDs.keyVs rs
        subst ev
        exact ⟨_, DGet.t h1 hb, RK.val (f := fun l : List Key => PyData.tuple (l.map keyD)) tupD_inj kk h2⟩
      | _ => cases hk
    | _ => cases hk
/-- the dict at n, written at a key -/
theorem dput_rel (rh : RH C M0 m H st) {n : Nat} {a : Addr} {t : Bool} {kvs : List (PyData × Va)} (hn : m[n]? = some a) (ro : RO C H (Mx M0 m) m a (.dic t kvs)) {u w : V} {y z : Va} {k : PyData} (ry : RV C H (Mx M0 m) m u y) (rz : RV C H (Mx M0 m) m w z) (hk : isKey t y = some k) (hl : few kvs.length = true) :
    ∃ H', DPut H a u w H' ∧ Go m H m H' ∧ RH C M0 m H' (st.set n (some (.dic t (dput kvs k z)))) := by
  have hm : a ∈ m := List.mem_of_getElem? hn
  cases t with
  | false =>
    cases y with
    | dat d =>
      obtain ⟨kk, e1, e2⟩ := Option.map_eq_some_iff.mp (show (flatKey d).map (fun _ => d) = some k from hk)
      subst e2
      obtain ⟨ks, h1, h2⟩ := ro
      cases ry with
      | dat rd =>
        rw [← flatKey_eq e1] at rd ⊢
        have eu := RD.keyV rd
        subst eu
        have g : Go m H m (upd H a (.dK (putK ks kk w))) := Go.write hm rh.mu
        have h3 : RK C H (Mx M0 m) m keyD (putK ks kk w) (dput kvs (keyD kk) z) := RK.put (f := keyD) keyD_inj' kk rz h2
        exact ⟨_, DPut.k h1 (by rw [RK.len (f := keyD) h2]; exact few_lt hl), g, rh.write hn trivial ⟨_, upd_same, Paired.mapP h3 fun _ _ z => ⟨z.1, z.2.go g rh.mu⟩⟩⟩
    | _ => cases hk
  | true =>
    cases y with
    | dat d =>
      cases d with
      | tuple ds =>
        obtain ⟨kk, e1, e2⟩ := Option.map_eq_some_iff.mp (show (flatKeys ds).map (fun _ => PyData.tuple ds) = some k from hk)
        subst e2
        obtain ⟨ks, h1, h2⟩ := ro
        obtain ⟨b, vs, eu, hb, rs⟩ := ry.tup_inv
        subst eu
        rw [← flatKeys_eq e1] at rs ⊢
        have ev := RDs.keyVs rs
        subst ev
        have g : Go m H m (upd H a (.dT (putK ks kk w))) := Go.write hm rh.mu
        have h3 : RK C H (Mx M0 m) m (fun l : List Key => PyData.tuple (l.map keyD)) (putK ks kk w) (dput kvs (PyData.tuple (kk.map keyD)) z) := RK.put (f := fun l : List Key => PyData.tuple (l.map keyD)) tupD_inj kk rz h2
        exact ⟨_, DPut.t h1 hb (by rw [RK.len (f := fun l : List Key => PyData.tuple (l.map keyD)) h2]; exact few_lt hl), g, rh.write hn trivial ⟨_, upd_same, Paired.mapP h3 fun _ _ z => ⟨z.1, z.2.go g rh.mu⟩⟩⟩
      | _ => cases hk
    | _ => cases hk
end

/-! ### x[i] -/
def ixV (x y : Va) (st : Sto) : Rs Va := match seqOf st x with
  | some (_, xs) => (match y with
    | .dat (.int i) => (match L2.atI xs i with
      | some z => .ok z st
      | none => .bad)
    | _ => .bad)
  | none => (match x with
    | .dat (.str s) => (match y with
      | .dat (.int i) => if few s.length = true then (match L2.atI s.cps.toList i with
        | some c => .ok (.dat (.str ⟨#[c]⟩)) st
        | none => .bad) else .bad
      | _ => .bad)
    | _ => (match dicOf st x with
      | some (t, kvs) => (match isKey t y with
        | some k => (match dget kvs k with
          | some z => .ok z st
          | none => .bad)
        | none => .bad)
      | none => .bad))
section
variable {X : Cx} {C : Cfg}
def rIxDic : R2 := fun x y H Q => ∃ a v, x = .ref a ∧ DGet H a y (some v) ∧ Q v H
theorem ix_dic (hu : X.A.units + 1 < cLine) : IxR X rIxDic := by
  intro value slice pins s σ H x y v u Q I rx ry h hs
  obtain ⟨a, z, rfl, g, q⟩ := h
  cases rx
  exact tail_any (dict_typeIs I g) PySem.F.slot_dict_getitem.lookup (d_getItem hu I g ry fun w' s' I' r' => ⟨z, H, I', r', q⟩) hs
def rIxX (K : PySem.W.Frag) : R2 := fun x y H Q => rIx K x y H Q ∨ rIxDic x y H Q
theorem ix_x (hu : X.A.units + 1 < cLine) (hK : X.K = C.K := by rfl) : IxR X (rIxX C.K) := hK ▸ ix_seq.or (ix_dic hu)
theorem os_ix : OpS C (rIxX C.K) ixV := by
  intro M0 m H st v u x y E Q rh rx ry fin
  unfold ixV at fin
  split at fin
  · rename_i t xs hs
    obtain ⟨a, vs, rfl, rs, sq⟩ := seqOf_rel rh rx hs
    split at fin
    · rename_i i
      split at fin
      · rename_i z hz
        obtain ⟨w, hw, rw'⟩ := rs.atI hz
        have q := FinG.out (R := relV C M0) fin rh rw'
        cases t with
        | true => exact .inl (.inr (.inl ⟨a, vs, i, w, rfl, ry.int_inv, sq, hw, q⟩))
        | false => exact .inl (.inl ⟨a, vs, i, w, rfl, ry.int_inv, sq, hw, q⟩)
      · exact fin.elim
    · exact fin.elim
  · split at fin
    · rename_i s _
      split at fin
      · obtain ⟨hk, fin⟩ := Fin.ifGo fin
        split at fin
        · rename_i c hc
          exact .inl (.inr (.inr ⟨_, _, c, rx.str_inv, ry.int_inv, few_le hk, hc, FinG.out (R := relV C M0) fin rh (.dat (.str _))⟩))
        · exact fin.elim
      · exact fin.elim
    · split at fin
      · rename_i t kvs hd
        obtain ⟨n, a, rfl, rfl, hn, _, ro⟩ := dic_at rh rx hd
        split at fin
        · rename_i k hk
          obtain ⟨o, g, h | ⟨w, z, h1, h2, h3⟩⟩ := dget_rel ro ry hk
          · rw [h.2] at fin; exact fin.elim
          · rw [h2] at fin
            subst h1
            exact .inr ⟨a, w, rfl, g, FinG.out (R := relV C M0) fin rh h3⟩
        · exact fin.elim
      · exact fin.elim

/-! ### slices -/
def wholeSl (n : Nat) (lo hi : Option Int) : Bool := HT.sIx n 0 lo == 0 && HT.sIx n n hi == n
def slV (x : Va) (lo hi : Option Int) (st : Sto) : Rs Va := match seqOf st x with
  | some (true, xs) => if wholeSl xs.length lo hi = true then .ok x st else .ok (mkT (cut xs lo hi)) st
  | some (false, xs) => .ok (mkL (cut xs lo hi)) st
  | none => (match x with
    | .dat (.str s) => if few s.length = true then .ok (.dat (.str (cutS s lo hi))) st else .bad
    | _ => .bad)
def rSlX (K : PySem.W.Frag) : V → Option Int → Option Int → Hp → VK → Prop := fun x lo hi H Q => rSlL K x lo hi H Q ∨ rSlA K x lo hi H Q ∨ (∃ z, x = .str z ∧ z.length ≤ sizeLine ∧ Q (.str (cutS z lo hi)) H)
theorem sl_x (hK : X.K = C.K := by rfl) : SlR X (rSlX C.K) := hK ▸ sl_list.or (sl_tupA.or sl_str)
def SlS (C : Cfg) (r : V → Option Int → Option Int → Hp → VK → Prop) (f : Va → Option Int → Option Int → Sto → Rs Va) : Prop := ∀ (M0 : Addr → Prop) (m : List Addr) (H : Hp) (st : Sto) (v : V) (x : Va) (lo hi : Option Int) (E : XK) (Q : VK),
  RH C M0 m H st → RV C H (Mx M0 m) m v x → Fin C M0 m H E (f x lo hi st) Q → r v lo hi H Q
theorem ss_sl : SlS C (rSlX C.K) slV := by
  intro M0 m H st v x lo hi E Q rh rx fin
  unfold slV at fin
  split at fin
  · rename_i xs hs
    obtain ⟨a, vs, rfl, rs, sq⟩ := seqOf_rel rh rx hs
    refine .inr (.inl ⟨a, vs, rfl, sq, fun hw => ?_, fun hw p hp => ?_⟩)
    · rw [rs.len] at hw
      have e : wholeSl xs.length lo hi = true := by
        unfold wholeSl
        rw [hw.1, hw.2]
        simp
      rw [if_pos e] at fin
      exact FinG.out (R := relV C M0) fin rh rx
    · rw [rs.len] at hw
      have e : ¬ wholeSl xs.length lo hi = true := fun z => hw (by
        obtain ⟨z1, z2⟩ := Bool.and_eq_true_iff.mp z
        exact ⟨eq_of_beq z1, eq_of_beq z2⟩)
      rw [if_neg e] at fin
      exact Fin.newT fin rh hp (rs.cut lo hi)
  · rename_i xs hs
    obtain ⟨a, vs, rfl, rs, sq⟩ := seqOf_rel rh rx hs
    exact .inl ⟨a, vs, rfl, sq, fun p hp => Fin.newF fin rh hp (rs.cut lo hi)⟩
  · split at fin
    · obtain ⟨hk, fin⟩ := Fin.ifGo fin
      exact .inr (.inr ⟨_, rx.str_inv, few_le hk, FinG.out (R := relV C M0) fin rh (.dat (.str _))⟩)
    · exact fin.elim
abbrev CO := Ev → Sto → Rs (Option Int)
def dNo : CO := fun _ st => .ok none st
def asPart (x : Va) (st : Sto) : Rs (Option Int) := match x with
  | .dat (.int i) => .ok (some i) st
  | _ => .bad
def dPart (c : CE) : CO := fun ev st => (c ev st).bind asPart
abbrev relO : Hp → List Addr → Option Int → Option Int → Prop := fun _ _ a b => a = b
abbrev tO (C : Cfg) (W : WX) (c : CO) : TO := tG (fun _ _ => relO) C W c
variable {W : WX} {pos p2 : Pos} {e : Expr} {lo hi : Option Expr} {ce : CE} {cl ch : CO}
theorem PO.imp {e : Option Expr} {t t' : TO} (h : PO X e t) (i : ∀ s H Q, t' s H Q → t s H Q) : PO X e t' := by
  obtain ⟨h⟩ := h
  exact ⟨fun pins s σ H Q I q => h pins s σ H Q I (i _ _ _ q)⟩
theorem fo_none : PO X none (tO C W dNo) := PO.imp po_none fun s H Q ⟨M0, m, ev, st, rh, re, fin⟩ => FinG.out (R := relO) fin rh rfl
theorem fo_some (h : PE X e (tE C W ce)) : PO X (some e) (tO C W (dPart ce)) := PO.imp (po_some h) fun s H Q h => tG.bind (R := relV) (k := fun x _ st => asPart x st) h fun M0 m ev st x v H1 rh re rv fin => by
  unfold asPart at fin
  split at fin
  · exact ⟨_, rv.int_inv, FinG.out (R := relO) fin rh rfl⟩
  · exact fin.elim
def dSl (a : CE) (lo hi : CO) : CE := fun ev st => (a ev st).bind fun x st1 => (lo ev st1).bind fun l st2 => (hi ev st2).bind fun h st3 => slV x l h st3
theorem fe_slice (hK : X.K = C.K) (he : PE X e (tE C W ce)) (hl : PO X lo (tO C W cl)) (hu : PO X hi (tO C W ch)) : PE X (.Subscript e (.Slice lo hi none p2) pos) (tE C W (dSl ce cl ch)) :=
  PE.imp (pe_slice (sl_x hK) he hl hu) fun s H Q h => tG.bind (R := relV) (k := fun x ev st1 => (cl ev st1).bind fun l st2 => (ch ev st2).bind fun h st3 => slV x l h st3) h fun M0 m ev st x v H1 rh re rv fin => by
    refine ⟨M0, m, ev, st, rh, re, (FinG.bind (R := relO) fin).mono fun l H2 q => ?_⟩
    obtain ⟨m2, st2, l', g2, rh2, e2, fin2⟩ := q
    have e2 : l = l' := e2
    subst e2
    have re2 := re.go g2 rh.mu
    refine ⟨M0, m2, ev, st2, rh2, re2, (FinG.bind (R := relO) fin2).mono fun h H3 q => ?_⟩
    obtain ⟨m3, st3, h', g3, rh3, e3, fin3⟩ := q
    have e3 : h = h' := e3
    subst e3
    exact ss_sl M0 m3 H3 st3 v x l h _ Q rh3 ((rv.go g2 rh.mu).go g3 rh2.mu) fin3
end
end Sk

/-! Sk, part 7: built-in functions. -/
namespace Sk
open PySem PySem.Spec PyProof.Rows L2
section
variable {X : Cx} {C : Cfg}
def lenV (xs : List Va) (st : Sto) : Rs Va := match xs with
  | [x] => (match seqOf st x with
    | some (_, ys) => oI ys.length st
    | none => (match x with
      | .dat (.str s) => if few s.length = true then oI s.length st else .bad
      | _ => .bad))
  | _ => .bad
theorem call_lenX (hK : X.K = C.K := by rfl) : CallR X (.builtin "len") (fun xs H Q => ∃ x n, xs = [x] ∧ LenV C.K x H n ∧ Q (.int n) H) := hK ▸ call_len
theorem RVs.one {H : Hp} {M : Addr → Prop} {m : List Addr} {vs : List V} {x : Va} (r : RVs C H M m vs [x]) : ∃ v, vs = [v] ∧ RV C H M m v x := by
  cases r with
  | cons a b => cases b; exact ⟨_, rfl, a⟩
theorem RVs.two {H : Hp} {M : Addr → Prop} {m : List Addr} {vs : List V} {x y : Va} (r : RVs C H M m vs [x, y]) : ∃ v u, vs = [v, u] ∧ RV C H M m v x ∧ RV C H M m u y := by
  cases r with
  | cons a b =>
    obtain ⟨u, rfl, ru⟩ := b.one
    exact ⟨_, _, rfl, a, ru⟩
theorem cs_len : CallS C (fun xs H Q => ∃ x n, xs = [x] ∧ LenV C.K x H n ∧ Q (.int n) H) lenV := by
  intro M0 m H st vs xs E Q rh rs fin
  unfold lenV at fin
  split at fin
  · rename_i x
    obtain ⟨v, rfl, rv⟩ := rs.one
    split at fin
    · rename_i t ys hs
      obtain ⟨a, us, rfl, ru, sq⟩ := seqOf_rel rh rv hs
      refine ⟨_, ys.length, rfl, ?_, FinG.out (R := relV C M0) fin rh (.dat (.int _))⟩
      cases t with
      | true => exact .inr ⟨us, sq, ru.len.symm⟩
      | false => exact .inl ⟨us, sq, ru.len.symm⟩
    · split at fin
      · obtain ⟨hk, fin⟩ := Fin.ifGo fin
        have e := rv.str_inv
        subst e
        exact ⟨_, _, rfl, ⟨few_le hk, rfl⟩, FinG.out (R := relV C M0) fin rh (.dat (.int _))⟩
      · exact fin.elim
  · exact fin.elim
/-- list(x), to be read alone; list(x), to be changed -/
def listF (xs : List Va) (st : Sto) : Rs Va := match xs with
  | [x] => (match seqOf st x with
    | some (_, ys) => .ok (mkL ys) st
    | none => .bad)
  | _ => .bad
def listM (xs : List Va) (st : Sto) : Rs Va := match xs with
  | [x] => (match seqOf st x with
    | some (_, ys) => newL ys st
    | none => .bad)
  | _ => .bad
def rListOf (K : PySem.W.Frag) : List V → Hp → VK → Prop := fun xs H Q => ∃ p ys, xs = [.ref p] ∧ (SqL K H p ys ∨ SqT K H p ys) ∧ ∀ l, H l = none → Q (.ref l) (upd H l (.lst ys))
theorem call_listX (hK : X.K = C.K := by rfl) : CallR X (.type "list") (rListOf C.K) := hK ▸ call_list_of
theorem cs_listF : CallS C (rListOf C.K) listF := by
  intro M0 m H st vs xs E Q rh rs fin
  unfold listF at fin
  split at fin
  · obtain ⟨v, rfl, rv⟩ := rs.one
    split at fin
    · rename_i t ys hs
      obtain ⟨a, us, rfl, ru, sq⟩ := seqOf_rel rh rv hs
      refine ⟨a, us, rfl, ?_, fun p hp => Fin.newF fin rh hp ru⟩
      cases t with
      | true => exact .inr sq
      | false => exact .inl sq
    · exact fin.elim
  · exact fin.elim
theorem cs_listM : CallS C (rListOf C.K) listM := by
  intro M0 m H st vs xs E Q rh rs fin
  unfold listM at fin
  split at fin
  · obtain ⟨v, rfl, rv⟩ := rs.one
    split at fin
    · rename_i t ys hs
      obtain ⟨a, us, rfl, ru, sq⟩ := seqOf_rel rh rv hs
      refine ⟨a, us, rfl, ?_, fun p hp => Fin.newL fin rh hp ru⟩
      cases t with
      | true => exact .inr sq
      | false => exact .inl sq
    · exact fin.elim
  · exact fin.elim
def tupleV (xs : List Va) (st : Sto) : Rs Va := match xs with
  | [x] => (match seqOf st x with
    | some (true, _) => .ok x st
    | some (false, ys) => .ok (mkT ys) st
    | none => .bad)
  | _ => .bad
def rTupOf (K : PySem.W.Frag) : List V → Hp → VK → Prop := fun xs H Q => ∃ p ys, xs = [.ref p] ∧ ((SqL K H p ys ∧ ∀ l, H l = none → Q (.ref l) (upd H l (.tup ys))) ∨ (SqT K H p ys ∧ Q (.ref p) H))
theorem call_tupleX (hK : X.K = C.K := by rfl) : CallR X (.type "tuple") (rTupOf C.K) := hK ▸ call_tuple_of
theorem cs_tuple : CallS C (rTupOf C.K) tupleV := by
  intro M0 m H st vs xs E Q rh rs fin
  unfold tupleV at fin
  split at fin
  · obtain ⟨v, rfl, rv⟩ := rs.one
    split at fin
    · rename_i ys hs
      obtain ⟨a, us, rfl, ru, sq⟩ := seqOf_rel rh rv hs
      exact ⟨a, us, rfl, .inr ⟨sq, FinG.out (R := relV C M0) fin rh rv⟩⟩
    · rename_i ys hs
      obtain ⟨a, us, rfl, ru, sq⟩ := seqOf_rel rh rv hs
      exact ⟨a, us, rfl, .inl ⟨sq, fun p hp => Fin.newT fin rh hp ru⟩⟩
    · exact fin.elim
  · exact fin.elim
/-! ### numbers -/
def absF (xs : List Va) (st : Sto) : Rs Va := match xs with
  | [.dat (.int i)] => oI (if i < 0 then -i else i) st
  | _ => .bad
theorem cs_abs : CallS C (fun xs H Q => ∃ i, xs = [.int i] ∧ Q (.int (if i < 0 then -i else i)) H) absF := by
  intro M0 m H st vs xs E Q rh rs fin
  unfold absF at fin
  split at fin
  · obtain ⟨v, rfl, rv⟩ := rs.one
    exact ⟨_, by rw [rv.int_inv], FinG.out (R := relV C M0) fin rh (.dat (.int _))⟩
  · exact fin.elim
def intF (xs : List Va) (st : Sto) : Rs Va := match xs with
  | [.dat (.int i)] => oI i st
  | [.dat (.bool k)] => oI (if k then 1 else 0) st
  | _ => .bad
theorem RV.bool_inv {H : Hp} {M : Addr → Prop} {m : List Addr} {v : V} {i : Bool} (h : RV C H M m v (.dat (.bool i))) : v = .bl i := by
  cases h with
  | dat h => cases h; rfl
theorem cs_int : CallS C (fun xs H Q => (∃ i, xs = [.int i] ∧ Q (.int i) H) ∨ ∃ k, xs = [.bl k] ∧ Q (.int (if k then 1 else 0)) H) intF := by
  intro M0 m H st vs xs E Q rh rs fin
  unfold intF at fin
  split at fin
  · obtain ⟨v, rfl, rv⟩ := rs.one
    exact .inl ⟨_, by rw [rv.int_inv], FinG.out (R := relV C M0) fin rh (.dat (.int _))⟩
  · obtain ⟨v, rfl, rv⟩ := rs.one
    exact .inr ⟨_, by rw [rv.bool_inv], FinG.out (R := relV C M0) fin rh (.dat (.int _))⟩
  · exact fin.elim
def intsOf : List Va → Option (List Int)
  | [] => some []
  | .dat (.int i) :: r => (intsOf r).map (i :: ·)
  | _ :: _ => none
theorem intsOf_map : ∀ ns : List Int, intsOf (ns.map fun i => .dat (.int i)) = some ns
  | [] => rfl
  | n :: r => by
    show (intsOf (r.map fun i => .dat (.int i))).map (n :: ·) = _
    rw [intsOf_map r]
    rfl
theorem RVs.ints {H : Hp} {M : Addr → Prop} {m : List Addr} : ∀ {vs : List V} {xs : List Va} {ns : List Int}, RVs C H M m vs xs → intsOf xs = some ns → vs = ns.map V.int
  | _, _, _, .nil, e => by cases e; rfl
  | _, _, _, .cons (.dat (.int i)) r, e => by
    obtain ⟨l, e1, e2⟩ := Option.map_eq_some_iff.mp (show (intsOf _).map (i :: ·) = some _ from e)
    subst e2
    rw [RVs.ints r e1]
    rfl
  | _, _, _, .cons (.dat .non) r, e => nomatch e
  | _, _, _, .cons (.dat (.bl _)) r, e => nomatch e
  | _, _, _, .cons (.dat (.str _)) r, e => nomatch e
  | _, _, _, .cons (.dat (.lst _ _ _)) r, e => nomatch e
  | _, _, _, .cons (.dat (.tup _ _)) r, e => nomatch e
  | _, _, _, .cons (.ref _) r, e => nomatch e
  | _, _, _, .cons (.lst _ _ _) r, e => nomatch e
  | _, _, _, .cons (.frz _ _) r, e => nomatch e
  | _, _, _, .cons (.tup _ _) r, e => nomatch e
  | _, _, _, .cons (.fn _) r, e => nomatch e
def leastI : List Int → Int
  | [] => 0
  | [x] => x
  | x :: r => if x ≤ leastI r then x else leastI r
def mostI : List Int → Int
  | [] => 0
  | [x] => x
  | x :: r => if mostI r ≤ x then x else mostI r
theorem leastI_eq {m : Int} : ∀ {ns : List Int}, m ∈ ns → (∀ y ∈ ns, m ≤ y) → leastI ns = m
  | [x], h, _ => by simp at h; exact h.symm
  | x :: y :: r, h, hl => by
    show (if x ≤ leastI (y :: r) then x else leastI (y :: r)) = m
    have hs : ∀ l : List Int, l ≠ [] → leastI l ∈ l := by
      intro l
      induction l with
      | nil => intro h; exact absurd rfl h
      | cons a t ih =>
        intro _
        cases t with
        | nil => simp [leastI]
        | cons b t =>
          show (if a ≤ leastI (b :: t) then a else leastI (b :: t)) ∈ _
          split
          · simp
          · exact List.mem_cons_of_mem _ (ih (by simp))
    rcases List.mem_cons.mp h with e | h'
    · subst e
      rw [if_pos]
      exact hl _ (List.mem_cons_of_mem _ (hs _ (by simp)))
    · have e := leastI_eq h' fun z hz => hl z (List.mem_cons_of_mem _ hz)
      rw [e]
      have := hl x (by simp)
      split
      · omega
      · rfl
theorem mostI_eq {m : Int} : ∀ {ns : List Int}, m ∈ ns → (∀ y ∈ ns, y ≤ m) → mostI ns = m
  | [x], h, _ => by simp at h; exact h.symm
  | x :: y :: r, h, hl => by
    show (if mostI (y :: r) ≤ x then x else mostI (y :: r)) = m
    have hs : ∀ l : List Int, l ≠ [] → mostI l ∈ l := by
      intro l
      induction l with
      | nil => intro h; exact absurd rfl h
      | cons a t ih =>
        intro _
        cases t with
        | nil => simp [mostI]
        | cons b t =>
          show (if mostI (b :: t) ≤ a then a else mostI (b :: t)) ∈ _
          split
          · simp
          · exact List.mem_cons_of_mem _ (ih (by simp))
    rcases List.mem_cons.mp h with e | h'
    · subst e
      rw [if_pos]
      exact hl _ (List.mem_cons_of_mem _ (hs _ (by simp)))
    · have e := mostI_eq h' fun z hz => hl z (List.mem_cons_of_mem _ hz)
      rw [e]
      have := hl x (by simp)
      split
      · omega
      · rfl
def iterInts (st : Sto) (x : Va) : Option (List Int) := (seqOf st x).bind fun p => intsOf p.2
def minF (xs : List Va) (st : Sto) : Rs Va := match xs with
  | [x] => (match iterInts st x with
    | some (n :: ns) => oI (leastI (n :: ns)) st
    | _ => .bad)
  | [.dat (.int i), .dat (.int j)] => oI (if j < i then j else i) st
  | _ => .bad
def maxF (xs : List Va) (st : Sto) : Rs Va := match xs with
  | [x] => (match iterInts st x with
    | some (n :: ns) => oI (mostI (n :: ns)) st
    | _ => .bad)
  | [.dat (.int i), .dat (.int j)] => oI (if j > i then j else i) st
  | _ => .bad
def sumF (xs : List Va) (st : Sto) : Rs Va := match xs with
  | [x] => (match iterInts st x with
    | some ns => oI ns.sum st
    | _ => .bad)
  | _ => .bad
end
/-! ### sum, min, max of a tuple -/
section
variable {prog : Program} {w : World} {A : Around} {E : Value → Shared → Prop} {s : Shared} {l : Addr} {its : List Value} {ns : List Int} {Q : Value → Shared → Prop}
theorem preSum_list (ns : List Int) : ∀ j, preSum (fun i => ns.getD i 0) j = (ns.take j).sum
  | 0 => by simp [preSum]
  | j + 1 => by
    rw [preSum, preSum_list ns j]
    by_cases h : j < ns.length
    · rw [List.take_add_one, List.getElem?_eq_getElem h, List.sum_append, List.getD_eq_getElem?_getD, List.getElem?_eq_getElem h]
      simp
    · rw [List.take_of_length_le (by omega), List.take_of_length_le (by omega), List.getD_eq_getElem?_getD, List.getElem?_eq_none (by omega)]
      simp
theorem ints_at : ∀ {its : List Value} {ns : List Int}, IntsAre its ns → ∀ (i : Nat) (v : Value), its[i]? = some v → ∃ t, v = .int (ns.getD i 0) t := by
  intro its ns h
  have r := vals_of_ints h
  intro i v e
  have hl : i < its.length := (List.getElem?_eq_some_iff.mp e).1
  have hl2 : i < ns.length := by
    have := r.length
    rw [List.length_map] at this
    omega
  obtain ⟨u, hu, ru⟩ := r.get (i := i) (x := V.int ns[i]) (by rw [List.getElem?_map, List.getElem?_eq_getElem hl2]; rfl)
  rw [e] at hu
  cases hu
  obtain ⟨t, rfl⟩ := ru
  exact ⟨t, by rw [List.getD_eq_getElem?_getD, List.getElem?_eq_getElem hl2]; rfl⟩
theorem iter_tup {R : Value → Shared → Prop} {items : Array Value} (hl : s.heap.IsTuple l items)
    (h : ∀ s2 : Shared, s2 = { s with heap := s.heap.push { cls := .type "tuple_iterator", data := .fields #[.ref l, .int 0 0] } } →
      (s2.heap.IsTupleIter s.heap.objs.size l 0 ∧ s2.heap.IsTuple l items) → (∀ b ∈ [s.heap.objs.size, l], b < s2.heap.objs.size) → l ≠ s.heap.objs.size → R (.ref s.heap.objs.size) s2) :
    wpAny (model prog w) A (pyIter (.ref l)) R E s := by
  have hlt : l < s.heap.objs.size := by obtain ⟨_, e, _⟩ := hl; exact Heap.lt_size e
  refine wpAny_pyIter_tuple hl (h _ rfl ⟨⟨_, Heap.get?_push_size _ rfl, rfl, rfl⟩, ?_⟩ (fun b hb => ?_) (Nat.ne_of_lt hlt))
  · obtain ⟨o, e, r⟩ := hl
    exact ⟨o, Heap.get?_push_of_some _ e, r⟩
  · show b < (s.heap.push _).objs.size
    rw [Heap.size_push]
    rcases List.mem_cons.mp hb with e | hb
    · rw [e]; exact Nat.lt_succ_self _
    · rcases List.mem_cons.mp hb with e | hb
      · rw [e]; exact Nat.lt_succ_of_lt hlt
      · cases hb
theorem kept_tup {h' : Heap} {o1 : Obj} (hk : ∀ b o, b ∉ [s.heap.objs.size] → (s.heap.push o1).get? b = some o → h'.get? b = some o) : ∀ b o, s.heap.get? b = some o → h'.get? b = some o := fun b o e => by
  refine hk b o (fun hm => ?_) (Heap.get?_push_of_some _ e)
  rcases List.mem_cons.mp hm with e1 | hm
  · exact absurd (e1 ▸ Heap.lt_size e) (Nat.lt_irrefl _)
  · cases hm
theorem sum_tup (hh : A.handled = none) (hl : s.heap.IsTuple l its.toArray) (hi : IntsAre its ns)
    (h : ∀ h' tk t', (∀ b o, s.heap.get? b = some o → h'.get? b = some o) → Q (.int ns.sum t') { s with heap := h', toks := tk }) : wpAny (model prog w) A (call (.builtin "sum") [.ref l]) Q E s := by
  refine call_sum_walkG (iter_tup hl fun s2 e st hfp hne => ?_)
  subst e
  refine ⟨_, _, _, _, _, _, fun i => ns.getD i 0, rfl, Walks.tuple (A := A.in1) hh _ l hne its.toArray, st, hfp, fun i v e => ints_at hi i v (by simpa using e), fun h' tk t' hk => ?_⟩
  have q := h h' tk t' (kept_tup hk)
  have e : preSum (fun i => ns.getD i 0) its.toArray.size = ns.sum := by
    rw [preSum_list, List.take_of_length_le]
    have := (vals_of_ints hi).length
    rw [List.length_map] at this
    simp
    omega
  rw [e]
  exact q
theorem max_tup (hh : A.handled = none) (hl : s.heap.IsTuple l its.toArray) (hi : IntsAre its ns) (hne0 : 0 < ns.length)
    (h : ∀ h' tk M t', (∀ b o, s.heap.get? b = some o → h'.get? b = some o) → M ∈ ns → (∀ a, a ∈ ns → a ≤ M) → Q (.int M t') { s with heap := h', toks := tk }) : wpAny (model prog w) A (call (.builtin "max") [.ref l]) Q E s := by
  have hlen : its.length = ns.length := by
    have := (vals_of_ints hi).length
    rw [List.length_map] at this
    omega
  refine call_max_walk (iter_tup hl fun s2 e st hfp hne => ?_)
  subst e
  have hv : ∀ (i : Nat) (v : Value), its.toArray[i]? = some v → ∃ t, v = .int (ns.getD i 0) t := fun i v e => ints_at hi i v (by simpa using e)
  refine ⟨_, _, _, _, _, _, _, rfl, Walks.tuple (A := A.in1) hh _ l hne its.toArray, st, hfp, by simp; omega, CmpOf.ints_gt (fun i => ns.getD i 0) hv, fun v h' tk hP hk => ?_⟩
  obtain ⟨t, rfl⟩ := hv _ v hP
  obtain ⟨h1, h2⟩ := argBest_gt (fun i => ns.getD i 0) (its.toArray.size - 1)
  refine h h' tk _ t (kept_tup hk) (PySem.getD_mem (by simp at h1 ⊢; omega)) fun a ha => ?_
  obtain ⟨j, hj, e⟩ := List.getElem_of_mem ha
  have h3 := h2 j (by simp; omega)
  have e2 : ns.getD j 0 = a := by rw [List.getD_eq_getElem?_getD, List.getElem?_eq_getElem hj]; exact e
  rw [← e2]
  exact h3
theorem min_tup (hh : A.handled = none) (hl : s.heap.IsTuple l its.toArray) (hi : IntsAre its ns) (hne0 : 0 < ns.length)
    (h : ∀ h' tk M t', (∀ b o, s.heap.get? b = some o → h'.get? b = some o) → M ∈ ns → (∀ a, a ∈ ns → M ≤ a) → Q (.int M t') { s with heap := h', toks := tk }) : wpAny (model prog w) A (call (.builtin "min") [.ref l]) Q E s := by
  have hlen : its.length = ns.length := by
    have := (vals_of_ints hi).length
    rw [List.length_map] at this
    omega
  refine call_min_walk (iter_tup hl fun s2 e st hfp hne => ?_)
  subst e
  have hv : ∀ (i : Nat) (v : Value), its.toArray[i]? = some v → ∃ t, v = .int (ns.getD i 0) t := fun i v e => ints_at hi i v (by simpa using e)
  refine ⟨_, _, _, _, _, _, _, rfl, Walks.tuple (A := A.in1) hh _ l hne its.toArray, st, hfp, by simp; omega, CmpOf.ints_lt (fun i => ns.getD i 0) hv, fun v h' tk hP hk => ?_⟩
  obtain ⟨t, rfl⟩ := hv _ v hP
  obtain ⟨h1, h2⟩ := argBest_lt (fun i => ns.getD i 0) (its.toArray.size - 1)
  refine h h' tk _ t (kept_tup hk) (PySem.getD_mem (by simp at h1 ⊢; omega)) fun a ha => ?_
  obtain ⟨j, hj, e⟩ := List.getElem_of_mem ha
  have h3 := h2 j (by simp; omega)
  have e2 : ns.getD j 0 = a := by rw [List.getD_eq_getElem?_getD, List.getElem?_eq_getElem hj]; exact e
  rw [← e2]
  exact h3
end
section
variable {X : Cx} {C : Cfg}
def rSumT (K : PySem.W.Frag) : List V → Hp → VK → Prop := fun vs H Q => ∃ (a : Addr) (ns : List Int), vs = [V.ref a] ∧ SqT K H a (ns.map V.int) ∧ Q (.int ns.sum) H
def rMaxT (K : PySem.W.Frag) : List V → Hp → VK → Prop := fun vs H Q => ∃ (a : Addr) (ns : List Int), vs = [V.ref a] ∧ SqT K H a (ns.map V.int) ∧ 0 < ns.length ∧ ∀ m, m ∈ ns → (∀ y, y ∈ ns → y ≤ m) → Q (.int m) H
def rMinT (K : PySem.W.Frag) : List V → Hp → VK → Prop := fun vs H Q => ∃ (a : Addr) (ns : List Int), vs = [V.ref a] ∧ SqT K H a (ns.map V.int) ∧ 0 < ns.length ∧ ∀ m, m ∈ ns → (∀ y, y ∈ ns → m ≤ y) → Q (.int m) H
theorem cr_sumT (hc : X.calm = true) : CallR X (.builtin "sum") (rSumT X.K) := by
  intro pins s σ H vs us Q I r h
  obtain ⟨a, ns, rfl, hs, q⟩ := h
  obtain ⟨its, rv, hl, _⟩ := I.tuple hs
  rw [Vals.ref1 r]
  exact sum_tup (I.ok.hd hc) hl rv.ints fun h' tk t' hk => ⟨.int _, H, I.kept hk, ⟨_, rfl⟩, q⟩
theorem cr_maxT (hc : X.calm = true) : CallR X (.builtin "max") (rMaxT X.K) := by
  intro pins s σ H vs us Q I r h
  obtain ⟨a, ns, rfl, hs, hne, q⟩ := h
  obtain ⟨its, rv, hl, _⟩ := I.tuple hs
  rw [Vals.ref1 r]
  exact max_tup (I.ok.hd hc) hl rv.ints hne fun h' tk m t' hk h1 h2 => ⟨.int _, H, I.kept hk, ⟨_, rfl⟩, q m h1 h2⟩
theorem cr_minT (hc : X.calm = true) : CallR X (.builtin "min") (rMinT X.K) := by
  intro pins s σ H vs us Q I r h
  obtain ⟨a, ns, rfl, hs, hne, q⟩ := h
  obtain ⟨its, rv, hl, _⟩ := I.tuple hs
  rw [Vals.ref1 r]
  exact min_tup (I.ok.hd hc) hl rv.ints hne fun h' tk m t' hk h1 h2 => ⟨.int _, H, I.kept hk, ⟨_, rfl⟩, q m h1 h2⟩
def rSumX (K : PySem.W.Frag) : List V → Hp → VK → Prop := fun vs H Q => rSum K vs H Q ∨ rSumT K vs H Q
theorem call_sumX (hc : X.calm = true) (hK : X.K = C.K := by rfl) : CallR X (.builtin "sum") (rSumX C.K) := hK ▸ (cr_sum hc).or (cr_sumT hc)
def rMinX (K : PySem.W.Frag) : List V → Hp → VK → Prop := fun vs H Q => (∃ i j, vs = [.int i, .int j] ∧ Q (.int (if j < i then j else i)) H) ∨ rMin K vs H Q ∨ rMinT K vs H Q
theorem call_minX (hc : X.calm = true) (hK : X.K = C.K := by rfl) : CallR X (.builtin "min") (rMinX C.K) := hK ▸ (call_min2 hc).or ((cr_min hc).or (cr_minT hc))
def rMaxX (K : PySem.W.Frag) : List V → Hp → VK → Prop := fun vs H Q => (∃ i j, vs = [.int i, .int j] ∧ Q (.int (if j > i then j else i)) H) ∨ rMax K vs H Q ∨ rMaxT K vs H Q
theorem call_maxX (hc : X.calm = true) (hK : X.K = C.K := by rfl) : CallR X (.builtin "max") (rMaxX C.K) := hK ▸ (call_max2 hc).or ((cr_max hc).or (cr_maxT hc))
theorem iterInts_rel {M0 : Addr → Prop} {m : List Addr} {H : Hp} {st : Sto} (rh : RH C M0 m H st) {v : V} {x : Va} {ns : List Int} (rv : RV C H (Mx M0 m) m v x) (e : iterInts st x = some ns) : ∃ a, v = .ref a ∧ (SqL C.K H a (ns.map V.int) ∨ SqT C.K H a (ns.map V.int)) := by
  unfold iterInts at e
  cases h : seqOf st x with
  | none => rw [h] at e; cases e
  | some p =>
    obtain ⟨t, xs⟩ := p
    rw [h] at e
    obtain ⟨a, vs, rfl, rs, sq⟩ := seqOf_rel rh rv h
    have ev := rs.ints (show intsOf xs = some ns from e)
    subst ev
    cases t with
    | true => exact ⟨a, rfl, .inr sq⟩
    | false => exact ⟨a, rfl, .inl sq⟩
theorem cs_sum : CallS C (rSumX C.K) sumF := by
  intro M0 m H st vs xs E Q rh rs fin
  unfold sumF at fin
  split at fin
  · obtain ⟨v, rfl, rv⟩ := rs.one
    split at fin
    · rename_i ns hn
      have q := FinG.out (R := relV C M0) fin rh (.dat (.int _))
      obtain ⟨a, rfl, sq | sq⟩ := iterInts_rel rh rv hn
      · exact .inl ⟨a, ns, rfl, sq, q⟩
      · exact .inr ⟨a, ns, rfl, sq, q⟩
    · exact fin.elim
  · exact fin.elim
theorem cs_min : CallS C (rMinX C.K) minF := by
  intro M0 m H st vs xs E Q rh rs fin
  unfold minF at fin
  split at fin
  · obtain ⟨v, rfl, rv⟩ := rs.one
    split at fin
    · rename_i n ns hn
      have q := FinG.out (R := relV C M0) fin rh (.dat (.int _))
      have q2 : ∀ m, m ∈ n :: ns → (∀ y, y ∈ n :: ns → m ≤ y) → Q (.int m) H := fun m h1 h2 => by rw [← leastI_eq h1 h2]; exact q
      obtain ⟨a, rfl, sq | sq⟩ := iterInts_rel rh rv hn
      · exact .inr (.inl ⟨a, _, rfl, sq, by simp, q2⟩)
      · exact .inr (.inr ⟨a, _, rfl, sq, by simp, q2⟩)
    · exact fin.elim
  · obtain ⟨v, u, rfl, rv, ru⟩ := rs.two
    exact .inl ⟨_, _, by rw [rv.int_inv, ru.int_inv], FinG.out (R := relV C M0) fin rh (.dat (.int _))⟩
  · exact fin.elim
theorem cs_max : CallS C (rMaxX C.K) maxF := by
  intro M0 m H st vs xs E Q rh rs fin
  unfold maxF at fin
  split at fin
  · obtain ⟨v, rfl, rv⟩ := rs.one
    split at fin
    · rename_i n ns hn
      have q := FinG.out (R := relV C M0) fin rh (.dat (.int _))
      have q2 : ∀ m, m ∈ n :: ns → (∀ y, y ∈ n :: ns → y ≤ m) → Q (.int m) H := fun m h1 h2 => by rw [← mostI_eq h1 h2]; exact q
      obtain ⟨a, rfl, sq | sq⟩ := iterInts_rel rh rv hn
      · exact .inr (.inl ⟨a, _, rfl, sq, by simp, q2⟩)
      · exact .inr (.inr ⟨a, _, rfl, sq, by simp, q2⟩)
    · exact fin.elim
  · obtain ⟨v, u, rfl, rv, ru⟩ := rs.two
    exact .inl ⟨_, _, by rw [rv.int_inv, ru.int_inv], FinG.out (R := relV C M0) fin rh (.dat (.int _))⟩
  · exact fin.elim
end
end Sk

/-! Sk, part 8: isinstance, in. -/
namespace Sk
open PySem PySem.Spec PyProof.Rows L2
def tyName (st : Sto) (x : Va) : Option String := match x with
  | .dat .none => some "NoneType"
  | .dat (.bool _) => some "bool"
  | .dat (.int _) => some "int"
  | .dat (.str _) => some "str"
  | .dat (.list _) => some "list"
  | .dat (.tuple _) => some "tuple"
  | .seq true _ => some "tuple"
  | .seq false _ => some "list"
  | .ref n => (match st[n]? with
    | some (some (.lst _)) => some "list"
    | some (some (.dic _ _)) => some "dict"
    | _ => none)
  | _ => none
def subTy (t T : String) : Bool := t == T || (t == "bool" && T == "int")
/-- the classes that we ask for -/
def askTy (T : String) : Bool := T == "int" || T == "bool" || T == "str" || T == "tuple" || T == "list"
def isiV (T : String) (x : Va) (st : Sto) : Rs Va := match tyName st x with
  | some t => oB (subTy t T) st
  | none => .bad
section
variable {X : Cx} {C : Cfg} {W : WX}
theorem kit_all {K : PySem.W.Frag} {t T : String} (hT : askTy T = true) (ht : t = "NoneType" ∨ t = "bool" ∨ t = "int" ∨ t = "str" ∨ t = "list" ∨ t = "tuple" ∨ t = "dict") : PySem.W.kitOne K (.type t) (.type T) = some (subTy t T) := by
  simp only [askTy, Bool.or_eq_true, beq_iff_eq] at hT
  rcases hT with (((h | h) | h) | h) | h <;> subst h <;> rcases ht with h | h | h | h | h | h | h <;> subst h <;> exact kit_ty (by decide +kernel)
theorem sqt_ty {H : Hp} {K : PySem.W.Frag} {a : Addr} {vs : List V} (h : SqT K H a vs) : TyX K H (.ref a) (.type "tuple") := by
  rcases h with (h | ⟨o, h⟩) | ⟨o, its, n, h1, h2, _⟩
  · exact .base (.tup h)
  · exact .fTuple h
  · exact .kTuple h1 h2
theorem sqf_ty {H : Hp} {K : PySem.W.Frag} {a : Addr} {vs : List V} (h : SqF K H a vs) : TyX K H (.ref a) (.type "list") := by
  rcases h with ⟨o, h⟩ | ⟨o, its, n, h1, h2, _⟩
  · exact .base (.frz h)
  · exact .kList h1 h2
theorem tyName_rel {M0 : Addr → Prop} {m : List Addr} {H : Hp} {st : Sto} (rh : RH C M0 m H st) {v : V} {x : Va} {t : String} (rv : RV C H (Mx M0 m) m v x) (e : tyName st x = some t) :
    TyX C.K H v (.type t) ∧ (t = "NoneType" ∨ t = "bool" ∨ t = "int" ∨ t = "str" ∨ t = "list" ∨ t = "tuple" ∨ t = "dict") := by
  cases rv with
  | dat rd =>
    cases rd with
    | non => cases e; exact ⟨.base .non, by simp⟩
    | bl b => cases e; exact ⟨.base (.bl b), by simp⟩
    | int i => cases e; exact ⟨.base (.int i), by simp⟩
    | str z => cases e; exact ⟨.base (.str z), by simp⟩
    | lst h _ _ => cases e; exact ⟨.base (.lst h), by simp⟩
    | tup h _ => cases e; exact ⟨.base (.tup h), by simp⟩
  | @ref n a h =>
    have e' : (match st[n]? with | some (some (.lst _)) => some "list" | some (some (.dic _ _)) => some "dict" | _ => none) = some t := e
    split at e'
    · rename_i ys hy
      cases e'
      obtain ⟨b, hb, vs, hv, _⟩ := rh.ob n _ hy
      rw [h] at hb
      cases hb
      exact ⟨.base (.lst hv), by simp⟩
    · rename_i k ys hy
      cases e'
      obtain ⟨b, hb, ro⟩ := rh.ob n _ hy
      rw [h] at hb
      cases hb
      cases k with
      | false => obtain ⟨ks, hk, _⟩ := ro; exact ⟨.base (.dK hk), by simp⟩
      | true => obtain ⟨ks, hk, _⟩ := ro; exact ⟨.base (.dT hk), by simp⟩
    · cases e'
  | lst h _ _ => cases e; exact ⟨.base (.lst h), by simp⟩
  | frz h _ => cases e; exact ⟨sqf_ty h, by simp⟩
  | tup h _ => cases e; exact ⟨sqt_ty h, by simp⟩
  | fn _ => cases e
theorem fe_isi {e : Expr} {ce : CE} {T : String} {p p2 pos : Pos} {x : Str} (hT : askTy T = true) (hK : X.K = C.K) (he : PE X e (tE C W ce)) (hg : Gl X "isinstance") (hm : X.mg "isinstance" = none) (hgT : Gl X x) (hmT : X.mg x = none) (hv : bootBuiltins x = some (.type T)) (hn : x ≠ "__name__" := by decide) (hd : (x == ("__debug__" : Str)) = false := by decide)
    (hs : starEach [e, .Name x p2] X.env = (false, eval e X.env) :: starEach [.Name x p2] X.env := by rfl) (hs2 : starEach [.Name x p2] X.env = (false, eval (.Name x p2) X.env) :: starEach [] X.env := by rfl) (hpl : (backTo pos (starEach [.Name x p2] X.env)).any (·.1) = false := by rfl) :
    PE X (.Call (.Name "isinstance" p) [e, .Name x p2] [] pos) (tE C W (dUn (isiV T) ce)) :=
  PE.imp (pe_callB (call_isi (X := X)) hg hm (by decide +kernel) (pa_cons he (pa_cons (pe_bltn hgT hmT hv (v := .ty T) rfl hn hd) pa_nil hs2) hs) (by decide) (by decide) hs hpl) fun s H Q h =>
    tG.bind (R := relV) (k := fun x _ st => isiV T x st) h fun M0 m ev st x v H1 rh re rv fin => by
      show rIsi X.K [v, .ty T] H1 Q
      unfold isiV at fin
      split at fin
      · rename_i t ht
        obtain ⟨ty, hk⟩ := tyName_rel rh rv ht
        rw [hK]
        exact ⟨v, .ty T, .type t, .type T, subTy t T, rfl, .ty T, ty, kit_all hT hk, FinG.out (R := relV C M0) fin rh (.dat (.bl _))⟩
      · exact fin.elim

/-! ### in -/
/-- is x among the things of y? -/
def inB (x y : Va) (st : Sto) : Option Bool := match y with
  | .dat (.str s) => (match x with
    | .dat (.str c) => some (!(Builtin.Str.occurrences s c 0 s.length 1).isEmpty)
    | _ => none)
  | _ => (match dicOf st y with
    | some (t, kvs) => (isKey t x).map fun k => (dget kvs k).isSome
    | none => (match rdD 8 st x, rdD 8 st y with
      | some d, some (.list ds) => if (SeqAt.shaped d && SeqAt.shaped (.list ds)) = true then some (ds.any fun z => PyData.eqv z d) else none
      | some d, some (.tuple ds) => if (SeqAt.shaped d && SeqAt.shaped (.list ds)) = true then some (ds.any fun z => PyData.eqv z d) else none
      | _, _ => none))
def inV (x y : Va) (st : Sto) : Rs Va := match inB x y st with
  | some b => oB b st
  | none => .bad
def notInV (x y : Va) (st : Sto) : Rs Va := match inB x y st with
  | some b => oB (!b) st
  | none => .bad
/-- what the rules of in ask, the answer b -/
def rInK (K : PySem.W.Frag) (x y : V) (H : Hp) (b : Bool) : Prop :=
  (∃ i j, x = .str i ∧ y = .str j ∧ b = !(Builtin.Str.occurrences j i 0 j.length 1).isEmpty) ∨ (∃ a o, y = .ref a ∧ DGet H a x o ∧ b = o.isSome) ∨
  (∃ d ds, Dp K H x d ∧ Dp K H y (.list ds) ∧ SeqAt.shaped d = true ∧ SeqAt.shaped (.list ds) = true ∧ b = ds.any fun z => PyData.eqv z d) ∨
  (∃ d ds, Dp K H x d ∧ Dp K H y (.tuple ds) ∧ SeqAt.shaped d = true ∧ SeqAt.shaped (.list ds) = true ∧ b = ds.any fun z => PyData.eqv z d)
theorem op_inX (hu : X.A.units + 65 < cLine) (hK : X.K = C.K := by rfl) : OpR X (compareOp .In) (fun x y H Q => ∃ b, rInK C.K x y H b ∧ Q (.bl b) H) := by
  rw [← hK]
  intro pins s σ H x y v u Q I rx ry h
  obtain ⟨b, h | h | h | h, q⟩ := h
  · obtain ⟨i, j, e1, e2, rfl⟩ := h
    exact op_in_str pins s σ H x y v u Q I rx ry ⟨i, j, e1, e2, q⟩
  · obtain ⟨a, o, rfl, g, rfl⟩ := h
    cases ry
    exact d_in (by omega) I g rx fun s' I' => ⟨.bl _, H, I', rfl, q⟩
  · obtain ⟨d, ds, h1, h2, h3, h4, rfl⟩ := h
    exact op_inD hu pins s σ H x y v u Q I rx ry ⟨d, ds, h1, h2, h3, h4, q⟩
  · obtain ⟨d, ds, hd, he, sd, se, rfl⟩ := h
    obtain ⟨as, r1⟩ := Dp.reads I d x v hd rx
    obtain ⟨bs, r2⟩ := Dp.reads I (.tuple ds) y u he ry
    exact SeqAt.in_tuple_reads r2 r1 (SeqAt.canLay_of_shaped se) (SeqAt.canLay_of_shaped sd) (room_in_shaped sd hu) ⟨.bl _, H, I, rfl, q⟩
theorem op_notInX (hu : X.A.units + 65 < cLine) (hK : X.K = C.K := by rfl) : OpR X (compareOp .NotIn) (fun x y H Q => ∃ b, rInK C.K x y H b ∧ Q (.bl (!b)) H) := by
  rw [← hK]
  intro pins s σ H x y v u Q I rx ry h
  obtain ⟨b, h | h | h | h, q⟩ := h
  · obtain ⟨i, j, e1, e2, rfl⟩ := h
    exact op_notIn_str pins s σ H x y v u Q I rx ry ⟨i, j, e1, e2, q⟩
  · obtain ⟨a, o, rfl, g, rfl⟩ := h
    cases ry
    exact d_notIn (by omega) I g rx fun s' I' => ⟨.bl _, H, I', rfl, q⟩
  · obtain ⟨d, ds, h1, h2, h3, h4, rfl⟩ := h
    exact op_notInD hu pins s σ H x y v u Q I rx ry ⟨d, ds, h1, h2, h3, h4, q⟩
  · obtain ⟨d, ds, hd, he, sd, se, rfl⟩ := h
    obtain ⟨as, r1⟩ := Dp.reads I d x v hd rx
    obtain ⟨bs, r2⟩ := Dp.reads I (.tuple ds) y u he ry
    exact SeqAt.notIn_tuple_reads r2 r1 (SeqAt.canLay_of_shaped se) (SeqAt.canLay_of_shaped sd) (room_in_shaped sd hu) ⟨.bl _, H, I, rfl, q⟩
theorem inB_rel {M0 : Addr → Prop} {m : List Addr} {H : Hp} {st : Sto} (rh : RH C M0 m H st) {v u : V} {x y : Va} {b : Bool} (rx : RV C H (Mx M0 m) m v x) (ry : RV C H (Mx M0 m) m u y) (e : inB x y st = some b) : rInK C.K v u H b := by
  unfold inB at e
  split at e
  · split at e
    · cases e
      exact .inl ⟨_, _, rx.str_inv, ry.str_inv, rfl⟩
    · cases e
  · split at e
    · rename_i t kvs hd
      obtain ⟨k, hk, e2⟩ := Option.map_eq_some_iff.mp e
      subst e2
      obtain ⟨n, a, rfl, rfl, hn, _, ro⟩ := dic_at rh ry hd
      obtain ⟨o, g, h | ⟨w, z, h1, h2, h3⟩⟩ := dget_rel ro rx hk
      · exact .inr (.inl ⟨a, o, rfl, g, by rw [h.1, h.2]; rfl⟩)
      · exact .inr (.inl ⟨a, o, rfl, g, by rw [h1, h2]; rfl⟩)
    · split at e
      · rename_i d ds h1 h2
        split at e
        · rename_i hs
          cases e
          obtain ⟨s1, s2⟩ := Bool.and_eq_true_iff.mp hs
          exact .inr (.inr (.inl ⟨d, ds, rdD_dp rh 8 _ _ _ rx h1, rdD_dp rh 8 _ _ _ ry h2, s1, s2, rfl⟩))
        · cases e
      · rename_i d ds h1 h2
        split at e
        · rename_i hs
          cases e
          obtain ⟨s1, s2⟩ := Bool.and_eq_true_iff.mp hs
          exact .inr (.inr (.inr ⟨d, ds, rdD_dp rh 8 _ _ _ rx h1, rdD_dp rh 8 _ _ _ ry h2, s1, s2, rfl⟩))
        · cases e
      · cases e
theorem os_in : OpS C (fun x y H Q => ∃ b, rInK C.K x y H b ∧ Q (.bl b) H) inV := by
  intro M0 m H st v u x y E Q rh rx ry fin
  unfold inV at fin
  split at fin
  · rename_i b hb
    exact ⟨b, inB_rel rh rx ry hb, FinG.out (R := relV C M0) fin rh (.dat (.bl _))⟩
  · exact fin.elim
theorem os_notIn : OpS C (fun x y H Q => ∃ b, rInK C.K x y H b ∧ Q (.bl (!b)) H) notInV := by
  intro M0 m H st v u x y E Q rh rx ry fin
  unfold notInV at fin
  split at fin
  · rename_i b hb
    exact ⟨b, inB_rel rh rx ry hb, FinG.out (R := relV C M0) fin rh (.dat (.bl _))⟩
  · exact fin.elim
end
end Sk

/-! Sk, part 9: statements, targets. -/
namespace Sk
open PySem PySem.Spec PyProof.Rows L2
/-- how a statement ends -/
inductive Fl where
  | nx (e : Ev) | bk (e : Ev) | ct (e : Ev) | rt (x : Va)
abbrev CS := Ev → Sto → Rs Fl
def FinS (C : Cfg) (M0 : Addr → Prop) (m : List Addr) (H : Hp) (W : WX) (r : Rs Fl) (D : Ends) : Prop :=
  match r with
  | .ok (.nx ev) st => ∀ s m' H', Go m H m' H' → RH C M0 m' H' st → RE C H' M0 m' s ev → D.nx s H'
  | .ok (.bk ev) st => ∀ s m' H', Go m H m' H' → RH C M0 m' H' st → RE C H' M0 m' s ev → D.bk s H'
  | .ok (.ct ev) st => ∀ s m' H', Go m H m' H' → RH C M0 m' H' st → RE C H' M0 m' s ev → D.ct s H'
  | .ok (.rt x) st => ∀ v m' H', Go m H m' H' → RH C M0 m' H' st → RV C H' (Mx M0 m') m' v x → D.rt v H'
  | .err e st => ∀ s c d m' H', Go m H m' H' → RH C M0 m' H' st → REx C H' (Mx M0 m') e c d → W c d s H'
  | .bad => False
def tS (C : Cfg) (W : WX) (c : CS) : TS := fun D s H => ∃ M0 m ev st, RH C M0 m H st ∧ RE C H M0 m s ev ∧ FinS C M0 m H W (c ev st) D
section
variable {C : Cfg} {M0 : Addr → Prop} {m m1 : List Addr} {H H1 : Hp} {W : WX} {D D' : Ends} {r : Rs Fl}
theorem FinS.rebase (h : FinS C M0 m H W r D) (g : Go m H m1 H1) : FinS C M0 m1 H1 W r D := by
  cases r with
  | ok x st =>
    cases x with
    | nx ev => exact fun s m' H' g' rh q => h s m' H' (g.trans g') rh q
    | bk ev => exact fun s m' H' g' rh q => h s m' H' (g.trans g') rh q
    | ct ev => exact fun s m' H' g' rh q => h s m' H' (g.trans g') rh q
    | rt x => exact fun s m' H' g' rh q => h s m' H' (g.trans g') rh q
  | err e st => exact fun s c d m' H' g' rh q => h s c d m' H' (g.trans g') rh q
  | bad => exact h
/-- an expression's end, then k -/
theorem FinS.bind {a b : Type} {R : Hp → List Addr → b → a → Prop} {q : Rs a} {k : a → Sto → Rs Fl} {s : L2.St} (h : FinS C M0 m H W (q.bind k) D) :
    FinG R C M0 m H (WE W s) q (fun y H1 => ∃ m1 st1 x, Go m H m1 H1 ∧ RH C M0 m1 H1 st1 ∧ R H1 m1 y x ∧ FinS C M0 m1 H1 W (k x st1) D) := by
  cases q with
  | ok x st => exact fun y m' H' g' rh q => ⟨m', st, x, g', rh, q, FinS.rebase h g'⟩
  | err e st => exact fun c d m' H' g' rh q => h s c d m' H' g' rh q
  | bad => exact h
end
section
variable {X : Cx} {C : Cfg} {W : WX} {pos : Pos}
theorem PS.imp {e : Stmt} {t t' : TS} (h : PS X e t) (i : ∀ D s H, t' D s H → t D s H) : PS X e t' := ⟨fun pins s σ H D I q => h.run pins s σ H D I (i _ _ _ q)⟩
theorem PSs.imp {e : List Stmt} {t t' : TS} (h : PSs X e t) (i : ∀ D s H, t' D s H → t D s H) : PSs X e t' := ⟨fun pins s σ H D I q => h.run pins s σ H D I (i _ _ _ q)⟩
/-- a statement's reading taken apart -/
theorem tS.bind {a b : Type} {R : Cfg → (Addr → Prop) → Hp → List Addr → b → a → Prop} {f : Ev → Sto → Rs a} {k : a → Ev → Sto → Rs Fl} {D : Ends} {P : b → Hp → Prop} {s : L2.St} {H : Hp} (h : tS C W (fun ev st => (f ev st).bind fun x st1 => k x ev st1) D s H)
    (n : ∀ M0 m ev st x y H1, RH C M0 m H1 st → RE C H1 M0 m s ev → R C M0 H1 m y x → FinS C M0 m H1 W (k x ev st) D → P y H1) : tG R C W f s H P := by
  obtain ⟨M0, m, ev, st, rh, re, fin⟩ := h
  refine ⟨M0, m, ev, st, rh, re, (FinS.bind (R := R C M0) fin).mono fun y H1 q => ?_⟩
  obtain ⟨m1, st1, x, g, rh1, rx, fin1⟩ := q
  exact n M0 m1 ev st1 x y H1 rh1 (re.go g rh.mu) rx fin1
def dSkip : CS := fun ev st => .ok (.nx ev) st
def dSeq (a b : CS) : CS := fun ev st => (a ev st).bind fun f st1 => match f with
  | .nx ev1 => b ev1 st1
  | .bk ev1 => .ok (.bk ev1) st1
  | .ct ev1 => .ok (.ct ev1) st1
  | .rt x => .ok (.rt x) st1
variable {st0 : Stmt} {rest : List Stmt} {ca cb : CS}
theorem fss_nil : PSs X [] (tS C W dSkip) := PSs.imp pss_nil fun D s H ⟨M0, m, ev, st, rh, re, fin⟩ => fin s m H (Go.refl m H) rh re
theorem fss_one (h : PS X st0 (tS C W ca)) : PSs X [st0] (tS C W ca) := pss_one h
theorem fss_cons (h1 : PS X st0 (tS C W ca)) (h2 : PSs X rest (tS C W cb)) : PSs X (st0 :: rest) (tS C W (dSeq ca cb)) :=
  PSs.imp (pss_cons h1 h2) fun D s H ⟨M0, m, ev, st, rh, re, fin⟩ => by
    refine ⟨M0, m, ev, st, rh, re, ?_⟩
    have fin : FinS C M0 m H W ((ca ev st).bind _) D := fin
    cases e : ca ev st with
    | ok f st1 =>
      rw [e] at fin
      cases f with
      | nx ev1 => exact fun s' m' H' g rh' re' => ⟨M0, m', ev1, st1, rh', re', FinS.rebase fin g⟩
      | bk ev1 => exact fin
      | ct ev1 => exact fin
      | rt x => exact fin
    | err x st1 => rw [e] at fin; exact fin
    | bad => rw [e] at fin; exact fin
theorem fs_pass : PS X (.Pass pos) (tS C W dSkip) := PS.imp ps_pass fun D s H ⟨M0, m, ev, st, rh, re, fin⟩ => fin s m H (Go.refl m H) rh re
def dBreak : CS := fun ev st => .ok (.bk ev) st
def dCont : CS := fun ev st => .ok (.ct ev) st
theorem fs_break : PS X (.Break pos) (tS C W dBreak) := PS.imp ps_break fun D s H ⟨M0, m, ev, st, rh, re, fin⟩ => fin s m H (Go.refl m H) rh re
theorem fs_cont : PS X (.Continue pos) (tS C W dCont) := PS.imp ps_continue fun D s H ⟨M0, m, ev, st, rh, re, fin⟩ => fin s m H (Go.refl m H) rh re
variable {e c : Expr} {ce : CE} {cc : CB}
def dRet (a : CE) : CS := fun ev st => (a ev st).bind fun x st1 => .ok (.rt x) st1
theorem fs_ret (h : PE X e (tE C W ce)) : PS X (.Return (some e) pos) (tS C W (dRet ce)) :=
  PS.imp (ps_ret h) fun D s H h => tS.bind (R := relV) (k := fun x ev st1 => .ok (.rt x) st1) h fun M0 m ev st x v H1 rh re rv fin => fin v m H1 (Go.refl _ _) rh rv
def dDo (a : CE) : CS := fun ev st => (a ev st).bind fun _ st1 => .ok (.nx ev) st1
theorem fs_expr (h : PE X e (tE C W ce)) (hs : swapsWith e none pos.line X.env = pure false := by rfl) : PS X (.Expr e pos) (tS C W (dDo ce)) :=
  PS.imp (ps_expr h hs) fun D s H h => tS.bind (R := relV) (k := fun x ev st1 => .ok (.nx ev) st1) h fun M0 m ev st x v H1 rh re rv fin => fin s m H1 (Go.refl _ _) rh re
def dIfS (c : CB) (a b : CS) : CS := fun ev st => (c ev st).bind fun k st1 => if k = true then a ev st1 else b ev st1
theorem fs_if {a b : List Stmt} (hc : PT X c (tT C W cc)) (ha : PSs X a (tS C W ca)) (hb : PSs X b (tS C W cb)) : PS X (.If c a b pos) (tS C W (dIfS cc ca cb)) :=
  PS.imp (ps_if hc ha hb) fun D s H h => tS.bind (R := fun _ _ => relB) (k := fun k ev st1 => if k = true then ca ev st1 else cb ev st1) h fun M0 m ev st x y H1 rh re rv fin => by
    have e0 : y = x := rv
    subst e0
    cases y with
    | true => exact ite_tt ⟨M0, m, ev, st, rh, re, fin⟩
    | false => exact ite_ff ⟨M0, m, ev, st, rh, re, fin⟩

/-! ### targets -/
abbrev CT := Va → Ev → Sto → Rs Ev
abbrev CTs := List Va → Ev → Sto → Rs Ev
abbrev relE (C : Cfg) (M0 : Addr → Prop) : Hp → List Addr → L2.St → Ev → Prop := fun H m s ev => RE C H M0 m s ev
def tTg (C : Cfg) (W : WX) (c : CT) : TG := fun v s H Q => ∃ M0 m ev st x, RH C M0 m H st ∧ RE C H M0 m s ev ∧ RV C H (Mx M0 m) m v x ∧ FinG (relE C M0) C M0 m H (WE W s) (c x ev st) Q
def tTgs (C : Cfg) (W : WX) (c : CTs) : TGs := fun v s H Q => ∃ M0 m ev st x, RH C M0 m H st ∧ RE C H M0 m s ev ∧ RVs C H (Mx M0 m) m v x ∧ FinG (relE C M0) C M0 m H (WE W s) (c x ev st) Q
theorem PG.imp {e : Expr} {t t' : TG} (h : PG X e t) (i : ∀ v s H Q, t' v s H Q → t v s H Q) : PG X e t' := ⟨fun pins s σ H v u Q I r q => h.run pins s σ H v u Q I r (i _ _ _ _ q)⟩
theorem PGs.imp {e : List Expr} {t t' : TGs} (h : PGs X e t) (i : ∀ v s H Q, t' v s H Q → t v s H Q) : PGs X e t' := ⟨fun pins s σ H v u Q I r q => h.run pins s σ H v u Q I r (i _ _ _ _ q)⟩
def gN (i : Nat) : CT := fun x ev st => .ok (ev.set i (some x)) st
theorem fg_name {i : Nat} {x : Str} (hN : X.N.Nodup) (hi : X.N[i]? = some x) (hx : Loc X.env.scope x) (hf : X.fn x = true ∨ X.env.scope.names.lookup x = some .local := by first | exact .inl rfl | exact .inr rfl | assumption) : PG X (.Name x pos) (tTg C W (gN i)) :=
  PG.imp (pg_name hN hi hx hf) fun v s H Q ⟨M0, m, ev, st, x, rh, re, rv, fin⟩ => fin _ m H (Go.refl _ _) rh (re.set i rv)
def gsNil : CTs := fun xs ev st => match xs with
  | [] => .ok ev st
  | _ => .bad
def gsCons (t : CT) (u : CTs) : CTs := fun xs ev st => match xs with
  | x :: r => (t x ev st).bind fun ev1 st1 => u r ev1 st1
  | _ => .bad
theorem fgs_nil : PGs X [] (tTgs C W gsNil) := PGs.imp pgs_nil fun v s H Q ⟨M0, m, ev, st, xs, rh, re, rv, fin⟩ => by
  cases rv with
  | nil => exact ⟨rfl, fin s m H (Go.refl _ _) rh re⟩
  | cons _ _ => exact fin.elim
/-- the wish of an exception that does not hang on the slots -/
def Flat (W : WX) : Prop := ∀ c d s s' H, W c d s H → W c d s' H
theorem fgs_cons {e : Expr} {es : List Expr} {t : CT} {u : CTs} (hW : Flat W) (h1 : PG X e (tTg C W t)) (h2 : PGs X es (tTgs C W u))
    (hs : (assignEach (e :: es) X.env).map (·.2) = assign e X.env :: (assignEach es X.env).map (·.2) := by rfl) : PGs X (e :: es) (tTgs C W (gsCons t u)) :=
  PGs.imp (pgs_cons h1 h2 hs) fun v s H Q ⟨M0, m, ev, st, xs, rh, re, rv, fin⟩ => by
    cases rv with
    | nil => exact fin.elim
    | cons a r =>
      refine ⟨_, _, rfl, M0, m, ev, st, _, rh, re, a, ?_⟩
      have fin : FinG (relE C M0) C M0 m H (WE W s) ((t _ ev st).bind _) Q := fin
      refine (FinG.bind (R := relE C M0) fin).mono fun s1 H1 ⟨m1, st1, ev1, g, rh1, re1, fin1⟩ => ?_
      refine ⟨M0, m1, ev1, st1, _, rh1, re1, r.go g rh.mu, ?_⟩
      generalize hq : u _ ev1 st1 = q at fin1 ⊢
      cases q with
      | ok x st2 => exact fin1
      | err x st2 => exact fun c d m' H' g' rh' q' => hW _ _ _ _ _ (fin1 c d m' H' g' rh' q')
      | bad => exact fin1
/-- (a, b, ..) = a tuple of that length -/
def gTp (n : Nat) (u : CTs) : CT := fun x ev st => match seqOf st x with
  | some (true, xs) => if (xs.length == n) = true then u xs ev st else .bad
  | _ => .bad
theorem fg_tup {es : List Expr} {k n : Nat} {u : CTs} (hK : X.K = C.K) (hc : X.calm = true) (h : PGs X es (tTgs C W u)) (hn : (assignEach es X.env).length = n := by rfl) (hst : (assignEach es X.env).findIdx? (·.1) = none := by rfl) : PG X (.Tuple es k pos) (tTg C W (gTp n u)) :=
  PG.imp (pg_tup hc h hn hst) fun v s H Q ⟨M0, m, ev, st, x, rh, re, rv, fin⟩ => by
    unfold gTp at fin
    split at fin
    · rename_i xs hs
      obtain ⟨hl, fin⟩ := Fin.ifGo fin
      obtain ⟨a, vs, rfl, rs, sq⟩ := seqOf_rel rh rv hs
      exact ⟨a, vs, rfl, by rw [hK]; exact sq, by rw [rs.len]; exact eq_of_beq hl, M0, m, ev, st, xs, rh, re, rs, fin⟩
    · exact fin.elim
/-- x = e, and any other target -/
def dAsg (a : CE) (t : CT) : CS := fun ev st => (a ev st).bind fun x st1 => (t x ev st1).bind fun ev1 st2 => .ok (.nx ev1) st2
theorem tAsg_of {t : CT} (D : Ends) (s : L2.St) (H : Hp) (h : tS C W (dAsg ce t) D s H) : tAsg (tE C W ce) (tTg C W t) D s H :=
  tS.bind (R := relV) (k := fun x ev st1 => (t x ev st1).bind fun ev1 st2 => .ok (.nx ev1) st2) h fun M0 m ev st x v H1 rh re rv fin => by
    refine ⟨M0, m, ev, st, x, rh, re, rv, (FinS.bind (R := relE C M0) fin).mono fun s1 H2 ⟨m1, st1, ev1, g, rh1, re1, fin1⟩ => ?_⟩
    exact fin1 s1 m1 H2 (Go.refl _ _) rh1 re1
theorem fs_asg {tg : Expr} {t : CT} (he : PE X e (tE C W ce)) (hg : PG X tg (tTg C W t)) (hs : swapsWithSole [tg] e pos.line X.env = pure false := by rfl) (hw : swappedStores [tg] e X.env = pure none := by rfl)
    (h1 : (assignEach [tg] X.env).map (·.2) = [assign tg X.env] := by rfl) : PS X (.Assign [tg] e pos) (tS C W (dAsg ce t)) := PS.imp (ps_asg he hg hs hw h1) tAsg_of
theorem fs_set {i : Nat} {x : Str} {pos' : Pos} (hN : X.N.Nodup) (hi : X.N[i]? = some x) (hx : Loc X.env.scope x) (he : PE X e (tE C W ce)) (hs : swapsWith e (some (.Name x pos')) pos.line X.env = pure false := by rfl) (hf : X.fn x = true ∨ X.env.scope.names.lookup x = some .local := by first | exact .inl rfl | exact .inr rfl | assumption) :
    PS X (.Assign [.Name x pos'] e pos) (tS C W (dAsg ce (gN i))) :=
  PS.imp (ps_set hN hi hx he hs hf) fun D s H h => tS.bind (R := relV) (k := fun x ev st1 => (gN i x ev st1).bind fun ev1 st2 => .ok (.nx ev1) st2) h fun M0 m ev st x v H1 rh re rv fin => fin _ m H1 (Go.refl _ _) rh (re.set i rv)
/-- a, b = e1, e2 -/
def dPar (i j : Nat) (c : CA) : CS := fun ev st => (c ev st).bind fun xs st1 => match xs with
  | [x, y] => .ok (.nx ((ev.set i (some x)).set j (some y))) st1
  | _ => .bad
theorem fs_par {i j : Nat} {x y : Str} {a b : Expr} {cs : CA} {px py pt : Pos} {kt k2 : Nat} {pt2 : Pos} (hc : X.calm = true) (hN : X.N.Nodup) (hi : X.N[i]? = some x) (hj : X.N[j]? = some y) (hij : i ≠ j)
    (hx : X.env.scope.names.lookup x = some .local) (hy : X.env.scope.names.lookup y = some .local) (ha : PA X [a, b] (tA C W cs))
    (hw : swappedStores [.Tuple [.Name x px, .Name y py] kt pt] (.Tuple [a, b] k2 pt2) X.env = pure (some [x, y]))
    (hs : swapsWithSole [.Tuple [.Name x px, .Name y py] kt pt] (.Tuple [a, b] k2 pt2) pos.line X.env = pure false := by rfl) :
    PS X (.Assign [.Tuple [.Name x px, .Name y py] kt pt] (.Tuple [a, b] k2 pt2) pos) (tS C W (dPar i j cs)) :=
  PS.imp (ps_par hc hN hi hj hij hx hy ha hw hs) fun D s H h => tS.bind (R := relVs) (k := fun xs ev st1 => match xs with
    | [x, y] => .ok (.nx ((ev.set i (some x)).set j (some y))) st1
    | _ => .bad) h fun M0 m ev st xs vs H1 rh re rv fin => by
    split at fin
    · obtain ⟨v, u, rfl, r1, r2⟩ := rv.two
      exact ⟨v, u, rfl, fin _ m H1 (Go.refl _ _) rh ((re.set i r1).set j r2)⟩
    · exact fin.elim
def dPar3 (i j l : Nat) (c : CA) : CS := fun ev st => (c ev st).bind fun xs st1 => match xs with
  | [x, y, z] => .ok (.nx (((ev.set i (some x)).set j (some y)).set l (some z))) st1
  | _ => .bad
/-! ### o[i] = e -/
def setV (o i v : Va) (st : Sto) : Rs Unit := match o with
  | .ref n => (match st[n]? with
    | some (some (.lst xs)) => (match i with
      | .dat (.int k) => (match ixN xs.length k with
        | some j => .ok () (st.set n (some (.lst (xs.set j v))))
        | none => .bad)
      | _ => .bad)
    | some (some (.dic t kvs)) => (match isKey t i with
      | some k => if few kvs.length = true then .ok () (st.set n (some (.dic t (dput kvs k v)))) else .bad
      | none => .bad)
    | _ => .bad)
  | _ => .bad
def rSetX : TSet := fun o i v H Q => rSetL o i v H Q ∨ ∃ a H', o = .ref a ∧ DPut H a i v H' ∧ Q H'
theorem set_x (hu : X.A.units + 1 < cLine) : PSet X rSetX := by
  intro pins s σ H o i v ov iv u Q I ro ri rv h
  rcases h with h | ⟨a, H', rfl, g, q⟩
  · exact set_list pins s σ H o i v ov iv u Q I ro ri rv h
  · cases ro
    exact d_setItem hu I g ri rv fun s' I' => ⟨H', I', q⟩
theorem setV_rel {M0 : Addr → Prop} {m : List Addr} {H : Hp} {st : Sto} {E : XK} {o i v : Va} {vo vi vv : V} {Q : Hp → Prop} (rh : RH C M0 m H st) (ro : RV C H (Mx M0 m) m vo o) (ri : RV C H (Mx M0 m) m vi i) (rv : RV C H (Mx M0 m) m vv v)
    (fin : FinG (fun _ _ _ _ => True) C M0 m H E (setV o i v st) (fun (_ : Unit) H => Q H)) : rSetX vo vi vv H Q := by
  unfold setV at fin
  split at fin
  · rename_i n
    cases ro with
    | @ref _ a hn =>
      have hm : a ∈ m := List.mem_of_getElem? hn
      split at fin
      · rename_i xs hx
        split at fin
        · rename_i k
          split at fin
          · rename_i j hj
            obtain ⟨b, hb, vs, hv, rs⟩ := rh.ob n _ hx
            rw [hn] at hb
            cases hb
            have g : Go m H m (upd H a (.lst (vs.set j vv))) := Go.write hm rh.mu
            exact .inl ⟨a, vs, k, j, rfl, ri.int_inv, hv, by rw [rs.len]; exact hj, fin () m _ g (rh.write hn trivial ⟨_, upd_same, (rs.set rv j).go g rh.mu⟩) trivial⟩
          · exact fin.elim
        · exact fin.elim
      · rename_i t kvs hx
        split at fin
        · rename_i k hk
          obtain ⟨hl, fin⟩ := Fin.ifGo fin
          obtain ⟨b, hb, ro⟩ := rh.ob n _ hx
          rw [hn] at hb
          cases hb
          obtain ⟨H', d, g, rh'⟩ := dput_rel rh hn ro ri rv hk hl
          exact .inr ⟨a, H', rfl, d, fin () m H' g rh' trivial⟩
        · exact fin.elim
      · exact fin.elim
  · exact fin.elim
def gSb (o i : CE) : CT := fun x ev st => (o ev st).bind fun y st1 => (i ev st1).bind fun z st2 => (setV y z x st2).bind fun _ st3 => .ok ev st3
theorem fg_sub {o i : Expr} {co ci : CE} (hu : X.A.units + 1 < cLine) (ho : PE X o (tE C W co)) (hi : PE X i (tE C W ci))
    (ha : ∀ v, assign (.Subscript o i pos) X.env v = (do
      let ov ← holding [v] (eval o X.env)
      let iv ← holding [v, ov] (eval i X.env)
      standAt pos
      holding [v, ov, iv] (setItem ov iv v)
      release [v, ov, iv] []) := by intro _; rfl) : PG X (.Subscript o i pos) (tTg C W (gSb co ci)) :=
  PG.imp (pg_sub ho hi (set_x hu) ha) fun v s H Q ⟨M0, m, ev, st, x, rh, re, rv, fin⟩ => by
    refine ⟨M0, m, ev, st, rh, re, (FinG.bind (R := relV C M0) fin).mono fun vo H1 ⟨m1, st1, y, g1, rh1, ro, fin1⟩ => ?_⟩
    have re1 := re.go g1 rh.mu
    refine ⟨M0, m1, ev, st1, rh1, re1, (FinG.bind (R := relV C M0) fin1).mono fun vi H2 ⟨m2, st2, z, g2, rh2, ri, fin2⟩ => ?_⟩
    have re2 := re1.go g2 rh1.mu
    refine setV_rel (E := WE W s) rh2 (ro.go g2 rh1.mu) ri ((rv.go g1 rh.mu).go g2 rh1.mu) ((FinG.bind (R := fun _ _ _ _ => True) fin2).mono fun _ H3 ⟨m3, st3, _, g3, rh3, _, fin3⟩ => ?_)
    exact FinG.out (R := relE C M0) fin3 rh3 (re2.go g3 rh2.mu)
/-! ### op= -/
def dAug (i : Nat) (f : Va → Va → Sto → Rs Va) (a : CE) : CS := fun ev st => match ev[i]? with
  | some (some x) => (a ev st).bind fun y st1 => (f x y st1).bind fun z st2 => .ok (.nx (ev.set i (some z))) st2
  | _ => .bad
theorem fs_aug {i : Nat} {x : Str} {op : Operator} {r : R2} {f : Va → Va → Sto → Rs Va} {pos' : Pos} (hN : X.N.Nodup) (hi : X.N[i]? = some x) (hx : Loc X.env.scope x) (he : PE X e (tE C W ce)) (ho : OpR X (inplaceOp op) r) (hs : OpS C r f) (hf : X.fn x = true ∨ X.env.scope.names.lookup x = some .local := by first | exact .inl rfl | exact .inr rfl | assumption) :
    PS X (.AugAssign (.Name x pos') op e pos) (tS C W (dAug i f ce)) :=
  PS.imp (ps_aug (ti := r) hN hi hx he (fun pins s σ H x y v u Q I r1 r2 h => ho pins s σ H x y v u Q I r1 r2 h) hf) fun D s H ⟨M0, m, ev, st, rh, re, fin⟩ => by
    unfold dAug at fin
    split at fin
    · rename_i x hx
      obtain ⟨v, hv, rv⟩ := re.vr i x hx
      refine ⟨v, hv, M0, m, ev, st, rh, re, (FinS.bind (R := relV C M0) fin).mono fun u H1 ⟨m1, st1, y, g1, rh1, ry, fin1⟩ => ?_⟩
      refine hs M0 m1 H1 st1 v u x y (WE W s) _ rh1 (rv.go g1 rh.mu) ry ((FinS.bind (R := relV C M0) fin1).mono fun w H2 ⟨m2, st2, z, g2, rh2, rz, fin2⟩ => ?_)
      exact fin2 _ m2 H2 (Go.refl _ _) rh2 (((re.go g1 rh.mu).go g2 rh1.mu).set i rz)
    · exact fin.elim
theorem get_x (hu : X.A.units + 1 < cLine) (hK : X.K = C.K) : PGet X (fun x y H Q => rIxL C.K x y H Q ∨ rIxDic x y H Q) := by
  rw [← hK]
  intro pins s σ H x y v u Q I rx ry h
  rcases h with h | ⟨a, w, rfl, g, q⟩
  · obtain ⟨p, xs, i, z, rfl, rfl, hq, he, q⟩ := h
    cases rx
    obtain ⟨t, rfl⟩ := ry
    obtain ⟨its, r, pl, hz⟩ := I.list hq
    obtain ⟨j, h1, h2, h3, h4, h5⟩ := atI_get he
    obtain ⟨w, ew, rw'⟩ := r.get h2
    have hl := r.length
    have hn := line63
    have fin : EP X pins σ Q w s := ⟨z, H, I, rw', q⟩
    by_cases h0 : 0 ≤ i
    · have hj : i.toNat = j := by
        rw [seqIndex_of h0 h5] at h1
        exact Option.some.inj h1
      exact wpAny_getItem_list pl.isList h0 (by omega) (by rw [hj]; simpa using ew) fin
    · have hj : (i + (its.toArray.size : Int)).toNat = j := by
        rw [seqIndex_neg (by omega) h4] at h1
        rw [List.size_toArray, ← hl]
        exact Option.some.inj h1
      exact wpAny_getItem_list_neg pl.isList (by omega) (by rw [List.size_toArray] <;> omega) (by omega) (by rw [hj]; simpa using ew) fin
  · cases rx
    exact d_getItem hu I g ry fun w' s' I' r' => ⟨w, H, I', r', q⟩
end
end Sk

/-! Sk, part 10: loops, comprehensions. -/
namespace Sk
open PySem PySem.Spec PyProof.Rows L2
section
variable {X : Cx} {C : Cfg} {W : WX} {pos : Pos} {e c : Expr} {ce : CE} {cc : CB}
/-! ### o[i] op= e -/
def getR (x y : Va) (st : Sto) : Rs Va := match x with
  | .ref _ => ixV x y st
  | _ => .bad
theorem os_getR : OpS C (fun x y H Q => rIxL C.K x y H Q ∨ rIxDic x y H Q) getR := by
  intro M0 m H st v u x y E Q rh rx ry fin
  unfold getR at fin
  split at fin
  · rename_i n
    unfold ixV at fin
    split at fin
    · rename_i t xs hs
      obtain ⟨a, vs, rfl, rs, sq⟩ := seqOf_rel rh rx hs
      split at fin
      · rename_i i
        split at fin
        · rename_i z hz
          obtain ⟨w, hw, rw'⟩ := rs.atI hz
          have q := FinG.out (R := relV C M0) fin rh rw'
          have et : t = false := by
            have e' : (match st[n]? with | some (some (.lst xs)) => some (false, xs) | _ => none) = some (t, xs) := hs
            split at e'
            · cases e'; rfl
            · cases e'
          subst et
          exact .inl ⟨a, vs, i, w, rfl, ry.int_inv, sq, hw, q⟩
        · exact fin.elim
      · exact fin.elim
    · split at fin
      · rename_i hz
        exact nomatch hz
      · split at fin
        · rename_i t kvs hd
          obtain ⟨n, a, _, rfl, hn, _, ro⟩ := dic_at rh rx hd
          split at fin
          · rename_i k hk
            obtain ⟨o, g, h | ⟨w, z, h1, h2, h3⟩⟩ := dget_rel ro ry hk
            · rw [h.2] at fin; exact fin.elim
            · rw [h2] at fin
              subst h1
              exact .inr ⟨a, w, rfl, g, FinG.out (R := relV C M0) fin rh h3⟩
          · exact fin.elim
        · exact fin.elim
  · exact fin.elim
def dAugS (f : Va → Va → Sto → Rs Va) (o i a : CE) : CS := fun ev st => (o ev st).bind fun y st1 => (i ev st1).bind fun z st2 => (getR y z st2).bind fun w st3 => (a ev st3).bind fun u st4 => (f w u st4).bind fun r st5 => (setV y z r st5).bind fun _ st6 => .ok (.nx ev) st6
theorem fs_augS {o i : Expr} {co ci : CE} {op : Operator} {r : R2} {f : Va → Va → Sto → Rs Va} {tpos : Pos} (hu : X.A.units + 1 < cLine) (hK : X.K = C.K) (ho : PE X o (tE C W co)) (hi : PE X i (tE C W ci)) (he : PE X e (tE C W ce)) (hp : OpR X (inplaceOp op) r) (hs : OpS C r f)
    (ha : ∀ ov iv new, augStore i ov iv new = (do holding [new, ov, iv] (setItem ov iv new); release [new, ov, iv] []; pure .next) := by intros; rfl) : PS X (.AugAssign (.Subscript o i tpos) op e pos) (tS C W (dAugS f co ci ce)) :=
  PS.imp (ps_augS (tip := r) ho hi (get_x hu hK) he (fun pins s σ H x y v u Q I r1 r2 h => hp pins s σ H x y v u Q I r1 r2 h) (set_x hu) ha) fun D s H ⟨M0, m, ev, st, rh, re, fin⟩ => by
    refine ⟨M0, m, ev, st, rh, re, (FinS.bind (R := relV C M0) fin).mono fun vo H1 ⟨m1, st1, y, g1, rh1, ro, fin1⟩ => ?_⟩
    have re1 := re.go g1 rh.mu
    refine ⟨M0, m1, ev, st1, rh1, re1, (FinS.bind (R := relV C M0) fin1).mono fun vi H2 ⟨m2, st2, z, g2, rh2, ri, fin2⟩ => ?_⟩
    have re2 := re1.go g2 rh1.mu
    have ro2 := ro.go g2 rh1.mu
    refine os_getR M0 m2 H2 st2 vo vi y z (WE W s) _ rh2 ro2 ri ((FinS.bind (R := relV C M0) fin2).mono fun w H3 ⟨m3, st3, x3, g3, rh3, r3, fin3⟩ => ?_)
    have re3 := re2.go g3 rh2.mu
    refine ⟨M0, m3, ev, st3, rh3, re3, (FinS.bind (R := relV C M0) fin3).mono fun u H4 ⟨m4, st4, x4, g4, rh4, r4, fin4⟩ => ?_⟩
    have re4 := re3.go g4 rh3.mu
    refine hs M0 m4 H4 st4 w u x3 x4 (WE W s) _ rh4 (r3.go g4 rh3.mu) r4 ((FinS.bind (R := relV C M0) fin4).mono fun q H5 ⟨m5, st5, x5, g5, rh5, r5, fin5⟩ => ?_)
    have re5 := re4.go g5 rh4.mu
    have up : ∀ {v : V} {x : Va}, RV C H2 (Mx M0 m2) m2 v x → RV C H5 (Mx M0 m5) m5 v x := fun h => ((h.go g3 rh2.mu).go g4 rh3.mu).go g5 rh4.mu
    refine setV_rel (E := WE W s) rh5 (up ro2) (up ri) r5 ((FinS.bind (R := fun _ _ _ _ => True) fin5).mono fun _ H6 ⟨m6, st6, _, g6, rh6, _, fin6⟩ => ?_)
    exact fin6 s m6 H6 (Go.refl _ _) rh6 (re5.go g6 rh5.mu)

/-! ### while -/
def whileS (c : CB) (b : CS) : Nat → CS
  | 0 => fun _ _ => .bad
  | n + 1 => fun ev st => (c ev st).bind fun k st1 => if k = true then (match b ev st1 with
      | .ok (.nx ev1) st2 => whileS c b n ev1 st2
      | .ok (.ct ev1) st2 => whileS c b n ev1 st2
      | .ok (.bk ev1) st2 => .ok (.nx ev1) st2
      | .ok (.rt x) st2 => .ok (.rt x) st2
      | .err x st2 => .err x st2
      | .bad => .bad) else .ok (.nx ev) st1
theorem fs_while {body : List Stmt} {b : CS} (n : Nat) (hp : PassesOwn (model X.prog X.w) X.A X.env X.xe) (hc : PT X c (tT C W cc)) (hb : PSs X body (tS C W b)) : PS X (.While c body [] pos) (tS C W (whileS cc b n)) :=
  PS.imp (ps_while hp hc hb) fun D s H ⟨M0, m, ev, st, rh, re, fin⟩ => by
    refine ⟨fun k s' H' => ∃ m' ev' st', RH C M0 m' H' st' ∧ RE C H' M0 m' s' ev' ∧ FinS C M0 m' H' W (whileS cc b k ev' st') D, ⟨n, m, ev, st, rh, re, fin⟩, ?_⟩
    rintro k s' H' ⟨m', ev', st', rh', re', fin'⟩
    cases k with
    | zero => exact fin'.elim
    | succ k =>
      refine ⟨M0, m', ev', st', rh', re', (FinS.bind (R := relB) (s := s') fin').mono fun y H1 ⟨m1, st1, x, g, rh1, rx, fin1⟩ => ?_⟩
      have e0 : y = x := rx
      subst e0
      have re1 := re'.go g rh'.mu
      cases y with
      | false => exact ite_ff (fin1 s' m1 H1 (Go.refl _ _) rh1 re1)
      | true =>
        refine ite_tt ⟨fun s2 H2 => ∃ m2 ev2 st2, RH C M0 m2 H2 st2 ∧ RE C H2 M0 m2 s2 ev2 ∧ FinS C M0 m2 H2 W (whileS cc b k ev2 st2) D, fun s2 H2 h => ⟨k, Nat.lt_succ_self k, h⟩, M0, m1, ev', st1, rh1, re1, ?_⟩
        have fin1 : FinS C M0 m1 H1 W (match b ev' st1 with
          | .ok (.nx ev1) st2 => whileS cc b k ev1 st2
          | .ok (.ct ev1) st2 => whileS cc b k ev1 st2
          | .ok (.bk ev1) st2 => .ok (.nx ev1) st2
          | .ok (.rt x) st2 => .ok (.rt x) st2
          | .err x st2 => .err x st2
          | .bad => .bad) D := fin1
        cases hb : b ev' st1 with
        | ok f st2 =>
          rw [hb] at fin1
          cases f with
          | nx ev2 => exact fun s2 m2 H2 g2 rh2 re2 => ⟨m2, ev2, st2, rh2, re2, FinS.rebase fin1 g2⟩
          | ct ev2 => exact fun s2 m2 H2 g2 rh2 re2 => ⟨m2, ev2, st2, rh2, re2, FinS.rebase fin1 g2⟩
          | bk ev2 => exact fin1
          | rt x => exact fin1
        | err x st2 => rw [hb] at fin1; exact fin1
        | bad => rw [hb] at fin1; exact fin1

/-! ### what is walked -/
/-- a list of the store that must stay while it is walked -/
abbrev Lk := Option (Nat × List Va)
def lkOk (l : Lk) (st : Sto) : Bool := match l with
  | none => true
  | some (n, xs) => decide (st[n]? = some (some (.lst xs)))
@[simp] theorem lkOk_none (st : Sto) : lkOk none st = true := rfl
abbrev CI := Ev → Sto → Rs (List Va × Lk)
/-- the items of a walk: at any later state, whatever else is protected then -/
def ItRel (C : Cfg) (M0 : Addr → Prop) (H0 : Hp) (m0 : List Addr) (J : It) (p : List Va × Lk) : Prop :=
  ∀ (M1 : Addr → Prop) (m : List Addr) (H : Hp) (st : Sto), Go m0 H0 m H → (∀ a, M1 a → M0 a ∨ H0 a = none) → RH C M1 m H st → lkOk p.2 st = true → ∀ i : Nat,
    (i < p.1.length → J.go i H ∧ ∀ x H', J.yld i H x H' → Same H H' ∧ ∃ y, p.1[i]? = some y ∧ RV C H' (Mx M1 m) m x y) ∧ (p.1.length ≤ i → J.stop i H)
abbrev relI (C : Cfg) (M0 : Addr → Prop) : Hp → List Addr → It → List Va × Lk → Prop := fun H m J p => ItRel C M0 H m J p
abbrev tI (C : Cfg) (W : WX) (c : CI) : TI := tG relI C W c
theorem PI.imp {tg it : Expr} {t t' : TI} (h : PI X tg it t) (i : ∀ s H Q, t' s H Q → t s H Q) : PI X tg it t' := ⟨fun pins s σ H R I q => h.run pins s σ H R I (i _ _ _ q)⟩
def forS (l : Lk) (b : Va → Ev → Sto → Rs Fl) : List Va → CS
  | [] => fun ev st => if lkOk l st = true then .ok (.nx ev) st else .bad
  | x :: r => fun ev st => if lkOk l st = true then (match b x ev st with
      | .ok (.nx ev1) st1 => forS l b r ev1 st1
      | .ok (.ct ev1) st1 => forS l b r ev1 st1
      | .ok (.bk ev1) st1 => .ok (.nx ev1) st1
      | .ok (.rt x) st1 => .ok (.rt x) st1
      | .err x st1 => .err x st1
      | .bad => .bad) else .bad
def dTurn (t : CT) (b : CS) (x : Va) : CS := fun ev st => (t x ev st).bind fun ev1 st1 => b ev1 st1
def dFor (it : CI) (t : CT) (b : CS) : CS := fun ev st => (it ev st).bind fun p st1 => forS p.2 (dTurn t b) p.1 ev st1
theorem FinS.ifGo {M0 : Addr → Prop} {m : List Addr} {H : Hp} {D : Ends} {k : Bool} {r : Rs Fl} (h : FinS C M0 m H W (if k = true then r else .bad) D) : k = true ∧ FinS C M0 m H W r D := by
  cases k with
  | true => exact ⟨rfl, h⟩
  | false => exact h.elim
theorem fs_for {tg iter : Expr} {body : List Stmt} {it : CI} {t : CT} {b : CS} (hW : Flat W) (hp : PassesOwn (model X.prog X.w) X.A X.env X.xe) (hc : X.calm = true) (hi : PI X tg iter (tI C W it)) (hg : PG X tg (tTg C W t)) (hb : PSs X body (tS C W b))
    (hs : ∀ x, foldedSetIterable iter X.env x = pure x := by intro _; rfl) : PS X (.For tg iter body [] pos) (tS C W (dFor it t b)) :=
  PS.imp (ps_for hp hc hi hg hb hs) fun D s H h => tS.bind (R := relI) (k := fun p ev st1 => forS p.2 (dTurn t b) p.1 ev st1) h fun M0 m ev st p J H1 rh re rj fin => by
    obtain ⟨items, l⟩ := p
    refine ⟨fun i k s' H' => k = items.length - i ∧ i ≤ items.length ∧ ∃ m' ev' st', Go m H1 m' H' ∧ RH C M0 m' H' st' ∧ RE C H' M0 m' s' ev' ∧ FinS C M0 m' H' W (forS l (dTurn t b) (items.drop i) ev' st') D,
      ⟨items.length, rfl, Nat.zero_le _, m, ev, st, Go.refl _ _, rh, re, fin⟩, ?_⟩
    rintro i k s' H' ⟨rfl, hi, m', ev', st', g', rh', re', fin'⟩
    by_cases hlt : i < items.length
    · rw [List.drop_eq_getElem_cons hlt] at fin'
      obtain ⟨hl, fin'⟩ := FinS.ifGo (show FinS C M0 m' H' W (if lkOk l st' = true then _ else .bad) D from fin')
      obtain ⟨go, yld⟩ := (rj M0 m' H' st' g' (fun a h => .inl h) rh' hl i).1 hlt
      refine .inr ⟨go, fun s2 H2 => ∃ m2 ev2 st2, Go m H1 m2 H2 ∧ RH C M0 m2 H2 st2 ∧ RE C H2 M0 m2 s2 ev2 ∧ FinS C M0 m2 H2 W (forS l (dTurn t b) (items.drop (i + 1)) ev2 st2) D, fun s2 H2 h => ⟨items.length - (i + 1), by omega, rfl, hlt, h⟩, fun x H3 hy => ?_⟩
      obtain ⟨sm, y, ey, ry⟩ := yld x H3 hy
      rw [List.getElem?_eq_getElem hlt] at ey
      cases ey
      have g3 : Go m' H' m' H3 := Go.same sm
      have rh3 := rh'.same sm
      have re3 := re'.go g3 rh'.mu
      refine ⟨M0, m', ev', st', items[i], rh3, re3, ry, ?_⟩
      have fin3 := FinS.rebase fin' g3
      clear fin'
      unfold dTurn at fin3
      cases ht : t items[i] ev' st' with
      | bad => rw [ht] at fin3; exact fin3.elim
      | err x st2 => rw [ht] at fin3; exact fun c d m4 H4 g4 rh4 q => fin3 s' c d m4 H4 g4 rh4 q
      | ok ev2 st2 =>
        rw [ht] at fin3
        intro s4 m4 H4 g4 rh4 re4
        refine ⟨M0, m4, ev2, st2, rh4, re4, ?_⟩
        have fin4 := FinS.rebase fin3 g4
        clear fin3
        have gg : Go m H1 m4 H4 := (g'.trans g3).trans g4
        cases hb : b ev2 st2 with
        | bad => simp only [Rs.bind_ok, hb] at fin4; exact fin4
        | err x st5 => simp only [Rs.bind_ok, hb] at fin4; exact fin4
        | ok f st5 =>
          simp only [Rs.bind_ok, hb] at fin4
          cases f with
          | nx ev5 => exact fun s5 m5 H5 g5 rh5 re5 => ⟨m5, ev5, st5, gg.trans g5, rh5, re5, FinS.rebase fin4 g5⟩
          | ct ev5 => exact fun s5 m5 H5 g5 rh5 re5 => ⟨m5, ev5, st5, gg.trans g5, rh5, re5, FinS.rebase fin4 g5⟩
          | bk ev5 => exact fin4
          | rt x => exact fin4
    · have ei : i = items.length := by omega
      subst ei
      rw [List.drop_length] at fin'
      obtain ⟨hl, fin'⟩ := FinS.ifGo (show FinS C M0 m' H' W (if lkOk l st' = true then _ else .bad) D from fin')
      exact .inl ⟨(rj M0 m' H' st' g' (fun a h => .inl h) rh' hl items.length).2 (Nat.le_refl _), fin' s' m' H' (Go.refl _ _) rh' re'⟩
end
end Sk

/-! Sk, part 11: sources of walks, comprehensions. -/
namespace Sk
open PySem PySem.Spec PyProof.Rows L2
/-! ### a later state in which more may be protected -/
section
variable {C : Cfg} {M0 M1 : Addr → Prop} {m m' : List Addr} {H H' : Hp}
theorem Go.nmxM (g : Go m H m' H') (hM : ∀ a, M1 a → M0 a ∨ H a = none) {a : Addr} {o : HO} (h : H a = some o) (n : ¬ Mx M0 m a) : ¬ Mx M1 m' a := fun z => by
  rcases z with z | z
  · rcases hM a z with y | y
    · exact n (.inl y)
    · rw [h] at y; cases y
  · have q := g.nw a z fun y => n (.inr y)
    rw [h] at q
    cases q
mutual
theorem RD.goM {K : PySem.W.Frag} (g : Go m H m' H') (mu : MutO H m) (hM : ∀ a, M1 a → M0 a ∨ H a = none) : ∀ {v : V} {d : PyData}, RD K H (Mx M0 m) v d → RD K H' (Mx M1 m') v d
  | _, _, .non => .non
  | _, _, .bl b => .bl b
  | _, _, .int i => .int i
  | _, _, .str x => .str x
  | _, _, .lst h n r => .lst (g.kp _ _ h (fun z => n (.inr z)) fun ps e => nomatch e) (g.nmxM hM h n) (RDs.goM g mu hM r)
  | _, _, .tup h r => .tup (g.tup mu h) (RDs.goM g mu hM r)
theorem RDs.goM {K : PySem.W.Frag} (g : Go m H m' H') (mu : MutO H m) (hM : ∀ a, M1 a → M0 a ∨ H a = none) : ∀ {vs : List V} {ds : List PyData}, RDs K H (Mx M0 m) vs ds → RDs K H' (Mx M1 m') vs ds
  | _, _, .nil => .nil
  | _, _, .cons a b => .cons (RD.goM g mu hM a) (RDs.goM g mu hM b)
end
mutual
theorem RV.goM (g : Go m H m' H') (mu : MutO H m) (hM : ∀ a, M1 a → M0 a ∨ H a = none) : ∀ {v : V} {x : Va}, RV C H (Mx M0 m) m v x → RV C H' (Mx M1 m') m' v x
  | _, _, .dat h => .dat (h.goM g mu hM)
  | _, _, .ref h => .ref (g.mem h)
  | _, _, .lst h n r => .lst (g.kp _ _ h (fun z => n (.inr z)) fun ps e => nomatch e) (g.nmxM hM h n) (RVs.goM g mu hM r)
  | _, _, .frz h r => .frz (g.sqf mu h) (RVs.goM g mu hM r)
  | _, _, .tup h r => .tup (g.sqt mu h) (RVs.goM g mu hM r)
  | _, _, .fn h => .fn h
theorem RVs.goM (g : Go m H m' H') (mu : MutO H m) (hM : ∀ a, M1 a → M0 a ∨ H a = none) : ∀ {vs : List V} {xs : List Va}, RVs C H (Mx M0 m) m vs xs → RVs C H' (Mx M1 m') m' vs xs
  | _, _, .nil => .nil
  | _, _, .cons a b => .cons (RV.goM g mu hM a) (RVs.goM g mu hM b)
end
theorem RE.goM {s : L2.St} {ev : Ev} (r : RE C H M0 m s ev) (g : Go m H m' H') (mu : MutO H m) (hM : ∀ a, M1 a → M0 a ∨ H a = none) : RE C H' M1 m' s ev := ⟨r.len, fun i x h => let ⟨v, e, q⟩ := r.vr i x h; ⟨v, e, q.goM g mu hM⟩⟩
theorem RO.goM {a : Addr} {o : Ob} (h : RO C H (Mx M0 m) m a o) (g : Go m H m' H') (mu : MutO H m) (hM : ∀ a, M1 a → M0 a ∨ H a = none) (e : H' a = H a) : RO C H' (Mx M1 m') m' a o := by
  cases o with
  | lst xs => obtain ⟨vs, q, r⟩ := h; exact ⟨vs, e.trans q, r.goM g mu hM⟩
  | dic t kvs =>
    cases t with
    | false => obtain ⟨ks, q, r⟩ := h; exact ⟨ks, e.trans q, Paired.mapP r fun _ _ z => ⟨z.1, z.2.goM g mu hM⟩⟩
    | true => obtain ⟨ks, q, r⟩ := h; exact ⟨ks, e.trans q, Paired.mapP r fun _ _ z => ⟨z.1, z.2.goM g mu hM⟩⟩
  | ins c fs => obtain ⟨A, dx, gs, ha, q, r⟩ := h; exact ⟨A, dx, gs, ha, e.trans q, Paired.mapP r fun _ _ z => ⟨z.1, z.2.goM g mu hM⟩⟩
/-- D is new and from now on protected -/
abbrev Pr (M0 : Addr → Prop) (D : Addr) : Addr → Prop := fun a => M0 a ∨ a = D
theorem RH.prot {st : Sto} (r : RH C M0 m H st) {D : Addr} {o : HO} (h : H D = none) : RH C (Pr M0 D) m (upd H D o) st := by
  have sm := same_new (o := o) h
  have hM : ∀ a, Pr M0 D a → M0 a ∨ H a = none := fun a z => z.elim .inl fun e => .inr (by rw [e]; exact h)
  refine ⟨fun a z => ?_, r.len, r.nd, fun a ha z => ?_, fun a ha => ?_, fun n ob hn => ?_, fun p hp => (r.tb p hp).same sm, fun p hp => (r.hd p hp).goM (Go.same sm) r.mu hM, fun p hp => ⟨sm _ _ (r.ko p hp).1, (r.ko p hp).2⟩⟩
  · rcases z with z | z
    · obtain ⟨u, q⟩ := r.m0 a z
      exact ⟨u, sm _ _ q⟩
    · rw [z]; exact ⟨o, upd_same⟩
  · rcases z with z | z
    · exact r.dj a ha z
    · obtain ⟨u, q, _⟩ := r.mu a ha
      rw [z, h] at q; cases q
  · obtain ⟨u, q, w⟩ := r.mu a ha
    exact ⟨u, sm _ _ q, w⟩
  · obtain ⟨a, ha, ro⟩ := r.ob n ob hn
    obtain ⟨u, hu, _⟩ := ro.mut
    exact ⟨a, ha, ro.goM (Go.same sm) r.mu hM ((sm _ _ hu).trans hu.symm)⟩
mutual
theorem RD.less {K : PySem.W.Frag} {M M' : Addr → Prop} (h : ∀ a, M a → M' a) : ∀ {v : V} {d : PyData}, RD K H M' v d → RD K H M v d
  | _, _, .non => .non
  | _, _, .bl b => .bl b
  | _, _, .int i => .int i
  | _, _, .str x => .str x
  | _, _, .lst e n r => .lst e (fun z => n (h _ z)) (RDs.less h r)
  | _, _, .tup e r => .tup e (RDs.less h r)
theorem RDs.less {K : PySem.W.Frag} {M M' : Addr → Prop} (h : ∀ a, M a → M' a) : ∀ {vs : List V} {ds : List PyData}, RDs K H M' vs ds → RDs K H M vs ds
  | _, _, .nil => .nil
  | _, _, .cons a b => .cons (RD.less h a) (RDs.less h b)
end
mutual
theorem RV.less {M M' : Addr → Prop} (h : ∀ a, M a → M' a) : ∀ {v : V} {x : Va}, RV C H M' m v x → RV C H M m v x
  | _, _, .dat r => .dat (r.less h)
  | _, _, .ref e => .ref e
  | _, _, .lst e n r => .lst e (fun z => n (h _ z)) (RVs.less h r)
  | _, _, .frz e r => .frz e (RVs.less h r)
  | _, _, .tup e r => .tup e (RVs.less h r)
  | _, _, .fn e => .fn e
theorem RVs.less {M M' : Addr → Prop} (h : ∀ a, M a → M' a) : ∀ {vs : List V} {xs : List Va}, RVs C H M' m vs xs → RVs C H M m vs xs
  | _, _, .nil => .nil
  | _, _, .cons a b => .cons (RV.less h a) (RVs.less h b)
end
theorem RO.less {M M' : Addr → Prop} (h : ∀ a, M a → M' a) {a : Addr} {o : Ob} (r : RO C H M' m a o) : RO C H M m a o := by
  cases o with
  | lst xs => obtain ⟨vs, q, r⟩ := r; exact ⟨vs, q, r.less h⟩
  | dic t kvs =>
    cases t with
    | false => obtain ⟨ks, q, r⟩ := r; exact ⟨ks, q, Paired.mapP r fun _ _ z => ⟨z.1, z.2.less h⟩⟩
    | true => obtain ⟨ks, q, r⟩ := r; exact ⟨ks, q, Paired.mapP r fun _ _ z => ⟨z.1, z.2.less h⟩⟩
  | ins c fs => obtain ⟨A, dx, gs, ha, q, r⟩ := r; exact ⟨A, dx, gs, ha, q, Paired.mapP r fun _ _ z => ⟨z.1, z.2.less h⟩⟩
theorem RH.less {st : Sto} (r : RH C M1 m H st) (h : ∀ a, M0 a → M1 a) : RH C M0 m H st :=
  ⟨fun a z => r.m0 a (h a z), r.len, r.nd, fun a ha z => r.dj a ha (h a z), r.mu, fun n o hn => let ⟨a, ha, ro⟩ := r.ob n o hn; ⟨a, ha, ro.less fun b z => z.elim (fun y => .inl (h b y)) .inr⟩, r.tb, fun p hp => (r.hd p hp).less fun b z => z.elim (fun y => .inl (h b y)) .inr, r.ko⟩
theorem mx_less (h : ∀ a, M0 a → M1 a) : ∀ a, Mx M0 m a → Mx M1 m a := fun a z => z.elim (fun y => .inl (h a y)) .inr
end
/-! ### the protected list at D is written -/
section
variable {C : Cfg} {M : Addr → Prop} {m : List Addr} {H : Hp} {D : Addr} {acc : List V} {o : HO}
theorem ne_of_prot {a : Addr} (n : ¬ M a) (hM : M D) : a ≠ D := fun e => n (e ▸ hM)
mutual
theorem RD.putD {K : PySem.W.Frag} (hD : H D = some (.lst acc)) (hM : M D) : ∀ {v : V} {d : PyData}, RD K H M v d → RD K (upd H D o) M v d
  | _, _, .non => .non
  | _, _, .bl b => .bl b
  | _, _, .int i => .int i
  | _, _, .str x => .str x
  | _, _, .lst h n r => .lst ((upd_ne (ne_of_prot n hM)).trans h) n (RDs.putD hD hM r)
  | _, _, .tup h r => .tup ((upd_ne (ne_of h hD fun z => nomatch z)).trans h) (RDs.putD hD hM r)
theorem RDs.putD {K : PySem.W.Frag} (hD : H D = some (.lst acc)) (hM : M D) : ∀ {vs : List V} {ds : List PyData}, RDs K H M vs ds → RDs K (upd H D o) M vs ds
  | _, _, .nil => .nil
  | _, _, .cons a b => .cons (RD.putD hD hM a) (RDs.putD hD hM b)
end
theorem sqt_putD {K : PySem.W.Frag} {a : Addr} {vs : List V} (hD : H D = some (.lst acc)) (h : SqT K H a vs) : SqT K (upd H D o) a vs := by
  rcases h with (h | ⟨ob, h⟩) | h
  · exact .inl (.inl ((upd_ne (ne_of h hD fun z => nomatch z)).trans h))
  · exact .inl (.inr ⟨ob, (upd_ne (ne_of h hD fun z => nomatch z)).trans h⟩)
  · exact .inr h
theorem sqf_putD {K : PySem.W.Frag} {a : Addr} {vs : List V} (hD : H D = some (.lst acc)) (h : SqF K H a vs) : SqF K (upd H D o) a vs := by
  rcases h with ⟨ob, h⟩ | h
  · exact .inl ⟨ob, (upd_ne (ne_of h hD fun z => nomatch z)).trans h⟩
  · exact .inr h
mutual
theorem RV.putD (hD : H D = some (.lst acc)) (hM : M D) : ∀ {v : V} {x : Va}, RV C H M m v x → RV C (upd H D o) M m v x
  | _, _, .dat r => .dat (r.putD hD hM)
  | _, _, .ref e => .ref e
  | _, _, .lst h n r => .lst ((upd_ne (ne_of_prot n hM)).trans h) n (RVs.putD hD hM r)
  | _, _, .frz h r => .frz (sqf_putD hD h) (RVs.putD hD hM r)
  | _, _, .tup h r => .tup (sqt_putD hD h) (RVs.putD hD hM r)
  | _, _, .fn e => .fn e
theorem RVs.putD (hD : H D = some (.lst acc)) (hM : M D) : ∀ {vs : List V} {xs : List Va}, RVs C H M m vs xs → RVs C (upd H D o) M m vs xs
  | _, _, .nil => .nil
  | _, _, .cons a b => .cons (RV.putD hD hM a) (RVs.putD hD hM b)
end
theorem RO.putD {a : Addr} {ob : Ob} (hD : H D = some (.lst acc)) (hM : M D) (na : a ≠ D) (r : RO C H M m a ob) : RO C (upd H D o) M m a ob := by
  cases ob with
  | lst xs => obtain ⟨vs, q, r⟩ := r; exact ⟨vs, (upd_ne na).trans q, r.putD hD hM⟩
  | dic t kvs =>
    cases t with
    | false => obtain ⟨ks, q, r⟩ := r; exact ⟨ks, (upd_ne na).trans q, Paired.mapP r fun _ _ z => ⟨z.1, z.2.putD hD hM⟩⟩
    | true => obtain ⟨ks, q, r⟩ := r; exact ⟨ks, (upd_ne na).trans q, Paired.mapP r fun _ _ z => ⟨z.1, z.2.putD hD hM⟩⟩
  | ins c fs => obtain ⟨A, dx, gs, ha, q, r⟩ := r; exact ⟨A, dx, gs, ha, (upd_ne na).trans q, Paired.mapP r fun _ _ z => ⟨z.1, z.2.putD hD hM⟩⟩
theorem RH.putD {M1 : Addr → Prop} {st : Sto} (r : RH C M1 m H st) (hD : H D = some (.lst acc)) (hM : M1 D) : RH C M1 m (upd H D o) st := by
  have nm : ∀ a ∈ m, a ≠ D := fun a ha e => r.dj a ha (e ▸ hM)
  refine ⟨fun a z => ?_, r.len, r.nd, r.dj, fun a ha => ?_, fun n ob hn => ?_, fun p hp => ?_, fun p hp => (r.hd p hp).putD hD (.inl hM), fun p hp => ⟨(upd_ne (ne_of (r.ko p hp).1 hD fun z => (r.ko p hp).2.2 (by rw [z]; trivial))).trans (r.ko p hp).1, (r.ko p hp).2⟩⟩
  · by_cases e : a = D
    · rw [e]; exact ⟨o, upd_same⟩
    · obtain ⟨u, q⟩ := r.m0 a z
      exact ⟨u, (upd_ne e).trans q⟩
  · obtain ⟨u, q, w⟩ := r.mu a ha
    exact ⟨u, (upd_ne (nm a ha)).trans q, w⟩
  · obtain ⟨a, ha, ro⟩ := r.ob n ob hn
    exact ⟨a, ha, ro.putD hD (.inl hM) (nm a (List.mem_of_getElem? ha))⟩
  · obtain ⟨ps, h1, h2, h3⟩ := r.tb p hp
    refine ⟨ps, (upd_ne (ne_of h1 hD fun z => nomatch z)).trans h1, h2, fun q hq pos cv hc => ?_⟩
    obtain ⟨c, e1, e2⟩ := h3 q hq pos cv hc
    exact ⟨c, e1, (upd_ne (ne_of e2 hD fun z => nomatch z)).trans e2⟩
theorem RE.putD {M1 : Addr → Prop} {s : L2.St} {ev : Ev} (r : RE C H M1 m s ev) (hD : H D = some (.lst acc)) (hM : M1 D) : RE C (upd H D o) M1 m s ev := ⟨r.len, fun i x h => let ⟨v, e, q⟩ := r.vr i x h; ⟨v, e, q.putD hD (.inl hM)⟩⟩
end

/-! ### sources -/
section
variable {X : Cx} {C : Cfg} {W : WX} {tg l : Expr} {cl : CE}
def iSeq (K : PySem.W.Frag) (tl : TE) : TI := fun s H R => tl s H fun x H1 => ∃ a, x = .ref a ∧ (((∃ xs, SqL K H1 a xs) ∧ R (Itl K a) H1) ∨ ((∃ xs, SqT K H1 a xs) ∧ R (Itt K a) H1))
theorem pi_seq {tl : TE} (hl : PE X l tl) : PI X tg l (iSeq X.K tl) := by
  refine ⟨fun pins s σ H R I h => thn (hl.run pins s σ H _ I h) fun v s1 ⟨x, H1, I1, r1, q1⟩ => ?_⟩
  obtain ⟨a, e, q1⟩ := q1
  subst e
  cases r1
  have fp : ∀ b ∈ [s1.heap.objs.size], FpOk X pins H1 b := fun b hb => by
    have e : b = s1.heap.objs.size := by simpa using hb
    rw [e]
    exact I1.fpOk (Nat.le_refl _) (I1.hok.fresh (Nat.le_refl _))
  rcases q1 with ⟨⟨xs, hq⟩, q⟩ | ⟨⟨xs, hq⟩, q⟩
  · obtain ⟨its, rv, p, hz⟩ := I1.list hq
    refine wpAny_pyIter_list p.isList ?_
    exact ⟨_, _, _, _, H1, rfl, I1.kept (t' := s1.toks) (fun b o e => Heap.get?_push_of_some _ e), turn_list a s1.heap.objs.size, ⟨_, Heap.get?_push_size _ rfl, rfl, rfl⟩, fp, q⟩
  · obtain ⟨its, rv, p, hz⟩ := I1.tuple hq
    refine wpAny_pyIter_tuple (show s1.heap.IsTuple a its.toArray from p) ?_
    exact ⟨_, _, _, _, H1, rfl, I1.kept (t' := s1.toks) (fun b o e => Heap.get?_push_of_some _ e), turn_tuple a s1.heap.objs.size, ⟨_, Heap.get?_push_size _ rfl, rfl, rfl⟩, fp, q⟩
def lockOf (x : Va) (xs : List Va) : Lk := match x with
  | .ref n => some (n, xs)
  | _ => none
@[simp] theorem lockOf_dat (d : PyData) (xs : List Va) : lockOf (.dat d) xs = none := rfl
@[simp] theorem lockOf_seq (t : Bool) (ys : List Va) (xs : List Va) : lockOf (.seq t ys) xs = none := rfl
def itemsV (x : Va) (st : Sto) : Rs (List Va × Lk) := match seqOf st x with
  | some (_, xs) => .ok (xs, lockOf x xs) st
  | none => .bad
theorem seq_later {st st1 : Sto} {x : Va} {t : Bool} {xs : List Va} (e : seqOf st x = some (t, xs)) (h : lkOk (lockOf x xs) st1 = true) : seqOf st1 x = some (t, xs) := by
  cases x with
  | dat d => cases d <;> exact e
  | seq t ys => exact e
  | fn n => exact e
  | ref n =>
    have et : t = false := by
      have e' : (match st[n]? with | some (some (.lst xs)) => some (false, xs) | _ => none) = some (t, xs) := e
      split at e'
      · cases e'; rfl
      · cases e'
    subst et
    exact seqOf_ref (of_decide_eq_true h)
theorem it_seq {M0 : Addr → Prop} {m : List Addr} {H : Hp} {st : Sto} {x : Va} {t : Bool} {xs : List Va} {a : Addr} (rh : RH C M0 m H st) (rv : RV C H (Mx M0 m) m (.ref a) x) (e : seqOf st x = some (t, xs)) :
    ItRel C M0 H m (if t = true then Itt C.K a else Itl C.K a) (xs, lockOf x xs) := by
  intro M1 m1 H1 st1 g hM rh1 hl i
  obtain ⟨b, vs, eb, rs, sq⟩ := seqOf_rel rh1 (rv.goM g rh.mu hM) (seq_later e hl)
  cases eb
  have hlen := rs.len
  refine ⟨fun hi => ?_, fun hi => ?_⟩
  · have hi : i < xs.length := hi
    obtain ⟨v, hv, rv'⟩ := rs.get (List.getElem?_eq_getElem hi)
    cases t with
    | true =>
      refine ⟨⟨vs, v, sq, hv⟩, fun y H2 hy => ?_⟩
      obtain ⟨rfl, hy⟩ := hy
      have e2 := hy vs sq
      rw [hv] at e2
      cases e2
      exact ⟨Same.refl _, _, List.getElem?_eq_getElem hi, rv'⟩
    | false =>
      refine ⟨⟨vs, v, sq, hv⟩, fun y H2 hy => ?_⟩
      obtain ⟨rfl, hy⟩ := hy
      have e2 := hy vs sq
      rw [hv] at e2
      cases e2
      exact ⟨Same.refl _, _, List.getElem?_eq_getElem hi, rv'⟩
  · have hi : xs.length ≤ i := hi
    cases t with
    | true => exact ⟨vs, sq, by omega⟩
    | false => exact ⟨vs, sq, by omega⟩
def dIter (a : CE) : CI := fun ev st => (a ev st).bind itemsV
theorem fi_seq (hK : X.K = C.K) (hl : PE X l (tE C W cl)) : PI X tg l (tI C W (dIter cl)) := by
  refine PI.imp (pi_seq hl) fun s H R h => tG.bind (R := relV) (k := fun x _ st => itemsV x st) h fun M0 m ev st x v H1 rh re rv fin => ?_
  unfold itemsV at fin
  split at fin
  · rename_i t xs hs
    obtain ⟨a, vs, rfl, rs, sq⟩ := seqOf_rel rh rv hs
    have q := FinG.out (R := relI C M0) fin rh (it_seq rh rv hs)
    rw [hK]
    refine ⟨a, rfl, ?_⟩
    cases t with
    | true => exact .inr ⟨⟨vs, sq⟩, q⟩
    | false => exact .inl ⟨⟨vs, sq⟩, q⟩
  · exact fin.elim
/-! ### ranges -/
def rangeL (lo : Int) (n : Nat) : List Va := (List.range n).map fun (i : Nat) => .dat (.int (lo + i))
def inR (i : Int) : Bool := upto 4000000000000000000 i
theorem inR_of {i : Int} (h : inR i = true) : -(2 ^ 62) ≤ i ∧ i < 2 ^ 62 := by
  have := upto_iff.mp h
  omega
theorem it_range {M0 : Addr → Prop} {m : List Addr} {H : Hp} (lo : Int) (n : Nat) : ItRel C M0 H m (Itr lo n) (rangeL lo n, none) := by
  intro M1 m1 H1 st1 g hM rh1 hl i
  have hlen : (rangeL lo n).length = n := by simp [rangeL]
  refine ⟨fun hi => ⟨show i < n by rw [← hlen]; exact hi, fun y H2 hy => ?_⟩, fun hi => show n ≤ i by rw [← hlen]; exact hi⟩
  obtain ⟨rfl, rfl⟩ := hy
  have hi : i < n := by rw [← hlen]; exact hi
  exact ⟨Same.refl _, .dat (.int (lo + i)), by simp [rangeL, hi], .dat (.int _)⟩
def rangeV (xs : List Va) (st : Sto) : Rs (List Va × Lk) := match xs with
  | [.dat (.int j)] => if inR j = true then .ok (rangeL 0 j.toNat, none) st else .bad
  | [.dat (.int i), .dat (.int j)] => if (inR i && inR j) = true then .ok (rangeL i (j - i).toNat, none) st else .bad
  | _ => .bad
def dRange (c : CA) : CI := fun ev st => (c ev st).bind rangeV
variable {a b : Expr} {cs : CA} {p pos : Pos}
theorem fi_range1 (hg : Gl X "range") (hm : X.mg "range" = none) (ha : PA X [a] (tA C W cs)) (hs : starEach [a] X.env = [(false, eval a X.env)] := by rfl) (h1 : ∀ ev st xs st', cs ev st = .ok xs st' → xs.length = 1) : PI X tg (.Call (.Name "range" p) [a] [] pos) (tI C W (dRange cs)) := by
  refine PI.imp (pi_range1 hg hm ha hs) fun s H R ⟨M0, m, ev, st, rh, re, fin⟩ => ⟨M0, m, ev, st, rh, re, ?_⟩
  have fin : FinG (relI C M0) C M0 m H (WE W s) ((cs ev st).bind rangeV) R := fin
  cases e : cs ev st with
  | bad => rw [e] at fin; exact fin.elim
  | err x st1 => rw [e] at fin; exact fin
  | ok xs st1 =>
    rw [e] at fin
    have hlen := h1 _ _ _ _ e
    intro vs m1 H1 g rh1 rs
    have fin := FinG.rebase fin g
    simp only [Rs.bind_ok] at fin
    unfold rangeV at fin
    split at fin
    · obtain ⟨hk, fin⟩ := Fin.ifGo fin
      obtain ⟨v, rfl, rv⟩ := rs.one
      obtain ⟨k1, k2⟩ := inR_of hk
      exact ⟨_, by rw [rv.int_inv], k1, k2, FinG.out (R := relI C M0) fin rh1 (it_range 0 _)⟩
    · simp at hlen
    · exact fin.elim
theorem fi_range2 (hg : Gl X "range") (hm : X.mg "range" = none) (ha : PA X [a, b] (tA C W cs)) (hs : starEach [a, b] X.env = [(false, eval a X.env), (false, eval b X.env)] := by rfl) (hs2 : starEach [b] X.env = [(false, eval b X.env)] := by rfl) (h1 : ∀ ev st xs st', cs ev st = .ok xs st' → xs.length = 2) :
    PI X tg (.Call (.Name "range" p) [a, b] [] pos) (tI C W (dRange cs)) := by
  refine PI.imp (pi_range2 hg hm ha hs hs2) fun s H R ⟨M0, m, ev, st, rh, re, fin⟩ => ⟨M0, m, ev, st, rh, re, ?_⟩
  have fin : FinG (relI C M0) C M0 m H (WE W s) ((cs ev st).bind rangeV) R := fin
  cases e : cs ev st with
  | bad => rw [e] at fin; exact fin.elim
  | err x st1 => rw [e] at fin; exact fin
  | ok xs st1 =>
    rw [e] at fin
    have hlen := h1 _ _ _ _ e
    intro vs m1 H1 g rh1 rs
    have fin := FinG.rebase fin g
    simp only [Rs.bind_ok] at fin
    unfold rangeV at fin
    split at fin
    · simp at hlen
    · obtain ⟨hk, fin⟩ := Fin.ifGo fin
      obtain ⟨v, u, rfl, rv, ru⟩ := rs.two
      obtain ⟨h3, h4⟩ := Bool.and_eq_true_iff.mp hk
      obtain ⟨k1, k2⟩ := inR_of h3
      obtain ⟨k3, k4⟩ := inR_of h4
      exact ⟨_, _, by rw [rv.int_inv, ru.int_inv], ⟨k1, k2, k3, k4⟩, FinG.out (R := relI C M0) fin rh1 (it_range _ _)⟩
    · exact fin.elim
theorem len_nil : ∀ ev st xs st', dNil ev st = .ok xs st' → xs.length = 0 := fun _ _ _ _ e => by cases e; rfl
theorem len_cons {c : CE} {r : CA} {n : Nat} (h : ∀ ev st xs st', r ev st = .ok xs st' → xs.length = n) : ∀ ev st xs st', dCons c r ev st = .ok xs st' → xs.length = n + 1 := fun ev st xs st' e => by
  unfold dCons at e
  cases e1 : c ev st with
  | bad => rw [e1] at e; cases e
  | err _ _ => rw [e1] at e; cases e
  | ok x st1 =>
    rw [e1] at e
    cases e2 : r ev st1 with
    | bad => simp only [Rs.bind_ok, e2] at e; cases e
    | err _ _ => simp only [Rs.bind_ok, e2] at e; cases e
    | ok ys st2 =>
      simp only [Rs.bind_ok, e2] at e
      cases e
      rw [List.length_cons, h _ _ _ _ e2]
end
end Sk

/-! Sk, part 12: list comprehensions. -/
namespace Sk
open PySem PySem.Spec PyProof.Rows L2
abbrev W0 : WX := fun _ _ _ _ => False
def Rs.calm {a : Type} : Rs a → Rs a
  | .err _ _ => .bad
  | r => r
@[simp] theorem Rs.calm_ok {a : Type} (x : a) (st : Sto) : (Rs.ok x st).calm = .ok x st := rfl
@[simp] theorem Rs.calm_bad {a : Type} : (Rs.bad : Rs a).calm = .bad := rfl
def wipeE (ev : Ev) : List Nat → Ev
  | [] => ev
  | v :: vs => (wipeE ev vs).set v none
theorem wipe_re {C : Cfg} {H : Hp} {M0 : Addr → Prop} {m : List Addr} {s : L2.St} {ev : Ev} (r : RE C H M0 m s ev) : ∀ vs : List Nat, RE C H M0 m (wipe s vs) (wipeE ev vs)
  | [] => r
  | v :: vs => by
    have ih := wipe_re r vs
    show RE C H M0 m ((wipe s vs).set v none) ((wipeE ev vs).set v none)
    refine ⟨by rw [List.length_set, List.length_set, ih.len], fun i x h => ?_⟩
    by_cases e : v = i
    · subst e
      by_cases hl : v < (wipeE ev vs).length
      · rw [List.getElem?_set_self hl] at h; cases h
      · rw [List.getElem?_eq_none (by rw [List.length_set]; omega)] at h; cases h
    · rw [List.getElem?_set_ne e] at h
      rw [List.getElem?_set_ne e]
      exact ih.vr i x h
theorem wipe_set {s : L2.St} {i : Nat} {o : Option V} : ∀ {vs : List Nat}, i ∈ vs → wipe (s.set i o) vs = wipe s vs
  | v :: vs, h => by
    show (wipe (s.set i o) vs).set v none = (wipe s vs).set v none
    by_cases hi : i ∈ vs
    · rw [wipe_set hi]
    · have e : i = v := by
        rcases List.mem_cons.mp h with z | z
        · exact z
        · exact absurd z hi
      subst e
      have q : ∀ us : List Nat, i ∉ us → wipe (s.set i o) us = (wipe s us).set i o := by
        intro us
        induction us with
        | nil => intro _; rfl
        | cons u us ih =>
          intro hn
          have h1 : i ≠ u := fun z => hn (by simp [z])
          show (wipe (s.set i o) us).set u none = ((wipe s us).set u none).set i o
          rw [ih fun z => hn (List.mem_cons_of_mem _ z), List.set_comm _ _ h1]
      rw [q vs hi, List.set_set]
theorem wipe_wipe {s : L2.St} (vs : List Nat) : wipe (wipe s vs) vs = wipe s vs := by
  have q : ∀ us : List Nat, (∀ u ∈ us, u ∈ vs) → wipe (wipe s us) vs = wipe s vs := by
    intro us
    induction us with
    | nil => intro _; rfl
    | cons u us ih =>
      intro h
      show wipe ((wipe s us).set u none) vs = wipe s vs
      rw [wipe_set (h u (by simp)), ih fun z hz => h z (List.mem_cons_of_mem _ hz)]
  exact q vs fun _ h => h
/-- a target whose names are the block's own -/
def CompT (C : Cfg) (vs : List Nat) (g : TG) (t : CT) : Prop := ∀ (M0 : Addr → Prop) (m : List Addr) (H : Hp) (ev : Ev) (st : Sto) (s : L2.St) (x : Va) (v : V) (Q : L2.St → Hp → Prop), RH C M0 m H st → RE C H M0 m s ev → RV C H (Mx M0 m) m v x →
  ∀ ev1 st1, t x ev st = .ok ev1 st1 → (∀ s1 m1 H1, Go m H m1 H1 → RH C M0 m1 H1 st1 → RE C H1 M0 m1 s1 ev1 → wipe s1 vs = wipe s vs → Q s1 H1) → g v s H Q
def CompTs (C : Cfg) (vs : List Nat) (g : TGs) (t : CTs) : Prop := ∀ (M0 : Addr → Prop) (m : List Addr) (H : Hp) (ev : Ev) (st : Sto) (s : L2.St) (x : List Va) (v : List V) (Q : L2.St → Hp → Prop), RH C M0 m H st → RE C H M0 m s ev → RVs C H (Mx M0 m) m v x →
  ∀ ev1 st1, t x ev st = .ok ev1 st1 → (∀ s1 m1 H1, Go m H m1 H1 → RH C M0 m1 H1 st1 → RE C H1 M0 m1 s1 ev1 → wipe s1 vs = wipe s vs → Q s1 H1) → g v s H Q
section
variable {C : Cfg} {vs : List Nat}
theorem ct_name {i : Nat} (h : i ∈ vs) : CompT C vs (gName i) (gN i) := fun M0 m H ev st s x v Q rh re rv ev1 st1 e q => by
  cases e
  exact q _ m H (Go.refl _ _) rh (re.set i rv) (wipe_set h)
theorem cts_nil : CompTs C vs gNil gsNil := fun M0 m H ev st s x v Q rh re rv ev1 st1 e q => by
  cases rv with
  | nil => cases e; exact ⟨rfl, q s m H (Go.refl _ _) rh re rfl⟩
  | cons _ _ => cases e
theorem cts_cons {g : TG} {gs : TGs} {t : CT} {u : CTs} (h1 : CompT C vs g t) (h2 : CompTs C vs gs u) : CompTs C vs (gCons g gs) (gsCons t u) := fun M0 m H ev st s x v Q rh re rv ev1 st1 e q => by
  cases rv with
  | nil => cases e
  | @cons v vs' x xs' a r =>
    have e : (t x ev st).bind (fun ev2 st2 => u xs' ev2 st2) = .ok ev1 st1 := e
    cases e1 : t x ev st with
    | bad => rw [e1] at e; cases e
    | err _ _ => rw [e1] at e; cases e
    | ok ev2 st2 =>
      rw [e1] at e
      refine ⟨_, _, rfl, h1 M0 m H ev st s x v _ rh re a ev2 st2 e1 fun s2 m2 H2 g2 rh2 re2 w2 => ?_⟩
      exact h2 M0 m2 H2 ev2 st2 s2 _ _ Q rh2 re2 (r.go g2 rh.mu) ev1 st1 e fun s3 m3 H3 g3 rh3 re3 w3 => q s3 m3 H3 (g2.trans g3) rh3 re3 (w3.trans w2)
theorem ct_tup {K : PySem.W.Frag} (hK : K = C.K) {gs : TGs} {u : CTs} {n : Nat} (h : CompTs C vs gs u) : CompT C vs (gTup K n gs) (gTp n u) := fun M0 m H ev st s x v Q rh re rv ev1 st1 e q => by
  unfold gTp at e
  split at e
  · rename_i xs hs
    split at e
    · rename_i hl
      obtain ⟨a, us, rfl, rs, sq⟩ := seqOf_rel rh rv hs
      exact ⟨a, us, rfl, by rw [hK]; exact sq, by rw [rs.len]; exact eq_of_beq hl, h M0 m H ev st s xs us Q rh re rs ev1 st1 e q⟩
    · cases e
  · cases e
end
def compTurn (t : CT) (k : CB) (e : CE) (x : Va) (ev : Ev) (st : Sto) : Rs (Option Va) :=
  ((t x ev st).bind fun ev1 st1 => (k ev1 st1).bind fun b st2 => if b = true then (e ev1 st2).bind fun y st3 => .ok (some y) st3 else .ok none st2).calm
def consO (o : Option Va) (ys : List Va) : List Va := match o with
  | some y => y :: ys
  | none => ys
def compL (l : Lk) (f : Va → Ev → Sto → Rs (Option Va)) : List Va → Ev → Sto → Rs (List Va)
  | [] => fun _ st => if lkOk l st = true then .ok [] st else .bad
  | x :: r => fun ev st => if lkOk l st = true then (f x ev st).bind fun o st1 => (compL l f r ev st1).bind fun ys st2 => .ok (consO o ys) st2 else .bad
/-- the new list, to be read alone -/
def asF (xs : List Va) (st : Sto) : Rs Va := .ok (mkL xs) st
def dComp (mk : List Va → Sto → Rs Va) (it : CI) (own : List Nat) (t : CT) (k : CB) (e : CE) : CE := fun ev st => (it ev st).bind fun p st1 => if few p.1.length = true then (compL p.2 (compTurn t k e) p.1 (wipeE ev own) st1).bind mk else .bad
def dYes : CB := fun _ st => .ok true st
section
variable {X : Cx} {C : Cfg} {W : WX}
theorem PTs.imp {ifs : List Expr} {t t' : TT} (h : PTs X ifs t) (i : ∀ s H Q, t' s H Q → t s H Q) : PTs X ifs t' := ⟨fun pins s σ H Q I q => h.run pins s σ H Q I (i _ _ _ q)⟩
theorem fts_nil : PTs X [] (tT C W dYes) := PTs.imp pts_nil fun s H Q ⟨M0, m, ev, st, rh, re, fin⟩ => FinG.out (R := relB) fin rh rfl
theorem fts_one {c : Expr} {cc : CB} (h : PT X c (tT C W cc)) : PTs X [c] (tT C W cc) := pts_one h
/-- what becomes of the list at D in the end -/
def MkS (C : Cfg) (mk : List Va → Sto → Rs Va) : Prop := ∀ (M0 : Addr → Prop) (m1 m : List Addr) (H1 H : Hp) (st : Sto) (E : XK) (Q : VK) (xs : List Va) (vs : List V) (D : Addr), Go m1 H1 m H → H1 D = none → ¬ M0 D → RH C (Pr M0 D) m H st → H D = some (.lst vs) → RVs C H (Mx (Pr M0 D) m) m vs xs →
  Fin C M0 m1 H1 E (mk xs st) Q → Q (.ref D) H
theorem mk_F : MkS C asF := fun M0 m1 m H1 H st E Q xs vs D g hn nD rh hD rs fin => by
  have lt : ∀ a, M0 a → Pr M0 D a := fun a h => .inl h
  refine fin (.ref D) m H g (rh.less lt) (RV.mkL hD (fun z => ?_) (rs.less (mx_less lt)))
  rcases z with z | z
  · exact nD z
  · exact rh.dj D z (.inr rfl)
theorem mx_move {M0 : Addr → Prop} {m : List Addr} {D : Addr} : ∀ a, Mx M0 (m ++ [D]) a → Mx (Pr M0 D) m a := fun a z => by
  rcases z with z | z
  · exact .inl (.inl z)
  · rcases List.mem_append.mp z with z | z
    · exact .inr z
    · exact .inl (.inr (by simpa using z))
mutual
theorem RV.wide {H : Hp} {M : Addr → Prop} {m n : List Addr} : ∀ {v : V} {x : Va}, RV C H M m v x → RV C H M (m ++ n) v x
  | _, _, .dat r => .dat r
  | _, _, .ref e => .ref (by rw [List.getElem?_append_left (List.getElem?_eq_some_iff.mp e).1]; exact e)
  | _, _, .lst h k r => .lst h k (RVs.wide r)
  | _, _, .frz h r => .frz h (RVs.wide r)
  | _, _, .tup h r => .tup h (RVs.wide r)
  | _, _, .fn e => .fn e
theorem RVs.wide {H : Hp} {M : Addr → Prop} {m n : List Addr} : ∀ {vs : List V} {xs : List Va}, RVs C H M m vs xs → RVs C H M (m ++ n) vs xs
  | _, _, .nil => .nil
  | _, _, .cons a b => .cons (RV.wide a) (RVs.wide b)
end
theorem RO.wide {H : Hp} {M : Addr → Prop} {m n : List Addr} {a : Addr} {ob : Ob} (r : RO C H M m a ob) : RO C H M (m ++ n) a ob := by
  cases ob with
  | lst xs => obtain ⟨vs, q, r⟩ := r; exact ⟨vs, q, r.wide⟩
  | dic t kvs =>
    cases t with
    | false => obtain ⟨ks, q, r⟩ := r; exact ⟨ks, q, Paired.mapP r fun _ _ z => ⟨z.1, z.2.wide⟩⟩
    | true => obtain ⟨ks, q, r⟩ := r; exact ⟨ks, q, Paired.mapP r fun _ _ z => ⟨z.1, z.2.wide⟩⟩
  | ins c fs => obtain ⟨A, dx, gs, ha, q, r⟩ := r; exact ⟨A, dx, gs, ha, q, Paired.mapP r fun _ _ z => ⟨z.1, z.2.wide⟩⟩
theorem RH.adopt {M0 : Addr → Prop} {m : List Addr} {H : Hp} {st : Sto} {D : Addr} {ob : Ob} (rh : RH C (Pr M0 D) m H st) (nD : ¬ M0 D) (ro : RO C H (Mx (Pr M0 D) m) m D ob) : RH C M0 (m ++ [D]) H (st ++ [some ob]) := by
  have nm : D ∉ m := fun z => rh.dj D z (.inr rfl)
  refine ⟨fun a h => rh.m0 a (.inl h), by rw [List.length_append, List.length_append, rh.len]; rfl, ?_, fun a ha z => ?_, fun a ha => ?_, fun n u hn => ?_, rh.tb, fun p hp => (rh.hd p hp).less mx_move, rh.ko⟩
  · rw [List.nodup_append]
    exact ⟨rh.nd, by simp, fun a ha b hb e => nm (by rw [show D = b by simpa using (List.mem_singleton.mp hb).symm, ← e]; exact ha)⟩
  · rcases List.mem_append.mp ha with q | q
    · exact rh.dj a q (.inl z)
    · exact nD (by rw [← show a = D by simpa using q]; exact z)
  · rcases List.mem_append.mp ha with q | q
    · exact rh.mu a q
    · rw [show a = D by simpa using q]
      exact ro.mut
  · by_cases hl : n < st.length
    · rw [List.getElem?_append_left hl] at hn
      obtain ⟨a, ha, r⟩ := rh.ob n u hn
      exact ⟨a, by rw [List.getElem?_append_left (List.getElem?_eq_some_iff.mp ha).1]; exact ha, (r.less mx_move).wide⟩
    · have e : n = st.length := by
        have h2 := (List.getElem?_eq_some_iff.mp hn).1
        rw [List.length_append] at h2
        simp at h2
        omega
      subst e
      rw [List.getElem?_append_right (Nat.le_refl _)] at hn
      have e3 : u = ob := by simpa using hn.symm
      refine ⟨D, ?_, by rw [e3]; exact (ro.less mx_move).wide⟩
      rw [← rh.len, List.getElem?_append_right (Nat.le_refl _)]
      simp
theorem mk_M : MkS C newL := fun M0 m1 m H1 H st E Q xs vs D g hn nD rh hD rs fin => by
  have gD : Go m1 H1 (m ++ [D]) H := by
    obtain ⟨l, e⟩ := g.pre
    refine ⟨⟨l ++ [D], by rw [e, List.append_assoc]⟩, g.kp, g.tk, fun a ha n => ?_⟩
    rcases List.mem_append.mp ha with q | q
    · exact g.nw a q n
    · rw [show a = D by simpa using q]; exact hn
  refine fin (.ref D) (m ++ [D]) H gD (rh.adopt nD ⟨vs, hD, rs⟩) (.ref ?_)
  rw [← rh.len, List.getElem?_append_right (Nat.le_refl _)]
  simp
/-! ### the rule -/
theorem lc_of {wi : CI} {g : TG} {t : CT} {k : CB} {ce : CE} {own : List Nat} {mk : List Va → Sto → Rs Va} (hT : CompT C own g t) (hM : MkS C mk) (s : L2.St) (H : Hp) (Q : VK) (h : tE C W (dComp mk wi own t k ce) s H Q) :
    tLc (tI C W wi) g (tT C W0 k) (tE C W0 ce) own s H Q :=
  tG.bind (R := relI) (k := fun p ev st1 => if few p.1.length = true then (compL p.2 (compTurn t k ce) p.1 (wipeE ev own) st1).bind mk else .bad) h fun M0 m ev st p J H1 rh re rj fin => by
    obtain ⟨items, l⟩ := p
    obtain ⟨hfew, fin⟩ := Fin.ifGo fin
    intro D hD
    have nD : ¬ M0 D := fun z => by
      obtain ⟨o, q⟩ := rh.m0 D z
      rw [hD] at q; cases q
    have hMp : ∀ a, Pr M0 D a → M0 a ∨ H1 a = none := fun a z => z.elim .inl fun e => .inr (by rw [e]; exact hD)
    have sm0 : Same H1 (upd H1 D (.lst [])) := same_new hD
    refine ⟨fun i c H' => c = items.length - i ∧ i ≤ items.length ∧ ∃ m' st' acc ys, Go m H1 m' H' ∧ RH C (Pr M0 D) m' H' st' ∧ RE C H' (Pr M0 D) m' (wipe s own) (wipeE ev own) ∧ H' D = some (.lst acc) ∧ RVs C H' (Mx (Pr M0 D) m') m' acc ys ∧ acc.length ≤ i ∧
        Fin C M0 m H1 (WE W s) ((compL l (compTurn t k ce) (items.drop i) (wipeE ev own) st').bind fun zs st2 => mk (ys ++ zs) st2) Q,
      ⟨items.length, rfl, Nat.zero_le _, m, st, [], [], Go.same sm0, rh.prot hD, wipe_re (re.goM (Go.same sm0) rh.mu hMp) own, upd_same, .nil, Nat.le_refl _, fin⟩, ?_⟩
    rintro i c H' ⟨rfl, hi, m', st', acc, ys, g', rh', re', hD', racc, hal, fin'⟩
    have dn : D ∉ m' := fun z => rh'.dj D z (.inr rfl)
    by_cases hlt : i < items.length
    · rw [List.drop_eq_getElem_cons hlt] at fin'
      have fin' : Fin C M0 m H1 (WE W s) ((if lkOk l st' = true then (compTurn t k ce items[i] (wipeE ev own) st').bind fun o st1 => (compL l (compTurn t k ce) (items.drop (i + 1)) (wipeE ev own) st1).bind fun ys st2 => .ok (consO o ys) st2 else .bad).bind fun zs st2 => mk (ys ++ zs) st2) Q := fin'
      cases hl : lkOk l st' with
      | false => rw [hl] at fin'; exact fin'.elim
      | true =>
        rw [hl] at fin'
        simp only [if_true, Rs.bind_assoc, Rs.bind_ok] at fin'
        obtain ⟨go, yld⟩ := (rj (Pr M0 D) m' H' st' g' hMp rh' hl i).1 hlt
        refine .inr ⟨go, fun H2 => ∃ m2 st2 acc2 ys2, Go m H1 m2 H2 ∧ RH C (Pr M0 D) m2 H2 st2 ∧ RE C H2 (Pr M0 D) m2 (wipe s own) (wipeE ev own) ∧ H2 D = some (.lst acc2) ∧ RVs C H2 (Mx (Pr M0 D) m2) m2 acc2 ys2 ∧ acc2.length ≤ i + 1 ∧
          Fin C M0 m H1 (WE W s) ((compL l (compTurn t k ce) (items.drop (i + 1)) (wipeE ev own) st2).bind fun zs st3 => mk (ys2 ++ zs) st3) Q, fun H2 h => ⟨items.length - (i + 1), by omega, rfl, hlt, h⟩, fun x H3 hy => ?_⟩
        obtain ⟨sm, y, ey, ry⟩ := yld x H3 hy
        rw [List.getElem?_eq_getElem hlt] at ey
        cases ey
        have g3 : Go m' H' m' H3 := Go.same sm
        have rh3 := rh'.same sm
        have re3 := re'.go g3 rh'.mu
        rw [show compTurn t k ce items[i] (wipeE ev own) st' = ((t items[i] (wipeE ev own) st').bind fun ev1 st1 => (k ev1 st1).bind fun b st2 => if b = true then (ce ev1 st2).bind fun y st3 => .ok (some y) st3 else .ok none st2).calm from rfl] at fin'
        cases ht : t items[i] (wipeE ev own) st' with
        | bad => rw [ht] at fin'; exact fin'.elim
        | err _ _ => rw [ht] at fin'; exact fin'.elim
        | ok ev1 sa =>
          rw [ht] at fin'
          simp only [Rs.bind_ok] at fin'
          refine hT (Pr M0 D) m' H3 _ st' (wipe s own) items[i] x _ rh3 re3 ry ev1 sa ht fun s4 m4 H4 g4 rh4 re4 w4 => ⟨by rw [w4, wipe_wipe], ?_⟩
          cases hk : k ev1 sa with
          | bad => rw [hk] at fin'; exact fin'.elim
          | err _ _ => rw [hk] at fin'; exact fin'.elim
          | ok b sb =>
            rw [hk] at fin'
            simp only [Rs.bind_ok] at fin'
            refine ⟨Pr M0 D, m4, ev1, sa, rh4, re4, ?_⟩
            rw [hk]
            intro y5 m5 H5 g5 rh5 e5
            have e5 : y5 = b := e5
            subst e5
            have re5 := re4.go g5 rh4.mu
            have gg : Go m' H' m5 H5 := (g3.trans g4).trans g5
            have hD5 : H5 D = some (.lst acc) := gg.kp D _ hD' dn fun ps e => nomatch e
            cases y5 with
            | false =>
              refine ite_ff ⟨m5, sb, acc, ys, g'.trans gg, rh5, re'.go gg rh'.mu, hD5, racc.go gg rh'.mu, by omega, ?_⟩
              simpa [consO] using fin'
            | true =>
              refine ite_tt ⟨Pr M0 D, m5, ev1, sb, rh5, re5, ?_⟩
              cases he : ce ev1 sb with
              | bad => simp only [he, if_true] at fin'; exact fin'.elim
              | err _ _ => simp only [he, if_true] at fin'; exact fin'.elim
              | ok z sc =>
                simp only [he, if_true, Rs.bind_ok, Rs.calm_ok] at fin'
                intro v6 m6 H6 g6 rh6 r6
                have gg6 : Go m' H' m6 H6 := gg.trans g6
                have hD6 : H6 D = some (.lst acc) := gg6.kp D _ hD' dn fun ps e => nomatch e
                have dn6 : D ∉ m6 := fun z => rh6.dj D z (.inr rfl)
                refine ⟨acc, hD6, Nat.lt_of_le_of_lt hal (Nat.lt_of_lt_of_le hlt (few_le hfew)), m6, sc, acc ++ [v6], ys ++ [z], ?_, rh6.putD hD6 (.inr rfl), (re'.go gg6 rh'.mu).putD hD6 (.inr rfl), upd_same,
                  ((racc.go gg6 rh'.mu).append (.cons r6 .nil)).putD hD6 (.inl (.inr rfl)), by rw [List.length_append]; simp; omega, ?_⟩
                · have g7 := g'.trans gg6
                  refine ⟨g7.pre, fun b o hb nb tb => ?_, fun b ps hb => ?_, g7.nw⟩
                  · have e : b ≠ D := fun e => by rw [e, hD] at hb; cases hb
                    rw [upd_ne e]
                    exact g7.kp b o hb nb tb
                  · have e : b ≠ D := fun e => by rw [e, hD] at hb; cases hb
                    rw [upd_ne e]
                    exact g7.tk b ps hb
                · simpa [consO] using fin'
    · have ei : i = items.length := by omega
      subst ei
      rw [List.drop_length] at fin'
      have fin' : Fin C M0 m H1 (WE W s) ((if lkOk l st' = true then .ok [] st' else .bad : Rs (List Va)).bind fun zs st2 => mk (ys ++ zs) st2) Q := fin'
      cases hl : lkOk l st' with
      | false => rw [hl] at fin'; exact fin'.elim
      | true =>
        rw [hl] at fin'
        simp only [if_true, Rs.bind_ok, List.append_nil] at fin'
        exact .inl ⟨(rj (Pr M0 D) m' H' st' g' hMp rh' hl items.length).2 (Nat.le_refl _), hM M0 m m' H1 H' st' _ Q ys acc D g' hD nD rh' hD' racc fin'⟩
variable {elt tg iter : Expr} {ifs : List Expr} {scope : Scope} {own : List (Str × Nat)} {pos : Pos} {wi : CI} {g : TG} {t : CT} {k : CB} {ce : CE} {mk : List Va → Sto → Rs Va}
theorem fe_lc (hM : MkS C mk) (hc : X.calm = true) (hN : X.N.Nodup) (hi : PI X tg iter (tI C W wi)) (ok : BlkOk X.N X.env.scope scope own) (hT : CompT C (own.map (·.2)) g t)
    (hg : ∀ (s : Shared) (H : Hp) (A : Addr) (cl : List (Str × Addr)) (fp : List Addr), PG (X.blk s H scope (compEnvC scope cl A X.env) fp) tg g) (ht : ∀ (s : Shared) (H : Hp) (A : Addr) (cl : List (Str × Addr)) (fp : List Addr), PTs (X.blk s H scope (compEnvC scope cl A X.env) fp) ifs (tT C W0 k))
    (he : ∀ (s : Shared) (H : Hp) (A : Addr) (cl : List (Str × Addr)) (fp : List Addr), PE (X.blk s H scope (compEnvC scope cl A X.env) fp) elt (tE C W0 ce)) (hs : ∀ x, foldedSetIterable iter X.env x = pure x := by intro _; rfl) :
    PE X (.ListComp elt [⟨tg, iter, ifs, 0⟩] scope pos) (tE C W (dComp mk wi (own.map (·.2)) t k ce)) := PE.imp (pe_lc hc hN hi ok hg ht he hs) (lc_of hT hM)
/-- name = [..] -/
theorem fs_setLc {i : Nat} {y : Str} {py spos : Pos} (hM : MkS C mk) (hc : X.calm = true) (hN : X.N.Nodup) (hy : X.N[i]? = some y) (hyl : X.env.scope.names.lookup y = some .local)
    (hsw : swapsWith (.ListComp elt [⟨tg, iter, ifs, 0⟩] scope pos) (some (.Name y py)) spos.line X.env = pure true) (hi : PI X tg iter (tI C W wi)) (ok : BlkOk X.N X.env.scope scope own) (hT : CompT C (own.map (·.2)) g t)
    (hg : ∀ (s : Shared) (H : Hp) (A : Addr) (cl : List (Str × Addr)) (fp : List Addr), PG (X.blk s H scope (compEnvC scope cl A X.env) fp) tg g) (ht : ∀ (s : Shared) (H : Hp) (A : Addr) (cl : List (Str × Addr)) (fp : List Addr), PTs (X.blk s H scope (compEnvC scope cl A X.env) fp) ifs (tT C W0 k))
    (he : ∀ (s : Shared) (H : Hp) (A : Addr) (cl : List (Str × Addr)) (fp : List Addr), PE (X.blk s H scope (compEnvC scope cl A X.env) fp) elt (tE C W0 ce)) (hs : ∀ x, foldedSetIterable iter X.env x = pure x := by intro _; rfl) :
    PS X (.Assign [.Name y py] (.ListComp elt [⟨tg, iter, ifs, 0⟩] scope pos) spos) (tS C W (dAsg (dComp mk wi (own.map (·.2)) t k ce) (gN i))) :=
  PS.imp (ps_setLc hc hN hy hyl hsw hi ok hg ht he hs) fun D s H h => lc_of hT hM s H _ (tS.bind (R := relV) (k := fun x ev st1 => (gN i x ev st1).bind fun ev1 st2 => .ok (.nx ev1) st2) h fun M0 m ev st x v H1 rh re rv fin => fin _ m H1 (Go.refl _ _) rh (re.set i rv))
end
end Sk

/-! Sk, part 13: our own defs: what they promise, open calls, calls apart. -/
namespace Sk
open PySem PySem.Spec PyProof.Rows L2
abbrev Fn := List Va → Sto → Rs Va
def spF (C : Cfg) (n : Nat) (F : Fn) : Sp := fun vs H Q E => vs.length = n ∧ ∃ M0 m args st, RH C M0 m H st ∧ RVs C H (Mx M0 m) m vs args ∧ FinG (relV C M0) C M0 m H E (F args st) Q
def mkEv (k : Nat) (args : List Va) : Ev := args.map some ++ List.replicate (k - args.length) none
def asRet (f : Fl) (st : Sto) : Rs Va := match f with
  | .rt x => .ok x st
  | .nx _ => .ok (.dat .none) st
  | _ => .bad
def mkFn (k : Nat) (c : CS) : Fn := fun args st => (c (mkEv k args) st).bind asRet
section
variable {C : Cfg} {M0 : Addr → Prop} {m : List Addr} {H : Hp}
theorem RVs.getO : ∀ {vs : List V} {xs : List Va} {M : Addr → Prop}, RVs C H M m vs xs → ∀ (i : Nat) (x : Va), xs[i]? = some x → ∃ v, vs[i]? = some v ∧ RV C H M m v x
  | _, _, _, .nil, i, x, h => by simp at h
  | _, _, _, .cons a r, 0, x, h => by
    simp at h
    subst h
    exact ⟨_, rfl, a⟩
  | _, _, _, .cons a r, i + 1, x, h => by
    simp at h
    obtain ⟨v, e, q⟩ := RVs.getO r i x h
    exact ⟨v, by simpa using e, q⟩
theorem RE.start {N : List Str} {vs : List V} {xs : List Va} (r : RVs C H (Mx M0 m) m vs xs) : RE C H M0 m (L2.start N vs) (mkEv N.length xs) := by
  refine ⟨by unfold L2.start mkEv; simp [r.len], fun i x h => ?_⟩
  unfold mkEv at h
  by_cases hl : i < xs.length
  · rw [List.getElem?_append_left (by simpa using hl)] at h
    have h2 : xs[i]? = some x := by
      rw [List.getElem?_map] at h
      cases e : xs[i]? with
      | none => rw [e] at h; cases h
      | some y => rw [e] at h; simpa using h
    obtain ⟨v, e, q⟩ := r.getO i x h2
    refine ⟨v, ?_, q⟩
    unfold L2.start
    rw [List.getElem?_append_left (by simpa [r.len] using hl), List.getElem?_map, e]
    rfl
  · rw [List.getElem?_append_right (by simpa using Nat.le_of_not_lt hl)] at h
    have := List.getElem?_eq_some_iff.mp h
    obtain ⟨h1, h2⟩ := this
    simp at h2
end
section
variable {P : Program} {w : World} {K : PySem.W.Frag} {mg : Str → Option Value} {base : Heap}
/-- a def of the text -/
theorem fn_ok {C : Cfg} {x qual : Str} {st : Stmt} {f : Addr} {fd : FuncData} {N ps : List Str} {k : Nat} {c : CS} (F : Fun K x qual st f fd) (S : FnScope N ps (defScope st))
    (hbody : ∀ (cdv : Value) (A : Around) (outer : List Env) (s : Shared) (H : Hp) (E : XK), Room k (A.deeper (envOfC qual (defScope st) s.heap.objs.size f cdv)) →
      PSs (cxOf (L2.CX P w) P w K mg base N qual (defScope st) f cdv A outer s H E) (defBody st) (tS C (fun c d _ H => E c d H) c)) : FnOk P w K mg base (L2.CX P w) (k + 1) f fd ps (spF C ps.length (mkFn N.length c)) := by
  refine Fun.okX F S (fun vs H Q E h => h.1) fun cdv A outer s H vs Q E hr h => ⟨_, hbody cdv A outer s H E hr, ?_⟩
  obtain ⟨_, M0, m, args, st, rh, rv, fin⟩ := h
  refine ⟨M0, m, mkEv N.length args, st, rh, RE.start rv, ?_⟩
  unfold mkFn at fin
  cases e : c (mkEv N.length args) st with
  | bad => rw [e] at fin; exact fin.elim
  | err x st1 =>
    rw [e] at fin
    exact fun s c d m' H' g rh q => fin c d m' H' g rh q
  | ok f st1 =>
    rw [e] at fin
    cases f with
    | nx ev => exact fun s m' H' g rh re => fin .non m' H' g rh (.dat .non)
    | rt x => exact fun v m' H' g rh re => fin v m' H' g rh re
    | bk ev => exact fin.elim
    | ct ev => exact fin.elim
end
/-! ### open calls: the callee sees our store -/
def callO (F : Fn) (n : Nat) (xs : List Va) (st : Sto) : Rs Va := if (xs.length == n) = true then F xs st else .bad
def dCallO (F : Fn) (n : Nat) (as : CA) : CE := fun ev st => (as ev st).bind fun xs st1 => callO F n xs st1
theorem ifGoG {a b : Type} {R : Hp → List Addr → b → a → Prop} {C : Cfg} {M0 : Addr → Prop} {m : List Addr} {H : Hp} {E : XK} {Q : b → Hp → Prop} {k : Bool} {r : Rs a} (h : FinG R C M0 m H E (if k = true then r else .bad) Q) : k = true ∧ FinG R C M0 m H E r Q := by
  cases k with
  | true => exact ⟨rfl, h⟩
  | false => exact h.elim
section
variable {X : Cx} {C : Cfg} {W : WX} {k : Nat} {f : Addr} {fd : FuncData} {ps : List Str} {n : Nat} {F : Fn} {x : Str} {p pos : Pos} {e : Expr} {es : List Expr} {ca : CA}
theorem fe_callO (hF : FnOk X.prog X.w X.K X.mg X.base (L2.CX X.prog X.w) k f fd ps (spF C n F)) (hr : Room k X.A) (hg : Gl X x) (hm : X.mg x = some (.ref f)) (hk : PySem.W.keepIn X.K (.ref f) = true) (hb : Binds X.K fd ps []) (tk : Takes X W)
    (ha : PA X (e :: es) (tA C W ca)) (hdb : (x == ("__debug__" : Str)) = false := by decide) (he : starEach (e :: es) X.env = (false, eval e X.env) :: starEach es X.env := by rfl) (hpl : (backTo pos (starEach es X.env)).any (·.1) = false := by rfl) :
    PE X (.Call (.Name x p) (e :: es) [] pos) (tE C W (dCallO F n ca)) :=
  PE.imp (pe_callS hF hr hg hm hk hb (fun σ => passAt tk σ) ha hdb he hpl) fun s H Q h => tG.bind (R := relVs) (k := fun xs _ st1 => callO F n xs st1) h fun M0 m ev st xs vs H1 rh re rv fin => by
    unfold callO at fin
    obtain ⟨hl, fin⟩ := ifGoG fin
    exact ⟨by rw [rv.len]; exact eq_of_beq hl, M0, m, xs, st, rh, rv, fin⟩
end
/-! ### calls apart: the callee has its own store, and hands back what is done -/
def outV : Nat → Sto → Va → Option Va
  | _, _, .dat d => some (.dat d)
  | _, _, .fn n => some (.fn n)
  | k + 1, st, .ref n => match st[n]? with
    | some (some (.lst xs)) => (mapO (outV k st) xs).map mkL
    | _ => none
  | k + 1, st, .seq t xs => (mapO (outV k st) xs).map (.seq t)
  | _, _, _ => none
@[simp] theorem outV_dat (k : Nat) (st : Sto) (d : PyData) : outV k st (.dat d) = some (.dat d) := by cases k <;> rfl
@[simp] theorem outV_fn (k : Nat) (st : Sto) (n : Nat) : outV k st (.fn n) = some (.fn n) := by cases k <;> rfl
mutual
def pureV : Va → Bool
  | .dat _ => true
  | .fn _ => true
  | .ref _ => false
  | .seq _ xs => pureVs xs
def pureVs : List Va → Bool
  | [] => true
  | x :: r => pureV x && pureVs r
end
mutual
def flatD : PyData → Bool
  | .list _ => false
  | .dict _ => false
  | .tuple xs => flatDs xs
  | _ => true
def flatDs : List PyData → Bool
  | [] => true
  | x :: r => flatD x && flatDs r
end
mutual
def flatV : Va → Bool
  | .dat d => flatD d
  | .seq true xs => flatVs xs
  | .fn _ => true
  | _ => false
def flatVs : List Va → Bool
  | [] => true
  | x :: r => flatV x && flatVs r
end
theorem mapO_len {a b : Type} {f : a → Option b} : ∀ {xs : List a} {ys : List b}, mapO f xs = some ys → ys.length = xs.length
  | [], ys, e => by cases e; rfl
  | x :: r, ys, e => by
    obtain ⟨y, h, e⟩ := Option.bind_eq_some_iff.mp (show ((f x).bind fun y => (mapO f r).map (y :: ·)) = some ys from e)
    obtain ⟨zs, e1, e2⟩ := Option.map_eq_some_iff.mp e
    subst e2
    rw [List.length_cons, List.length_cons, mapO_len e1]
section
variable {C : Cfg} {M0 M : Addr → Prop} {m m2 : List Addr} {H : Hp} {st : Sto}
theorem outAll_of {f : Va → Option Va} (ih : ∀ v x z, RV C H (Mx M0 m) m v x → f x = some z → RV C H M m2 v z) : ∀ {vs : List V} {xs zs : List Va}, RVs C H (Mx M0 m) m vs xs → mapO f xs = some zs → RVs C H M m2 vs zs
  | _, _, _, .nil, e => by cases e; exact .nil
  | _, _, _, .cons (x := x) (xs := r) a b, e => by
    obtain ⟨y, h, e⟩ := Option.bind_eq_some_iff.mp (show ((f x).bind fun y => (mapO f r).map (y :: ·)) = some _ from e)
    obtain ⟨zs, e1, e2⟩ := Option.map_eq_some_iff.mp e
    subst e2
    exact .cons (ih _ _ _ a h) (outAll_of ih b e1)
theorem outV_rel (rh : RH C M0 m H st) (hM : ∀ a, M a → M0 a) : ∀ (k : Nat) (v : V) (x z : Va), RV C H (Mx M0 m) m v x → outV k st x = some z → RV C H M m2 v z
  | k, _, _, _, .dat h, e => by
    rw [outV_dat] at e
    cases e
    exact .dat (h.less fun a z => .inl (hM a z))
  | k, _, _, _, .fn h, e => by
    rw [outV_fn] at e
    cases e
    exact .fn h
  | 0, _, _, _, .ref _, e => nomatch e
  | 0, _, _, _, .lst _ _ _, e => nomatch e
  | 0, _, _, _, .frz _ _, e => nomatch e
  | 0, _, _, _, .tup _ _, e => nomatch e
  | k + 1, _, _, z, .lst h n r, e => by
    obtain ⟨ds, e1, e2⟩ := Option.map_eq_some_iff.mp (show (mapO (outV k st) _).map (Va.seq false) = some z from e)
    subst e2
    exact .lst h (fun z => n (.inl (hM _ z))) (outAll_of (fun v x d => outV_rel rh hM k v x d) r e1)
  | k + 1, _, _, z, .frz h r, e => by
    obtain ⟨ds, e1, e2⟩ := Option.map_eq_some_iff.mp (show (mapO (outV k st) _).map (Va.seq false) = some z from e)
    subst e2
    exact .frz h (outAll_of (fun v x d => outV_rel rh hM k v x d) r e1)
  | k + 1, _, _, z, .tup h r, e => by
    obtain ⟨ds, e1, e2⟩ := Option.map_eq_some_iff.mp (show (mapO (outV k st) _).map (Va.seq true) = some z from e)
    subst e2
    exact .tup h (outAll_of (fun v x d => outV_rel rh hM k v x d) r e1)
  | k + 1, _, _, z, .ref (n := n) (a := a) h, e => by
    have e' : (match st[n]? with | some (some (.lst xs)) => (mapO (outV k st) xs).map mkL | _ => none) = some z := e
    split at e'
    · rename_i xs hx
      obtain ⟨ds, e1, e2⟩ := Option.map_eq_some_iff.mp e'
      subst e2
      obtain ⟨b, hb, vs, hv, r⟩ := rh.ob n _ hx
      rw [h] at hb
      cases hb
      exact RV.mkL hv (fun z => rh.dj a (List.mem_of_getElem? h) (hM a z)) (outAll_of (fun v x d => outV_rel rh hM k v x d) r e1)
    · cases e'
mutual
theorem outV_pure : ∀ (k : Nat) (x z : Va), pureV x = true → outV k st x = some z → z = x
  | k, .dat d, z, _, e => by
    rw [outV_dat] at e
    cases e; rfl
  | k, .fn d, z, _, e => by
    rw [outV_fn] at e
    cases e; rfl
  | k, .ref d, z, h, e => nomatch h
  | 0, .seq t xs, z, h, e => nomatch e
  | k + 1, .seq t xs, z, h, e => by
    obtain ⟨ds, e1, e2⟩ := Option.map_eq_some_iff.mp (show (mapO (outV k st) xs).map (Va.seq t) = some z from e)
    subst e2
    rw [outVs_pure k xs ds h e1]
theorem outVs_pure : ∀ (k : Nat) (xs zs : List Va), pureVs xs = true → mapO (outV k st) xs = some zs → zs = xs
  | k, [], zs, _, e => by cases e; rfl
  | k, x :: r, zs, h, e => by
    have h : (pureV x && pureVs r) = true := h
    rw [Bool.and_eq_true] at h
    obtain ⟨y, h1, e⟩ := Option.bind_eq_some_iff.mp (show ((outV k st x).bind fun y => (mapO (outV k st) r).map (y :: ·)) = some zs from e)
    obtain ⟨us, e1, e2⟩ := Option.map_eq_some_iff.mp e
    subst e2
    rw [outV_pure k x y h.1 h1, outVs_pure k r us h.2 e1]
end
mutual
theorem RV.pure {M' : Addr → Prop} (hM : ∀ a, M' a → M a) : ∀ {v : V} {x : Va}, RV C H M m v x → pureV x = true → RV C H M' m2 v x
  | _, _, .dat r, _ => .dat (r.less hM)
  | _, _, .ref e, h => nomatch h
  | _, _, .lst e n r, h => .lst e (fun z => n (hM _ z)) (RVs.pure hM r h)
  | _, _, .frz e r, h => .frz e (RVs.pure hM r h)
  | _, _, .tup e r, h => .tup e (RVs.pure hM r h)
  | _, _, .fn e, _ => .fn e
theorem RVs.pure {M' : Addr → Prop} (hM : ∀ a, M' a → M a) : ∀ {vs : List V} {xs : List Va}, RVs C H M m vs xs → pureVs xs = true → RVs C H M' m2 vs xs
  | _, _, .nil, _ => .nil
  | _, _, .cons (x := x) (xs := r) a b, h => by
    have h : (pureV x && pureVs r) = true := h
    rw [Bool.and_eq_true] at h
    exact .cons (RV.pure hM a h.1) (RVs.pure hM b h.2)
end
mutual
theorem RD.flat {K : PySem.W.Frag} {M' : Addr → Prop} : ∀ {v : V} {x : PyData}, RD K H M v x → flatD x = true → RD K H M' v x
  | _, _, .non, _ => .non
  | _, _, .bl b, _ => .bl b
  | _, _, .int i, _ => .int i
  | _, _, .str x, _ => .str x
  | _, _, .lst _ _ _, h => nomatch h
  | _, _, .tup e r, h => .tup e (RDs.flat r h)
theorem RDs.flat {K : PySem.W.Frag} {M' : Addr → Prop} : ∀ {vs : List V} {xs : List PyData}, RDs K H M vs xs → flatDs xs = true → RDs K H M' vs xs
  | _, _, .nil, _ => .nil
  | _, _, .cons (d := x) (ds := r) a b, h => by
    have h : (flatD x && flatDs r) = true := h
    rw [Bool.and_eq_true] at h
    exact .cons (RD.flat a h.1) (RDs.flat b h.2)
end
mutual
theorem RV.flat {M' : Addr → Prop} : ∀ {v : V} {x : Va}, RV C H M m v x → flatV x = true → RV C H M' m2 v x
  | _, _, .dat r, h => .dat (r.flat h)
  | _, _, .ref e, h => nomatch h
  | _, _, .lst e n r, h => nomatch h
  | _, _, .frz e r, h => nomatch h
  | _, _, .tup e r, h => .tup e (RVs.flat r h)
  | _, _, .fn e, _ => .fn e
theorem RVs.flat {M' : Addr → Prop} : ∀ {vs : List V} {xs : List Va}, RVs C H M m vs xs → flatVs xs = true → RVs C H M' m2 vs xs
  | _, _, .nil, _ => .nil
  | _, _, .cons (x := x) (xs := r) a b, h => by
    have h : (flatV x && flatVs r) = true := h
    rw [Bool.and_eq_true] at h
    exact .cons (RV.flat a h.1) (RVs.flat b h.2)
end
end
def flatE (e : Ec) : Bool := match e.arg with
  | none => true
  | some d => flatD d
def afterP (p : Bool) (st : Sto) (r : Rs Va) : Rs Va := match r with
  | .ok y st2 => (match outV 8 st2 y with
    | some z => if (p || flatV z) = true then .ok z st else .bad
    | none => .bad)
  | .err e _ => if (p || flatE e) = true then .err e st else .bad
  | .bad => .bad
def callP (F : Fn) (n : Nat) (xs : List Va) (st : Sto) : Rs Va := if (xs.length == n) = true then (match mapO (outV 8 st) xs with
  | some ys => afterP (pureVs xs) st (F ys [])
  | none => .bad) else .bad
def dCallP (F : Fn) (n : Nat) (as : CA) : CE := fun ev st => (as ev st).bind fun xs st1 => callP F n xs st1
section
variable {C : Cfg} {M0 M1 : Addr → Prop} {m m1 : List Addr} {H H1 : Hp} {st st1 : Sto}
theorem Go.apart (g : Go [] H m1 H1) : Go m H m H1 := ⟨⟨[], by simp⟩, fun b o h _ t => g.kp b o h (by simp) t, g.tk, fun a h n => absurd h n⟩
theorem mut_notbl {o : HO} (h : MutX o) : NoTbl o := fun ps e => by subst e; exact h
theorem RH.apart (rh : RH C M0 m H st) (g : Go [] H m1 H1) (rh1 : RH C M1 m1 H1 st1) : RH C M0 m H1 st := by
  refine ⟨fun a h => ?_, rh.len, rh.nd, rh.dj, fun a ha => ?_, fun n o hn => ?_, rh1.tb, fun p hp => (rh.hd p hp).go g.apart rh.mu, rh1.ko⟩
  · obtain ⟨o, e⟩ := rh.m0 a h
    exact g.ex e (by simp)
  · obtain ⟨o, e, x⟩ := rh.mu a ha
    exact ⟨o, g.kp a o e (by simp) (mut_notbl x), x⟩
  · obtain ⟨a, ha, r⟩ := rh.ob n o hn
    obtain ⟨u, e, x⟩ := rh.mu a (List.mem_of_getElem? ha)
    exact ⟨a, ha, r.go g.apart rh.mu (by rw [e]; exact g.kp a u e (by simp) (mut_notbl x))⟩
theorem REx.less {M M' : Addr → Prop} {e : Ec} {c : Value} {d : Option Addr} (h : ∀ a, M a → M' a) (x : REx C H M' e c d) : REx C H M e c d := by
  refine ⟨x.1, ?_⟩
  have q := x.2
  cases hq : e.arg with
  | none => rw [hq] at q; exact q
  | some p =>
    rw [hq] at q
    obtain ⟨y, v, q1, q2, q3⟩ := q
    exact ⟨y, v, q1, q2, q3.less h⟩
theorem REx.flat {M M' : Addr → Prop} {e : Ec} {c : Value} {d : Option Addr} (h : flatE e = true) (x : REx C H M' e c d) : REx C H M e c d := by
  refine ⟨x.1, ?_⟩
  have q := x.2
  unfold flatE at h
  cases hq : e.arg with
  | none => rw [hq] at q; exact q
  | some p =>
    rw [hq] at q h
    obtain ⟨y, v, q1, q2, q3⟩ := q
    exact ⟨y, v, q1, q2, q3.flat h⟩
/-- from the callee's ends to ours -/
theorem afterP_rel {E : XK} {Q : VK} {p : Bool} {r : Rs Va} (rh : RH C M0 m H st) (h1 : p = true → ∀ a, Mx M0 m a → M1 a) (hle : ∀ a, M0 a → M1 a) (fin : Fin C M0 m H E (afterP p st r) Q) : Fin C M1 [] H E r Q := by
  cases r with
  | bad => exact fin
  | err e s2 =>
    intro c d m' H' g' rh' x
    have fin : Fin C M0 m H E (if (p || flatE e) = true then .err e st else .bad) Q := fin
    obtain ⟨hp, fin⟩ := ifGoG fin
    refine fin c d m H' g'.apart (rh.apart g' rh') ?_
    rw [Bool.or_eq_true] at hp
    rcases hp with hp | hp
    · exact x.less fun a z => .inl (h1 hp a z)
    · exact x.flat hp
  | ok y s2 =>
    intro v m' H' g' rh' x
    unfold afterP at fin
    simp only at fin
    split at fin
    · rename_i z hz
      obtain ⟨hp, fin⟩ := ifGoG fin
      refine fin v m H' g'.apart (rh.apart g' rh') ?_
      rw [Bool.or_eq_true] at hp
      rcases hp with hp | hp
      · exact outV_rel rh' (h1 hp) 8 v y z x hz
      · exact RV.flat (outV_rel (M := M1) (m2 := m) rh' (fun a z => z) 8 v y z x hz) hp
    · exact fin.elim
theorem callP_rel {E : XK} {Q : VK} {F : Fn} {n : Nat} {xs : List Va} {vs : List V} (rh : RH C M0 m H st) (rv : RVs C H (Mx M0 m) m vs xs) (fin : Fin C M0 m H E (callP F n xs st) Q) : spF C n F vs H Q E := by
  unfold callP at fin
  obtain ⟨hl, fin⟩ := ifGoG fin
  refine ⟨by rw [rv.len]; exact eq_of_beq hl, ?_⟩
  split at fin
  · rename_i ys hy
    cases hp : pureVs xs with
    | true =>
      have e := outVs_pure 8 xs ys hp hy
      subst e
      rw [hp] at fin
      refine ⟨Mx M0 m, [], ys, [], ⟨fun a z => ?_, rfl, .nil, fun a z => (by simp at z), fun a z => (by simp at z), fun n o z => (by simp at z), rh.tb, fun p hp => (rh.hd p hp).less fun a z => z.elim id fun z => absurd z (by simp), rh.ko⟩, RVs.pure (fun a z => ?_) rv hp, afterP_rel rh (fun _ a z => z) (fun a z => .inl z) fin⟩
      · rcases z with z | z
        · exact rh.m0 a z
        · obtain ⟨o, e, _⟩ := rh.mu a z
          exact ⟨o, e⟩
      · rcases z with z | z
        · exact z
        · simp at z
    | false =>
      rw [hp] at fin
      refine ⟨M0, [], ys, [], ⟨rh.m0, rfl, .nil, fun a z => (by simp at z), fun a z => (by simp at z), fun n o z => (by simp at z), rh.tb, fun p hp => (rh.hd p hp).less fun a z => z.elim .inl fun z => absurd z (by simp), rh.ko⟩, outAll_of (fun v x z => outV_rel rh (fun a z => ?_) 8 v x z) rv hy, afterP_rel (p := false) rh (fun z => absurd z (by decide)) (fun a z => z) fin⟩
      rcases z with z | z
      · exact z
      · simp at z
  · exact fin.elim
end
section
variable {X : Cx} {C : Cfg} {W : WX} {k : Nat} {f : Addr} {fd : FuncData} {ps : List Str} {n : Nat} {F : Fn} {x : Str} {p pos : Pos} {e : Expr} {es : List Expr} {ca : CA}
theorem fe_callP (hF : FnOk X.prog X.w X.K X.mg X.base (L2.CX X.prog X.w) k f fd ps (spF C n F)) (hr : Room k X.A) (hg : Gl X x) (hm : X.mg x = some (.ref f)) (hk : PySem.W.keepIn X.K (.ref f) = true) (hb : Binds X.K fd ps []) (tk : Takes X W)
    (ha : PA X (e :: es) (tA C W ca)) (hdb : (x == ("__debug__" : Str)) = false := by decide) (he : starEach (e :: es) X.env = (false, eval e X.env) :: starEach es X.env := by rfl) (hpl : (backTo pos (starEach es X.env)).any (·.1) = false := by rfl) :
    PE X (.Call (.Name x p) (e :: es) [] pos) (tE C W (dCallP F n ca)) :=
  PE.imp (pe_callS hF hr hg hm hk hb (fun σ => passAt tk σ) ha hdb he hpl) fun s H Q h => tG.bind (R := relVs) (k := fun xs _ st1 => callP F n xs st1) h fun M0 m ev st xs vs H1 rh re rv fin => callP_rel rh rv fin
end
/-! ### constants of the module -/
section
variable {X : Cx} {C : Cfg} {W : WX} {pos : Pos}
theorem fe_gint {x : Str} {i : Int} {t : Tok} (hg : Gl X x) (hm : X.mg x = some (.int i t)) (hd : (x == ("__debug__" : Str)) = false := by decide) : PE X (.Name x pos) (tE C W (dC (.int i))) := fe_c (pe_glob hg hm (v := .int i) ⟨t, rfl⟩ hd) fun _ _ => .int i
theorem fe_gstr {x z : Str} {t : Tok} (hg : Gl X x) (hm : X.mg x = some (.str z t)) (hd : (x == ("__debug__" : Str)) = false := by decide) : PE X (.Name x pos) (tE C W (dC (.str z))) := fe_c (pe_glob hg hm (v := .str z) ⟨t, rfl⟩ hd) fun _ _ => .str z
/-- a tuple that stands in K -/
def dK (xs : List Va) : CE := fun _ st => .ok (.seq true xs) st
theorem fe_gtup {x : Str} {a : Addr} {vs : List V} {xs : List Va} (hg : Gl X x) (hm : X.mg x = some (.ref a)) (hq : ∀ H, SqT C.K H a vs) (hv : ∀ H M m, RVs C H M m vs xs) (hd : (x == ("__debug__" : Str)) = false := by decide) : PE X (.Name x pos) (tE C W (dK xs)) :=
  PE.imp (pe_glob hg hm (v := .ref a) rfl hd) fun s H Q ⟨M0, m, ev, st, rh, re, fin⟩ => FinG.out (R := relV C M0) fin rh (.tup (hq H) (hv _ _ _))
end
end Sk

set_option maxHeartbeats 1000000
/-! Sk, part 14: the frame of a generator expression. -/
namespace Sk
open PySem PySem.Spec PyProof.Rows L2 GenW
open NdefX (clo_cm clo_has)
abbrev envG (X : Cx) (scope : Scope) (code : Value) (C : Addr) : Env := genEnv scope (cloFrom X.env.cells scope.names []) C code builtinsNs X.env
/-- the context of its body -/
def cxG (X : Cx) (scope : Scope) (code : Value) (s4 : Shared) (H4 : Hp) (pn : List (Addr × Obj)) (fp : List Addr) : Cx :=
  { X with
    A := X.A.in1.in1.deeper (envG X scope code s4.heap.objs.size)
    s_0 := s4
    H_0 := H4
    env := envG X scope code s4.heap.objs.size
    outer := X.stack
    stack := envG X scope code s4.heap.objs.size :: X.stack
    ex := fp
    fn := fun _ => false
    calm := true
    pn := pn
    xe := fun _ _ => False }
/-- its names: own: the slots of its own names -/
structure GSc (N : List Str) (sc scope : Scope) (own : List Nat) : Prop where
  kind : scope.kind = .function
  co : scope.isCoroutine = false
  cell : ∀ y ∈ scope.names, y.2 ≠ .cell
  dot : scope.names.lookup (".0" : Str) = some NameKind.local
  free : ∀ y ∈ scope.names, y.2 = .free → sc.names.lookup y.1 = some .cell ∨ sc.names.lookup y.1 = some .free
  loc : ∀ (i : Nat) (x : Str), N[i]? = some x → scope.names.lookup x = some .local → i ∈ own
def genC (N : List Str) (sc scope : Scope) (own : List Nat) : Bool :=
  (match scope.kind with | .function => true | _ => false) && !scope.isCoroutine && scope.names.all (fun y => match y.2 with
    | .cell => false
    | .free => (match sc.names.lookup y.1 with | some .cell => true | some .free => true | _ => false)
    | _ => true) && (match scope.names.lookup (".0" : Str) with | some .local => true | _ => false) &&
  (List.range N.length).all fun i => match N[i]? with
    | some x => (match scope.names.lookup x with | some .local => own.contains i | _ => true)
    | none => true
theorem gsc_by {N : List Str} {sc scope : Scope} {own : List Nat} (h : genC N sc scope own = true) : GSc N sc scope own := by
  unfold genC at h
  simp only [Bool.and_eq_true, List.all_eq_true, Bool.not_eq_true'] at h
  obtain ⟨⟨⟨⟨h1, h2⟩, h3⟩, h4⟩, h5⟩ := h
  refine ⟨?_, h2, fun y hy e => ?_, ?_, fun y hy e => ?_, fun i x hx hl => ?_⟩
  · split at h1
    · assumption
    · cases h1
  · have q := h3 y hy
    simp only [e] at q
    cases q
  · split at h4
    · assumption
    · cases h4
  · have q := h3 y hy
    simp only [e] at q
    split at q <;> first | exact .inl (by assumption) | exact .inr (by assumption) | cases q
  · have hi : i < N.length := (List.getElem?_eq_some_iff.mp hx).1
    have q := h5 i (List.mem_range.mpr hi)
    simp only [hx, hl] at q
    simpa using q
section
variable {X : Cx} {pins pins' pn : List (Addr × Obj)} {σ : L2.St} {H4 : Hp} {s4 s5 : Shared} {scope : Scope} {own : List Nat} {code : Value} {fp : List Addr} {m : Str → Option Value}
theorem GSc.cells (G : GSc X.N X.env.scope scope own) (ok : X.Ok) : ∀ y ∈ scope.names, y.2 = .free → ∃ c, X.env.cells.lookup y.1 = some c := fun y hy e => by
  rcases G.free y hy e with k | k
  · exact ok.has _ (.inl k)
  · exact ok.has _ (.inr k)
theorem inv_gen (I : Inv X pins σ H4 s4) (hc : X.calm = true) (G : GSc X.N X.env.scope scope own) (hf : ∀ b ∈ fp, FpOk X pins H4 b) (ho : ∀ b ∈ fp, ∃ o, s4.heap.get? b = some o)
    (keep : ∀ b o, s4.heap.get? b = some o → s5.heap.get? b = some o) (os : s5.os = s4.os) (bare : AllBare s5.gens) (ns : s5.heap.Ns s4.heap.objs.size m)
    (hp : ∀ p ∈ pn ++ pins', s5.heap.get? p.1 = some p.2 ∧ s4.heap.objs.size < p.1 ∧ ∀ v, p.2.data ≠ .cell v) : Inv (cxG X scope code s4 H4 pn fp) pins' (wipe σ own) H4 s5 := by
  have hfree := G.cells I.ok
  have cm : ∀ x c, (cloFrom X.env.cells scope.names []).lookup x = some c → X.env.cells.lookup x = some c := fun x c e => clo_cm hfree e
  have e0 := I.env0
  refine ⟨⟨I.ok.mod, G.kind, I.ok.glob, rfl, Nat.le_refl _, fun x y c e1 e2 => I.ok.inj x y c (cm x c e1) (cm y c e2), fun x hx => ?_, fun x c h => absurd (show false = true from h) (by decide), fun _ => I.ok.hd hc, Around.frames_deeper (A := X.A.in1.in1) I.ok.frames, .inr ⟨rfl, rfl⟩, fun b hb => ⟨?_, fun x c e => (hf b hb).2.2.2.2.1 x c (cm x c e)⟩,
    I.bs, Nat.le_trans I.ok.bsz I.sz, fun b o e hb => ?_, fun b hb z => ?_, I.stack, I.stkFree⟩, os, bare, Un.kept keep, ⟨m, ns, fun i x v h1 h2 h3 => ?_⟩, fun x c e => ?_, I.hok.fresh (Nat.le_refl _), fun x c e => I.freeC x c (cm x c e), fun p hm => ?_, I.hok.kept keep, by rw [wipe_length]; exact I.len⟩
  · have hx : scope.names.lookup x = some .cell ∨ scope.names.lookup x = some .free := hx
    rcases hx with hx | hx
    · exact absurd rfl (G.cell _ (PySem.mem_of_lookup hx))
    · obtain ⟨c, h⟩ := hfree _ (PySem.mem_of_lookup hx) rfl
      exact ⟨c, clo_has hfree (PySem.mem_of_lookup hx) h⟩
  · obtain ⟨o, e⟩ := ho b hb
    exact Nat.ne_of_lt (Heap.lt_size e)
  · rcases (hf b hb).2.2.2.1 with z | z
    · exact I.ok.noex b o e z
    · exact absurd (Nat.lt_of_lt_of_le (Heap.lt_size e) (Nat.le_trans I.ok.bsz z)) (Nat.lt_irrefl _)
  · rcases List.mem_cons.mp (I.stkSub b z) with y | y
    · exact (hf b hb).2.1 y
    · exact (hf b hb).2.2.1 y
  · obtain ⟨h2, hno⟩ := wipe_some h2
    have h3 : Vis scope x := h3
    rcases h3 with h3 | h3 | h3
    · exact absurd (G.loc i x h1 h3) hno
    · exact absurd rfl (G.cell _ (PySem.mem_of_lookup h3))
    · obtain ⟨m0, _, hl⟩ := I.loc
      have k := G.free _ (PySem.mem_of_lookup h3) rfl
      obtain ⟨u, r, lk⟩ := hl i x v h1 h2 (k.elim (fun z => .inr (.inl z)) fun z => .inr (.inr z))
      refine ⟨u, r, ?_⟩
      rcases lk with ⟨z, _⟩ | ⟨_, c, hc1, o, ho1, hd1⟩
      · have z : X.env.scope.names.lookup x = some .local := z
        rcases k with k | k
        · rw [show (x, NameKind.free).1 = x from rfl, z] at k; cases k
        · rw [show (x, NameKind.free).1 = x from rfl, z] at k; cases k
      · exact .inr ⟨.inr h3, c, clo_has hfree (PySem.mem_of_lookup h3) hc1, o, keep c o ho1, hd1⟩
  · obtain ⟨v, o, h1, h2⟩ := I.cell x c (cm x c e)
    exact ⟨v, o, keep c o h1, h2⟩
  · obtain ⟨h1, h2, h3⟩ := hp p hm
    refine ⟨h1, I.hok.fresh (Nat.le_of_lt h2), Nat.ne_of_gt h2, fun z => ?_, h3⟩
    rcases List.mem_cons.mp (I.stkSub p.1 z) with y | y
    · rw [y] at h2
      exact absurd (Nat.lt_trans I.lt h2) (Nat.lt_irrefl _)
    · exact I.nofs (Nat.le_of_lt h2) y
/-- back in the def's context -/
theorem inv_back {σ' : L2.St} {H' : Hp} {s' : Shared} (I : Inv X pins σ H4 s4) (hf : ∀ b ∈ fp, FpOk X pins H4 b) (J : Inv (cxG X scope code s4 H4 pn fp) pins' σ' H' s') : Inv X pins σ H' s' :=
  I.call' (ch := fp) J.os J.base J.hok J.bare fun b hb => ⟨(hf b hb).2.2.2.1, (hf b hb).2.1, (hf b hb).2.2.2.2.1, (hf b hb).2.2.2.2.2⟩
theorem room_gen {k : Nat} (r : Room (k + 1) X.A) : Room k (cxG X scope code s4 H4 pn fp).A :=
  ⟨r.hd, by have := r.dp; show X.A.depth + 1 + 3 * k + 5 < _; omega, by have := r.un; show X.A.units + 1 + 1 + 3 + 16 * k + 200 < _; omega⟩
end
/-! ### its turns -/
/-- asleep ahead of turn i -/
def LS (Xg : Cx) (fp : List Addr) (tn : Nat → Heap → Prop) (σ0 : L2.St) (pins : List (Addr × Obj)) (i : Nat) (H : Hp) (s : Shared) : Prop :=
  Inv Xg pins σ0 H s ∧ (∀ b ∈ fp, FpOk Xg pins H b) ∧ tn i s.heap
/-- how a consumer goes on: what it holds, the item, what it then holds, does it ask for more -/
abbrev Stp := V → V → V → Bool → Prop
def GYx (Xg : Cx) (fp : List Addr) (tn : Nat → Heap → Prop) (σ0 : L2.St) (Pa : List (Addr × Obj) → V → Prop) (S : Stp) (Qe : V → Hp → Prop) : Protocol := fun n s₀ v s kap =>
  ∃ (pins : List (Addr × Obj)) (i : Nat) (acc x acc' : V) (go : Bool) (H : Hp), (∀ p ∈ pins, s₀.heap.get? p.1 = some p.2) ∧ Pa pins acc ∧ LS Xg fp tn σ0 pins (i + 1) H s ∧ RelV x v ∧ S acc x acc' go ∧ (go = false → Qe acc' H) ∧
    (go = true → ∀ pins' s', Pa pins' acc' → LS Xg fp tn σ0 pins' (i + 1) H s' → kap (.send .none) s')
def GPx (Xg : Cx) (σ0 : L2.St) (Pa : List (Addr × Obj) → V → Prop) (Qe : V → Hp → Prop) : Nat → Shared → Shared → Prop := fun _ s₀ s =>
  ∃ (pins : List (Addr × Obj)) (acc : V) (H : Hp), (∀ p ∈ pins, s₀.heap.get? p.1 = some p.2) ∧ Pa pins acc ∧ Inv Xg pins σ0 H s ∧ Qe acc H
/-- the wish, turn by turn -/
def Turns (J : It) (g : TG) (te : TE) (own : List Nat) (σ0 : L2.St) (S : Stp) (Qe : V → Hp → Prop) (W : Nat → Nat → V → Hp → Prop) : Prop := ∀ i n acc H, W i n acc H → (J.stop i H ∧ Qe acc H) ∨
  ∃ n', n = n' + 1 ∧ J.go i H ∧ ∀ x H3, J.yld i H x H3 → g x σ0 H3 fun s4 H4 => wipe s4 own = σ0 ∧ te s4 H4 fun v H5 => ∃ acc' go, S acc v acc' go ∧ (go = false → Qe acc' H5) ∧ (go = true → W (i + 1) n' acc' H5)
section
variable {Xg : Cx} {fp : List Addr} {tn : Nat → Heap → Prop} {σ0 : L2.St} {Pa : List (Addr × Obj) → V → Prop} {S : Stp} {Qe : V → Hp → Prop} {J : It} {g : TG} {te : TE} {own : List Nat} {W : Nat → Nat → V → Hp → Prop}
  {tg elt iter : Expr} {scope : Scope} {gpos : Pos} {it : Addr} {A : Around}
theorem seg_turns (hc : Xg.calm = true) (hA : A.deeper Xg.env = Xg.A) (hco : Xg.env.scope.isCoroutine = false) (hfp : Xg.ex = fp) (T : Turn Xg.prog Xg.w Xg.K tg J fp it tn) (hg : PG Xg tg g) (he : PE Xg elt te) (hx : ∀ e s, ¬ Xg.xe e s)
    (tu : Turns J g te own σ0 S Qe W) : ∀ (n i : Nat) (acc : V) (H : Hp) (pins : List (Addr × Obj)) (s₀ s : Shared), W i n acc H → Pa pins acc → (∀ p ∈ pins, s₀.heap.get? p.1 = some p.2) → LS Xg fp tn σ0 pins i H s →
      Seg (model Xg.prog Xg.w) A (fun n s₀ r s₁ => r = .ok .next ∧ GPx Xg σ0 Pa Qe n s₀ s₁) (GYx Xg fp tn σ0 Pa S Qe) n s₀
        (.compLoop (.GeneratorExp elt [⟨tg, iter, [], 0⟩] scope gpos) 0 (.ref it) .none Xg.env) ((model Xg.prog Xg.w).den (.compLoop (.GeneratorExp elt [⟨tg, iter, [], 0⟩] scope gpos) 0 (.ref it) .none Xg.env)) [] s := by
  have hA' : A.over (.compLoop (.GeneratorExp elt [⟨tg, iter, [], 0⟩] scope gpos) 0 (.ref it) .none Xg.env) [] = Xg.A := hA
  have hy : ∀ v, yieldOut Xg.env v = yieldValue v := fun v => by simp only [yieldOut, hco, Bool.false_eq_true, if_false]
  intro n
  induction n with
  | zero =>
    intro i acc H pins s₀ s w pa p0 ls
    show Seg _ A _ _ _ s₀ _ ((PySem.compTurn (.GeneratorExp elt [⟨tg, iter, [], 0⟩] scope gpos) 0 (.ref it) .none Xg.env).onRaise (leaving Xg.env)) [] s
    rw [compTurn_gen, Sem.onRaise_eq_wrap]
    refine seg_bind_wrap (wpAny_standAt ?_)
    rcases tu i 0 acc H w with ⟨stop, qe⟩ | ⟨n', hn, _⟩
    · refine seg_bind_wrap ?_
      rw [hA']
      refine wpAny_mono (T.done Xg rfl rfl rfl hc i pins s σ0 H (fun _ _ => False) ls.1 ls.2.1 ls.2.2 stop) (fun r s1 ⟨hr, I1⟩ => ?_) fun _ _ z => z.elim
      subst hr
      exact seg_end (.ok .next) ⟨rfl, pins, acc, H, p0, pa, I1, qe⟩
    · exact absurd hn (by omega)
  | succ n ih =>
    intro i acc H pins s₀ s w pa p0 ls
    show Seg _ A _ _ _ s₀ _ ((PySem.compTurn (.GeneratorExp elt [⟨tg, iter, [], 0⟩] scope gpos) 0 (.ref it) .none Xg.env).onRaise (leaving Xg.env)) [] s
    rw [compTurn_gen, Sem.onRaise_eq_wrap]
    refine seg_bind_wrap (wpAny_standAt ?_)
    rcases tu i (n + 1) acc H w with ⟨stop, qe⟩ | ⟨n', hn, go, step⟩
    · refine seg_bind_wrap ?_
      rw [hA']
      refine wpAny_mono (T.done Xg rfl rfl rfl hc i pins s σ0 H (fun _ _ => False) ls.1 ls.2.1 ls.2.2 stop) (fun r s1 ⟨hr, I1⟩ => ?_) fun _ _ z => z.elim
      subst hr
      exact seg_end (.ok .next) ⟨rfl, pins, acc, H, p0, pa, I1, qe⟩
    · obtain rfl : n = n' := by omega
      refine seg_bind_wrap ?_
      rw [hA']
      refine wpAny_mono (T.item Xg rfl rfl rfl hc i pins s σ0 H (fun _ _ => False) ls.1 ls.2.1 ls.2.2 go) (fun r s1 ⟨u, hr, h1⟩ => ?_) fun _ _ z => z.elim
      subst hr
      refine seg_bind_wrap ?_
      rw [hA']
      refine wpAny_mono h1 (fun _ s2 ⟨x, H2, I2, r2, y2, st2, n2⟩ => ?_) fun _ _ z => z.elim
      have f2 : ∀ b ∈ fp, FpOk Xg pins H2 b := fun b hb => ⟨n2 b hb, (ls.2.1 b hb).2⟩
      have I2' := I2.pinned f2 (T.obj _ _ st2)
      refine seg_bind_wrap ?_
      rw [hA']
      refine wpAny_mono (hg.run _ s2 σ0 H2 x u _ I2' r2 (step x H2 y2)) (fun _ s3 ⟨σ3, H3, I3, hw3, q3⟩ => ?_) fun _ _ z => (hx _ _ z).elim
      simp only [List.forIn_nil]
      refine seg_bind_wrap (wpAny_pure ?_)
      simp only [if_true, hy]
      rw [Sem.bind_eq_wrap', Sem.bind_eq_wrap', Sem.wrap_wrap, Sem.wrap_wrap]
      refine seg_wrap ?_
      rw [hA']
      refine wpAny_mono (he.run _ s3 σ3 H3 _ I3 q3) (fun z s4 ⟨v, H5, I5, r5, acc', go', st5, qf, qt⟩ => ?_) fun _ _ z => (hx _ _ z).elim
      have pin' : ∀ b ∈ fp, ∀ o, s2.heap.get? b = some o → s4.heap.get? b = some o ∧ H5 b = none := fun b hb o e =>
        let z := I5.pin (b, o) (List.mem_append_right _ (List.mem_append_right _ (mem_pinsAt hb e)))
        ⟨z.1, z.2.1⟩
      have hl : σ0.length = σ3.length := by rw [← hw3, wipe_length]
      have I6 : Inv Xg pins σ0 H5 s4 := (I5.unpinned (pins := pins)).weak hl (fun j v e => by rw [← hw3] at e; exact (wipe_some e).1)
      have ls6 : LS Xg fp tn σ0 pins (i + 1) H5 s4 := by
        refine ⟨I6, fun b hb => ⟨?_, (ls.2.1 b hb).2⟩, T.keep _ _ _ st2 fun b hb o e => (pin' b hb o e).1⟩
        obtain ⟨o, e, _⟩ := T.obj _ _ st2 b hb
        exact (pin' b hb o e).2
      refine seg_at (seg_yield rfl rfl rfl ⟨pins, i, acc, v, acc', go', H5, p0, pa, ls6, r5, st5, qf, fun hgo pins' s' pa' ls' => ?_⟩)
      exact seg_again rfl (ih (i + 1) acc' H5 pins' s' s' (qt hgo) pa' (fun p hp => (ls'.1.pin p (List.mem_append_right _ hp)).1) ls')
theorem seg_start (hc : Xg.calm = true) (hA : A.deeper Xg.env = Xg.A) (hco : Xg.env.scope.isCoroutine = false) (hfp : Xg.ex = fp) (T : Turn Xg.prog Xg.w Xg.K tg J fp it tn) (hg : PG Xg tg g) (he : PE Xg elt te) (hx : ∀ e s, ¬ Xg.xe e s)
    (tu : Turns J g te own σ0 S Qe W) (n : Nat) (acc : V) (H : Hp) (pins : List (Addr × Obj)) (s₀ s : Shared) (w : W 0 n acc H) (pa : Pa pins acc) (p0 : ∀ p ∈ pins, s₀.heap.get? p.1 = some p.2) (ls : LS Xg fp tn σ0 pins 0 H s) :
      Seg (model Xg.prog Xg.w) A (fun n s₀ r s₁ => r = .ok .next ∧ GPx Xg σ0 Pa Qe n s₀ s₁) (GYx Xg fp tn σ0 Pa S Qe) n s₀
        (.compStart (.GeneratorExp elt [⟨tg, iter, [], 0⟩] scope gpos) 0 (.ref it) .none Xg.env) ((model Xg.prog Xg.w).den (.compStart (.GeneratorExp elt [⟨tg, iter, [], 0⟩] scope gpos) 0 (.ref it) .none Xg.env)) [] s := by
  have loop := seg_turns (iter := iter) (scope := scope) (gpos := gpos) (A := A) hc hA hco hfp T hg he hx tu n 0 acc H pins s₀ s w pa p0 ls
  show Seg _ A _ _ _ s₀ _ ((PySem.compStart (.GeneratorExp elt [⟨tg, iter, [], 0⟩] scope gpos) 0 (.ref it) .none Xg.env).onRaise (leaving Xg.env)) [] s
  unfold PySem.compStart
  rw [Sem.onRaise_eq_wrap]
  show Seg _ A _ _ _ s₀ _ ((ask >>= _).wrap _ _ _ _) [] s
  refine seg_bind_wrap (wpAny_askSetting ?_)
  split
  · exact seg_again rfl loop
  · first
      | exact seg_bind_wrap (wpAny_rule (seg_bind_wrap (wpAny_standAt (seg_bind_wrap (T.self _ 0 s _ _ ls.2.2 (seg_again rfl loop))))))
      | (refine seg_bind_wrap (wpAny_rule ?_); show Seg _ A _ _ _ s₀ _ ((standAt iter.pos >>= _).wrap _ _ _ _) [] s; exact seg_bind_wrap (wpAny_standAt (seg_bind_wrap (T.self _ 0 s _ _ ls.2.2 (seg_again rfl loop)))))
end
end Sk

set_option maxHeartbeats 1000000
/-! Sk, part 15: a generator expression is made; sum, all, any eat it. -/
namespace Sk
open PySem PySem.Spec PyProof.Rows L2 GenW GxR
abbrev lob (acc : Array Value) (c : Nat) : Obj := { cls := .type "list", dict := none, data := .seq acc c, slots := #[] }
/-- it is made, and has not begun -/
structure Made (X : Cx) (pins : List (Addr × Obj)) (σ : L2.St) (tg elt iter : Expr) (scope : Scope) (gpos : Pos) (J : It) (code : Value) (s4 : Shared) (H4 : Hp) (fp : List Addr) (it : Addr) (tn : Nat → Heap → Prop) (a : Addr) (gi : Nat) (go : Obj) (s5 : Shared) : Prop where
  I4 : Inv X pins σ H4 s4
  ff : ∀ b ∈ fp, FpOk X pins H4 b
  T : Turn X.prog X.w X.K tg J fp it tn
  tn0 : tn 0 s4.heap
  keep : ∀ b o, s4.heap.get? b = some o → s5.heap.get? b = some o
  os : s5.os = s4.os
  bare : AllBare s5.gens
  ns : ∃ m, s5.heap.Ns s4.heap.objs.size m
  ga : s4.heap.objs.size < a
  obj : s5.heap.get? a = some go
  gen : ∃ nm qn, go.cls = .type "generator" ∧ go.data = .fields #[.int gi 0, nm, qn] ∧ go.slots = #[]
  gs : s5.gens[gi]? = some (.fresh (.compStart (.GeneratorExp elt [⟨tg, iter, [], 0⟩] scope gpos) 0 (.ref it) .none (envG X scope code s4.heap.objs.size)))
section
variable {X : Cx} {pins : List (Addr × Obj)} {σ : L2.St} {H : Hp} {s : Shared} {k : Nat} {c P : Addr} {scope : Scope} {own : List Nat} {tg elt iter : Expr} {gpos : Pos} {wi : TI} {R : It → Hp → Prop} {Q' : Value → Shared → Prop}
theorem gen_made (hr : Room k X.A) (TB : TabB X.base X.mg c P) (hcode : X.env.code = .ref c) (G : GSc X.N X.env.scope scope own) (hi : PI X tg iter wi) (hs : ∀ v, genFold iter X.env v = pure v) (I : Inv X pins σ H s)
    (h : wi σ H fun J H1 => TabG H1 P ∧ ∀ H2, Tabbed P H1 H2 → R J H2)
    (hQ : ∀ J code s4 H4 fp it tn a gi go s5, R J H4 → Made X pins σ tg elt iter scope gpos J code s4 H4 fp it tn a gi go s5 → Q' (.ref a) s5) :
    wpAny (model X.prog X.w) X.A (eval (.GeneratorExp elt [⟨tg, iter, [], 0⟩] scope gpos) X.env) Q' X.xe s := by
  refine wpAny_GeneratorExp_make G.co (closure_ok (G.cells I.ok)) G.cell G.dot G.kind hr.depth ?_ hs
  refine thn (hi.run pins s σ H _ I h) fun xv s1 hx => thn hx fun itv s2 h2 => ?_
  obtain ⟨it, fp, tn, J, H1, e, I1, T, st1, f1, ⟨ps, hP, ht⟩, hR⟩ := h2
  subst e
  have hPs : s2.heap.get? P = some { cls := .none, data := .fields ps } := I1.hok P _ hP
  have cd : PySem.W.CodeHd s2.heap c P := TB.code.keeps I1.bk
  have cont : ∀ (code : Value) (h3 : Heap) (tk : Nat) (ps' : Array Value), Heap.ExtBut P s2.heap h3 → h3.get? P = some { cls := .none, data := .fields ps' } → (∃ more, ps' = ps ++ more) → TriplesOk ps'.toList →
      wpAny (model X.prog X.w) X.A (builtinsFor X.env.globals X.env.builtins) (fun bi s₄ =>
        ∀ h', h'.Ns s₄.heap.objs.size (fun y => if y = ".0" then some (.ref it) else none) → Heap.SameBut s₄.heap.objs.size (s₄.heap.push { cls := .type "frame", data := .dict #[] }) h' →
          Q' (.ref h'.objs.size) { s₄ with
            gens := s₄.gens.push (.fresh (.compStart (.GeneratorExp elt [⟨tg, iter, [], 0⟩] scope gpos) 0 (.ref it) .none (genEnv scope (cloFrom X.env.cells scope.names []) s₄.heap.objs.size code bi X.env))),
            toks := s₄.toks + 1 + 1 + 1,
            heap := h'.push { cls := .type "generator", data := .fields #[.int s₄.gens.size 0, .str "<genexpr>" (s₄.toks + 1), .str (X.env.qual ++ "<genexpr>") (s₄.toks + 1 + 1)] } }) X.xe { s2 with heap := h3, toks := tk } := by
    intro code h3 tk ps' hx hP3 hmore ht3
    obtain ⟨more, em⟩ := hmore
    obtain ⟨bm, ob, e1, e2, e3, e4, e5, e6, e7, e8⟩ := TB.bm
    have keep3 : ∀ b u, b ≠ P → s2.heap.get? b = some u → h3.get? b = some u := fun b u hb e => hx b u hb e
    have I3 : Inv X pins σ (upd H1 P (.tbl (ps ++ more))) { s2 with heap := h3, toks := tk } := inv_tab (more := more) (h' := h3) (g' := s2.gens) (d' := s2.drawn) (t' := tk) I1 hP keep3 (by rw [← em]; exact hP3) I1.bare
    refine wpAny_builtinsFor (m := X.mg) (by rw [I1.ok.glob]; exact (I1.mod.glob.keeps I1.bk).extBut hx TB.gP) e1 e2 (keep3 _ _ e4 (I1.bk _ _ e5)) e6 e7 e8 ?_
    intro h' hn' hs'
    have nP : ∀ b ∈ fp, b ≠ P := fun b hb z => by
      have q := (f1 b hb).1
      rw [z, hP] at q
      cases q
    have hsz : h'.objs.size = h3.objs.size + 1 := by rw [hs'.1, Heap.size_push]
    have keep' : ∀ b o, h3.get? b = some o → h'.get? b = some o := fun b o e => hs'.extBut b o (Nat.ne_of_lt (Heap.lt_size e)) (Heap.get?_push_of_some _ e)
    refine hQ J code _ _ fp it tn _ s2.gens.size _ _ (hR _ ⟨⟨ps ++ more, upd_same, by rw [← em]; exact ht3⟩, fun b hb => upd_ne hb⟩) ⟨I3, fun b hb => ⟨?_, (f1 b hb).2⟩, T, T.keep _ _ _ st1 fun b hb o e => keep3 b o (nP b hb) e, fun b o e => Heap.get?_push_of_some _ (keep' b o e), rfl, ?_, ⟨_, hn'.push _⟩, ?_, Heap.get?_push_size _ rfl, ⟨_, _, rfl, rfl, rfl⟩, Array.getElem?_push_size ..⟩
    · rw [upd_ne (nP b hb)]
      exact (f1 b hb).1
    · exact I3.bare.push rfl
    · show h3.objs.size < h'.objs.size
      rw [hsz]
      exact Nat.lt_succ_self _
  refine ⟨I1.nolimit, ?_⟩
  cases hf : codeAmong gpos ps.toList with
  | none =>
    refine wpAny_genexprCodeX hcode (cd.code hPs ht) (cd.tab hPs) hf fun c' h' tk hx hge hlt hco' _ htab' _ => ?_
    obtain ⟨o1, vs, f1, tf, fl, tg, inF, tx, tt, op, _, _, _, _, _, _, _, _, _, htr, _⟩ := hco'
    exact cont _ h' tk _ hx htab'.2 ⟨_, rfl⟩ htr
  | some cv =>
    refine wpAny_genexprCode_hit hcode (cd.code hPs ht) hf ?_
    exact cont cv s2.heap s2.toks ps (Heap.ExtBut.refl _ _) hPs ⟨#[], by simp⟩ ht
end
/-! ### asleep, seen from the consumer -/
section
variable {Xg : Cx} {fp : List Addr} {tn : Nat → Heap → Prop} {σ0 : L2.St} {Pa : List (Addr × Obj) → V → Prop} {S : Stp} {Qe : V → Hp → Prop} {A B : Around} {a : Addr} {gi : Nat} {go : Obj}
abbrev Goe (Xg : Cx) (fp : List Addr) (tn : Nat → Heap → Prop) (σ0 : L2.St) (Pa : List (Addr × Obj) → V → Prop) (S : Stp) (Qe : V → Hp → Prop) (A : Around) (n : Nat) (gs : GenState) (s : Shared) : Prop :=
  gs.Goes (model Xg.prog Xg.w) A (fun n s₀ r s₁ => r = .ok .next ∧ GPx Xg σ0 Pa Qe n s₀ s₁) (GYx Xg fp tn σ0 Pa S Qe) n (.send .none) s
/-- one fewer -/
def Goe1 (Xg : Cx) (fp : List Addr) (tn : Nat → Heap → Prop) (σ0 : L2.St) (Pa : List (Addr × Obj) → V → Prop) (S : Stp) (Qe : V → Hp → Prop) (A : Around) (n : Nat) (gs : GenState) (s : Shared) : Prop :=
  match n with
  | 0 => False
  | m + 1 => Goe Xg fp tn σ0 Pa S Qe A m gs s
def BS (Xg : Cx) (fp : List Addr) (tn : Nat → Heap → Prop) (σ0 : L2.St) (Pa : List (Addr × Obj) → V → Prop) (gi : Nat) (F : GenState → Shared → Prop) (pins : List (Addr × Obj)) (acc : V) (H : Hp) (s : Shared) : Prop :=
  ∃ i, LS Xg fp tn σ0 pins i H s ∧ ∃ gs, s.gens[gi]? = some gs ∧ ∀ pins' s'', Pa pins' acc → LS Xg fp tn σ0 pins' i H s'' → F gs s''
theorem BS.less {pins : List (Addr × Obj)} {n : Nat} {acc : V} {H : Hp} {s : Shared} (b : BS Xg fp tn σ0 Pa gi (Goe1 Xg fp tn σ0 Pa S Qe A n) pins acc H s) (pa : Pa pins acc) : ∃ m, n = m + 1 ∧ BS Xg fp tn σ0 Pa gi (Goe Xg fp tn σ0 Pa S Qe A m) pins acc H s := by
  obtain ⟨i, ls, gs, hgs, hgo⟩ := b
  cases n with
  | zero => exact (hgo pins s pa ls).elim
  | succ m => exact ⟨m, rfl, i, ls, gs, hgs, hgo⟩
def PaOk (Pa : List (Addr × Obj) → V → Prop) : Prop := ∀ (pins pins1 : List (Addr × Obj)) (acc acc1 : V) (h : Heap), Pa pins acc → Pa pins1 acc1 → (∀ p ∈ pins, h.get? p.1 = some p.2) → (∀ p ∈ pins1, h.get? p.1 = some p.2) → pins1 = pins ∧ acc1 = acc
theorem inv_gens {pins : List (Addr × Obj)} {σ : L2.St} {H : Hp} {s s' : Shared} (I : Inv Xg pins σ H s) (hh : s'.heap = s.heap) (os : s'.os = s.os) (hb : AllBare s'.gens) : Inv Xg pins σ H s' := by
  obtain ⟨h1, g, d, t, o⟩ := s'
  have e1 : h1 = s.heap := hh
  have e2 : o = s.os := os
  subst e1
  subst e2
  exact ⟨I.ok, I.os, hb, I.base, I.loc, I.cell, I.free, I.freeC, I.pin, I.hok, I.len⟩
theorem inv_grown {pins : List (Addr × Obj)} {σ : L2.St} {H : Hp} {s s' : Shared} (I : Inv Xg pins σ H s) (hh : ∀ b o, s.heap.get? b = some o → s'.heap.get? b = some o) (os : s'.os = s.os) (hb : AllBare s'.gens) : Inv Xg pins σ H s' :=
  I.call' (ch := []) os (Un.kept hh) (I.hok.kept hh) hb fun b z => absurd z (by simp)
theorem next_g {pins : List (Addr × Obj)} {n : Nat} {acc : V} {H : Hp} {s : Shared} {Q : Option Value → Shared → Prop} {E : Value → Shared → Prop} (hA : A = B.in1) (hP : PaOk Pa) (hh : B.handled = none) (hroom : B.depth < recursionLimit) (hpn : Xg.pn = [(a, go)])
    (gen : ∃ nm qn, go.cls = .type "generator" ∧ go.data = .fields #[.int gi 0, nm, qn] ∧ go.slots = #[]) (bs : BS Xg fp tn σ0 Pa gi (Goe Xg fp tn σ0 Pa S Qe A n) pins acc H s) (pa : Pa pins acc)
    (hY : ∀ v x acc' go' H' s1, RelV x v → S acc x acc' go' → Inv Xg pins σ0 H' s1 → (go' = false → Qe acc' H') → (go' = true → BS Xg fp tn σ0 Pa gi (Goe1 Xg fp tn σ0 Pa S Qe A n) pins acc' H' s1) → Q (some v) s1)
    (hN : ∀ H' s1, Qe acc H' → Inv Xg pins σ0 H' s1 → Q none s1) : wpAny (model Xg.prog Xg.w) B (pyNext (.ref a)) Q E s := by
  obtain ⟨i, ls, gs, hgs, hgo⟩ := bs
  obtain ⟨nm, qn, g1, g2, g3⟩ := gen
  have hg : s.heap.IsGen a gi := ⟨go, nm, qn, (ls.1.pin (a, go) (by rw [hpn]; simp)).1, g1, g2, g3⟩
  have hgl : gi < s.gens.size := (Array.getElem?_eq_some_iff.mp hgs).1
  have pin0 : ∀ p ∈ pins, (s.setGen gi .running).heap.get? p.1 = some p.2 := fun p hp => (ls.1.pin p (List.mem_append_right _ hp)).1
  have ls0 : LS Xg fp tn σ0 pins i H (s.setGen gi .running) := ⟨inv_gens ls.1 rfl rfl (allBare_setGen ls.1.bare rfl), ls.2⟩
  refine wpAny_gsz (n := gi + 1) hgl (wpAny_pyNext_genexpQ (P := GPx Xg σ0 Pa Qe) (Y := GYx Xg fp tn σ0 Pa S Qe) hh ls.1.nolimit hroom hg hgs (by rw [← hA]; exact hgo pins _ pa ls0) (fun v s₁ gs' hb hv => ?_) fun s₁ hp h' hk => ?_)
  · obtain ⟨pins1, i1, acc1, x, acc', go', H', p1, pa1, ls1, rx, st, qf, qt⟩ := hv
    obtain ⟨e1, e2⟩ := hP pins pins1 acc acc1 _ pa pa1 pin0 p1
    subst e1
    subst e2
    intro hsz
    have hsz1 : gi < s₁.gens.size := by
      have q : (s₁.setGen gi gs').gens.size = s₁.gens.size := setGen_size _ _ _
      have hsz' : gi + 1 ≤ (s₁.setGen gi gs').gens.size := hsz
      omega
    have I1 : Inv Xg pins1 σ0 H' (s₁.setGen gi gs') := inv_gens ls1.1 rfl rfl (allBare_setGen ls1.1.bare hb)
    refine hY v x acc' go' H' _ rx st I1 qf fun hgo' => ?_
    refine ⟨i1 + 1, ⟨I1, ls1.2⟩, gs', setGen_at hsz1, fun pins' s' pa' ls' => ?_⟩
    have q := qt hgo' pins' s' pa' ls'
    cases n with
    | zero => exact q
    | succ m => rw [hA]; exact q
  · obtain ⟨pins1, acc1, H', p1, pa1, I1, qe⟩ := hp
    obtain ⟨e1, e2⟩ := hP pins pins1 acc acc1 _ pa pa1 pin0 p1
    subst e1
    subst e2
    intro hsz
    exact hN H' _ qe (inv_grown (inv_gens (s' := s₁.setGen gi .finished) I1 rfl rfl (allBare_setGen I1.bare rfl)) hk rfl (allBare_setGen I1.bare rfl))
/-- the consumer has changed its one object -/
theorem inv_repin {Sx : Addr} {o o' : Obj} {σ : L2.St} {H : Hp} {s s' : Shared} (I : Inv Xg [(Sx, o)] σ H s) (hS : Xg.s_0.heap.objs.size ≤ Sx) (hpn : ∀ p ∈ Xg.pn, p.1 ≠ Sx) (os : s'.os = s.os) (bare : AllBare s'.gens)
    (keep : ∀ b ob, b ≠ Sx → s.heap.get? b = some ob → s'.heap.get? b = some ob) (new : s'.heap.get? Sx = some o') (hd : ∀ v, o'.data ≠ .cell v) : Inv Xg [(Sx, o')] σ H s' := by
  obtain ⟨eS, hS0, hSL, hSf, hSd⟩ := I.pin (Sx, o) (List.mem_append_right _ List.mem_cons_self)
  have I0 : Inv Xg [] σ H s := I.pins_of fun p hp => absurd hp (by simp)
  have nt : ∀ b u, H b = some u → b ≠ Sx := fun b u q hb => by rw [hb, hS0] at q; cases q
  obtain ⟨hh, g, d, t, ob⟩ := s'
  have ho : ob = s.os := os
  subst ho
  have nc : ∀ b, b ∉ [Sx] → b ≠ Sx := fun b hb e => hb (by rw [e]; exact List.mem_singleton.mpr rfl)
  have J : Inv Xg [] σ H { s with heap := hh, gens := g, drawn := d, toks := t } := by
    refine I0.step (g' := g) (t' := t) (d' := d) (ch := [Sx]) (fun b hb => ?_)
      (fun b ob _ _ hc q _ => keep b ob (nc b hc) q) (fun b ob _ _ hc q _ => ⟨ob.slots, keep b ob (nc b hc) q⟩) (fun _ _ _ _ n => n) (fun b ob hc q => ⟨ob, keep b ob (nc b hc) q⟩)
      (fun _ _ q => q) (fun _ _ _ q => q) (fun b ps q => ⟨#[], by rw [q]; simp⟩) (fun m hm => ?_) (fun b u q => ?_) bare
    · rw [List.mem_singleton.mp hb]
      refine ⟨.inr hS, Ne.symm (Ne.symm hSL), fun x c e z => ?_, fun p hp => ?_⟩
      · obtain ⟨v, ob, h1, h2⟩ := I.cell x c e
        rw [z, eS] at h1
        cases h1
        exact hSd _ h2
      · rcases List.mem_append.mp hp with hp | hp
        · exact hpn p hp
        · exact absurd hp (by simp)
    · obtain ⟨ob, es, ep, ho, r⟩ := hm
      exact ⟨ob, es, ep, keep _ ob (Ne.symm hSL) ho, r⟩
    · refine (I0.hok b u q).stay (fun c v hc y => keep c v ?_ y) (fun _ y => y) fun _ _ y => y
      rcases hc with y | y
      · rw [y]; exact nt b u q
      · exact nt c _ y
  refine J.pins_of fun p hp => ?_
  rw [List.mem_singleton.mp hp]
  exact ⟨new, hS0, hSL, hSf, hd⟩
theorem BS.repin {F : GenState → Shared → Prop} {Sx : Addr} {o o' : Obj} {acc : V} {H : Hp} {s s' : Shared} (h : BS Xg fp tn σ0 Pa gi F [(Sx, o)] acc H s) (T : ∀ i h h', tn i h → (∀ b ∈ fp, ∀ o, h.get? b = some o → h'.get? b = some o) → tn i h') (hS : Xg.s_0.heap.objs.size ≤ Sx) (hpn : ∀ p ∈ Xg.pn, p.1 ≠ Sx) (os : s'.os = s.os) (gens : s'.gens = s.gens)
    (keep : ∀ b ob, b ≠ Sx → s.heap.get? b = some ob → s'.heap.get? b = some ob) (new : s'.heap.get? Sx = some o') (hd : ∀ v, o'.data ≠ .cell v) : BS Xg fp tn σ0 Pa gi F [(Sx, o')] acc H s' := by
  obtain ⟨i, ls, gs, hgs, hgo⟩ := h
  have ne : ∀ b ∈ fp, b ≠ Sx := fun b hb e => (ls.2.1 b hb).2.2.2.2.2 (Sx, o) (List.mem_append_right _ List.mem_cons_self) e.symm
  refine ⟨i, ⟨inv_repin ls.1 hS hpn os (by rw [gens]; exact ls.1.bare) keep new hd, fun b hb => ?_, T _ _ _ ls.2.2 fun b hb ob e => keep b ob (ne b hb) e⟩, gs, by rw [gens]; exact hgs, hgo⟩
  obtain ⟨f0, f1, f2, f3, f4, f5⟩ := ls.2.1 b hb
  refine ⟨f0, f1, f2, f3, f4, fun p hp => ?_⟩
  rcases List.mem_append.mp hp with hp | hp
  · exact f5 p (List.mem_append_left _ hp)
  · rw [List.mem_singleton.mp hp]
    exact Ne.symm (ne b hb)
end
/-! ### what eats it -/
def stAll : Stp := fun acc x acc' go => (x = .bl true ∧ acc' = .bl true ∧ go = true) ∨ (x = .bl false ∧ acc' = .bl false ∧ go = false)
def stAny : Stp := fun acc x acc' go => (x = .bl false ∧ acc' = .bl false ∧ go = true) ∨ (x = .bl true ∧ acc' = .bl true ∧ go = false)
def stSum : Stp := fun acc x acc' go => ∃ i j : Int, acc = .int i ∧ x = .int j ∧ acc' = .int (i + j) ∧ go = true ∧ InLong j ∧ InLong (i + j)
def paB (b : Bool) : List (Addr × Obj) → V → Prop := fun pins acc => pins = [] ∧ acc = .bl b
def paI (Sx : Addr) : List (Addr × Obj) → V → Prop := fun pins acc => ∃ (i : Int) (t : Tok) (c : Nat), pins = [(Sx, lob #[.int i t] c)] ∧ acc = .int i
theorem paB_ok (b : Bool) : PaOk (paB b) := fun pins pins1 acc acc1 h ⟨h1, h2⟩ ⟨h3, h4⟩ _ _ => ⟨by rw [h1, h3], by rw [h2, h4]⟩
theorem paI_ok (Sx : Addr) : PaOk (paI Sx) := fun pins pins1 acc acc1 h ⟨i, t, c, h1, h2⟩ ⟨i1, t1, c1, h3, h4⟩ p p1 => by
  subst h1
  subst h3
  have e1 := p (Sx, lob #[.int i t] c) List.mem_cons_self
  have e2 := p1 (Sx, lob #[.int i1 t1] c1) List.mem_cons_self
  have e3 : lob #[.int i t] c = lob #[.int i1 t1] c1 := Option.some.inj (e1.symm.trans e2)
  have e4 : i = i1 := by
    have := congrArg Obj.data e3
    simp at this
    exact this.1.1
  rw [e3, h2, h4, e4]
  exact ⟨rfl, rfl⟩
section
variable {Xg : Cx} {fp : List Addr} {tn : Nat → Heap → Prop} {σ0 : L2.St} {Qe : V → Hp → Prop} {B : Around} {a : Addr} {gi : Nat} {go : Obj} {R : Result → Shared → Prop}
theorem all_loop (hh : B.handled = none) (hroom : B.depth < recursionLimit) (hpn : Xg.pn = [(a, go)]) (gen : ∃ nm qn, go.cls = .type "generator" ∧ go.data = .fields #[.int gi 0, nm, qn] ∧ go.slots = #[])
    (hR : ∀ (b : Bool) pins H s, Qe (.bl b) H → Inv Xg pins σ0 H s → R (.ok (.ret (.bool b))) s) : ∀ (n : Nat) (H : Hp) (s : Shared), BS Xg fp tn σ0 (paB true) gi (Goe Xg fp tn σ0 (paB true) stAll Qe B.in1.in1 n) [] (.bl true) H s →
      codeAny (model Xg.prog Xg.w) B (.builtin "all.loop" ⟨[.ref a], []⟩) R s := by
  intro n
  induction n with
  | zero =>
    intro H s bs
    refine codeAny_builtin F.entry_all_loop ?_
    rw [Around.under_plainId F.plain_all_loop _]
    show wpAny _ B.in1 (pyNext (.ref a) >>= _) _ _ s
    refine wpAny_bind (next_g (B := B.in1) rfl (paB_ok true) hh hroom hpn gen bs ⟨rfl, rfl⟩ (fun v x acc' go' H' s1 rx st I1 qf qt => ?_) fun H' s1 qe I1 => ?_)
    · rcases st with ⟨rfl, rfl, rfl⟩ | ⟨rfl, rfl, rfl⟩
      · obtain ⟨m, hm, _⟩ := (qt rfl).less ⟨rfl, rfl⟩
        omega
      · cases rx
        refine wpAny_bind (wpAny_holding (wpAny_truthy_bool ?_))
        refine wpAny_bind (wpAny_letGo ?_)
        simp only [Bool.false_eq_true, if_false]
        first
          | exact wpAny_pure (hR false _ H' s1 (qf rfl) I1)
          | exact wpAny_bind (wpAny_rule (wpAny_pure (hR false _ H' s1 (qf rfl) I1)))
    · exact wpAny_bind (wpAny_rule (wpAny_pure (hR true _ H' s1 qe I1)))
  | succ n ih =>
    intro H s bs
    refine codeAny_builtin F.entry_all_loop ?_
    rw [Around.under_plainId F.plain_all_loop _]
    show wpAny _ B.in1 (pyNext (.ref a) >>= _) _ _ s
    refine wpAny_bind (next_g (B := B.in1) rfl (paB_ok true) hh hroom hpn gen bs ⟨rfl, rfl⟩ (fun v x acc' go' H' s1 rx st I1 qf qt => ?_) fun H' s1 qe I1 => ?_)
    · rcases st with ⟨rfl, rfl, rfl⟩ | ⟨rfl, rfl, rfl⟩
      · cases rx
        refine wpAny_bind (wpAny_holding (wpAny_truthy_bool ?_))
        refine wpAny_bind (wpAny_letGo ?_)
        simp only [if_true]
        obtain ⟨m, hm, b2⟩ := (qt rfl).less ⟨rfl, rfl⟩
        obtain rfl : n = m := by omega
        exact wpAny_pure ⟨plainId_quiet F.plain_all_loop _, ih H' s1 b2⟩
      · cases rx
        refine wpAny_bind (wpAny_holding (wpAny_truthy_bool ?_))
        refine wpAny_bind (wpAny_letGo ?_)
        simp only [Bool.false_eq_true, if_false]
        first
          | exact wpAny_pure (hR false _ H' s1 (qf rfl) I1)
          | exact wpAny_bind (wpAny_rule (wpAny_pure (hR false _ H' s1 (qf rfl) I1)))
    · exact wpAny_bind (wpAny_rule (wpAny_pure (hR true _ H' s1 qe I1)))
theorem any_loop (hh : B.handled = none) (hroom : B.depth < recursionLimit) (hpn : Xg.pn = [(a, go)]) (gen : ∃ nm qn, go.cls = .type "generator" ∧ go.data = .fields #[.int gi 0, nm, qn] ∧ go.slots = #[])
    (hR : ∀ (b : Bool) pins H s, Qe (.bl b) H → Inv Xg pins σ0 H s → R (.ok (.ret (.bool b))) s) : ∀ (n : Nat) (H : Hp) (s : Shared), BS Xg fp tn σ0 (paB false) gi (Goe Xg fp tn σ0 (paB false) stAny Qe B.in1.in1 n) [] (.bl false) H s →
      codeAny (model Xg.prog Xg.w) B (.builtin "any.loop" ⟨[.ref a], []⟩) R s := by
  intro n
  induction n with
  | zero =>
    intro H s bs
    refine codeAny_builtin F.entry_any_loop ?_
    rw [Around.under_plainId F.plain_any_loop _]
    show wpAny _ B.in1 (pyNext (.ref a) >>= _) _ _ s
    refine wpAny_bind (next_g (B := B.in1) rfl (paB_ok false) hh hroom hpn gen bs ⟨rfl, rfl⟩ (fun v x acc' go' H' s1 rx st I1 qf qt => ?_) fun H' s1 qe I1 => ?_)
    · rcases st with ⟨rfl, rfl, rfl⟩ | ⟨rfl, rfl, rfl⟩
      · obtain ⟨m, hm, _⟩ := (qt rfl).less ⟨rfl, rfl⟩
        omega
      · cases rx
        refine wpAny_bind (wpAny_holding (wpAny_truthy_bool ?_))
        refine wpAny_bind (wpAny_letGo ?_)
        simp only [if_true]
        first
          | exact wpAny_pure (hR true _ H' s1 (qf rfl) I1)
          | exact wpAny_bind (wpAny_rule (wpAny_pure (hR true _ H' s1 (qf rfl) I1)))
    · exact wpAny_bind (wpAny_rule (wpAny_pure (hR false _ H' s1 qe I1)))
  | succ n ih =>
    intro H s bs
    refine codeAny_builtin F.entry_any_loop ?_
    rw [Around.under_plainId F.plain_any_loop _]
    show wpAny _ B.in1 (pyNext (.ref a) >>= _) _ _ s
    refine wpAny_bind (next_g (B := B.in1) rfl (paB_ok false) hh hroom hpn gen bs ⟨rfl, rfl⟩ (fun v x acc' go' H' s1 rx st I1 qf qt => ?_) fun H' s1 qe I1 => ?_)
    · rcases st with ⟨rfl, rfl, rfl⟩ | ⟨rfl, rfl, rfl⟩
      · cases rx
        refine wpAny_bind (wpAny_holding (wpAny_truthy_bool ?_))
        refine wpAny_bind (wpAny_letGo ?_)
        simp only [Bool.false_eq_true, if_false]
        obtain ⟨m, hm, b2⟩ := (qt rfl).less ⟨rfl, rfl⟩
        obtain rfl : n = m := by omega
        exact wpAny_pure ⟨plainId_quiet F.plain_any_loop _, ih H' s1 b2⟩
      · cases rx
        refine wpAny_bind (wpAny_holding (wpAny_truthy_bool ?_))
        refine wpAny_bind (wpAny_letGo ?_)
        simp only [if_true]
        first
          | exact wpAny_pure (hR true _ H' s1 (qf rfl) I1)
          | exact wpAny_bind (wpAny_rule (wpAny_pure (hR true _ H' s1 (qf rfl) I1)))
    · exact wpAny_bind (wpAny_rule (wpAny_pure (hR false _ H' s1 qe I1)))
theorem sum_loop {Sx : Addr} (hh : B.handled = none) (hroom : B.depth < recursionLimit) (hpn : Xg.pn = [(a, go)]) (gen : ∃ nm qn, go.cls = .type "generator" ∧ go.data = .fields #[.int gi 0, nm, qn] ∧ go.slots = #[])
    (T : ∀ i h h', tn i h → (∀ b ∈ fp, ∀ o, h.get? b = some o → h'.get? b = some o) → tn i h') (hS : Xg.s_0.heap.objs.size ≤ Sx) (ha : a ≠ Sx)
    (hR : ∀ (i : Int) (t : Tok) pins H s, Qe (.int i) H → Inv Xg pins σ0 H s → R (.ok (.ret (.int i t))) s) : ∀ (n : Nat) (i : Int) (t : Tok) (c : Nat) (H : Hp) (s : Shared),
      BS Xg fp tn σ0 (paI Sx) gi (Goe Xg fp tn σ0 (paI Sx) stSum Qe B.in1.in1 n) [(Sx, lob #[.int i t] c)] (.int i) H s →
      codeAny (model Xg.prog Xg.w) B (.builtin "sum.loop" ⟨[.ref a, .ref Sx, rawInt 0, rawInt 0], []⟩) R s := by
  intro n
  induction n with
  | zero =>
    intro i t c H s bs
    have eS : s.heap.get? Sx = some (lob #[.int i t] c) := by
      obtain ⟨j, ls, _⟩ := bs
      exact (ls.1.pin (Sx, lob #[.int i t] c) (List.mem_append_right _ List.mem_cons_self)).1
    refine codeAny_builtin F.entry_sum_loop ?_
    rw [Around.under_plainId F.plain_sum_loop _]
    show wpAny _ B.in1 (seqItems? (.ref Sx) >>= _) _ _ s
    refine wpAny_bind (wpAny_seqItems eS rfl ?_)
    show wpAny _ B.in1 (tryCatch (pyNext (.ref a)) _ >>= _) _ _ s
    refine wpAny_bind (wpAny_tryCatch (next_g (B := B.in1) rfl (paI_ok Sx) hh hroom hpn gen bs ⟨i, t, c, rfl, rfl⟩ (fun v x acc' go' H' s1 rx st I1 qf qt => ?_) fun H' s1 qe I1 => ?_))
    · obtain ⟨i', j, e1, e2, e3, e4, _⟩ := st
      subst e4
      have q := qt rfl
      have b2 := q.repin (o' := lob #[.int (i' + j) t] c) (s' := { s1 with heap := s1.heap.update Sx (Obj.mapSeq fun _ => #[.int (i' + j) t]) }) T hS (fun p hp => by rw [hpn] at hp; rw [List.mem_singleton.mp hp]; exact ha) rfl rfl (fun b ob hb e => (Heap.get?_update_other _ _ (Ne.symm hb)).trans e)
        (Heap.get?_update_self _ (by
          obtain ⟨j, ls, _⟩ := q
          exact (ls.1.pin (Sx, lob #[.int i t] c) (List.mem_append_right _ List.mem_cons_self)).1) rfl) (fun v q => by cases q)
      obtain ⟨m, hm, _⟩ := b2.less ⟨i' + j, t, c, rfl, e3⟩
      omega
    · exact wpAny_pure (hR i t _ H' s1 qe I1)
  | succ n ih =>
    intro i t c H s bs
    have eS : s.heap.get? Sx = some (lob #[.int i t] c) := by
      obtain ⟨j, ls, _⟩ := bs
      exact (ls.1.pin (Sx, lob #[.int i t] c) (List.mem_append_right _ List.mem_cons_self)).1
    refine codeAny_builtin F.entry_sum_loop ?_
    rw [Around.under_plainId F.plain_sum_loop _]
    show wpAny _ B.in1 (seqItems? (.ref Sx) >>= _) _ _ s
    refine wpAny_bind (wpAny_seqItems eS rfl ?_)
    show wpAny _ B.in1 (tryCatch (pyNext (.ref a)) _ >>= _) _ _ s
    refine wpAny_bind (wpAny_tryCatch (next_g (B := B.in1) rfl (paI_ok Sx) hh hroom hpn gen bs ⟨i, t, c, rfl, rfl⟩ (fun v x acc' go' H' s1 rx st I1 qf qt => ?_) fun H' s1 qe I1 => ?_))
    · obtain ⟨i', j, e1, e2, e3, e4, ⟨f1, f2⟩, f3, f4⟩ := st
      cases e1
      subst e2
      subst e3
      subst e4
      obtain ⟨tj, rfl⟩ := rx
      have eS1 : s1.heap.get? Sx = some (lob #[.int i t] c) := (I1.pin (Sx, lob #[.int i t] c) (List.mem_append_right _ List.mem_cons_self)).1
      have hc : ((decide (-(2 ^ 63) ≤ j) && decide (j < 2 ^ 63)) && (decide (-(2 ^ 63) ≤ i + j) && decide (i + j < 2 ^ 63))) = true := by
        simp only [Bool.and_eq_true, decide_eq_true_eq]
        exact ⟨⟨f1, f2⟩, f3, f4⟩
      show wpAny _ B.in1 (if (_ : Bool) = true then (mkInt (i + j) >>= _) else _) _ _ _
      split
      · refine wpAny_bind (wpAny_mkInt ?_)
        show wpAny _ B.in1 (updateSeq Sx (fun _ => #[.int (i + j) s1.toks]) >>= _) _ _ _
        refine wpAny_bind ?_
        have b2 := (qt rfl).repin (o' := lob #[.int (i + j) s1.toks] c) (s' := { s1 with toks := s1.toks + 1, heap := s1.heap.update Sx (Obj.mapSeq fun _ => #[.int (i + j) s1.toks]) }) T hS (fun p hp => by rw [hpn] at hp; rw [List.mem_singleton.mp hp]; exact ha) rfl rfl (fun b ob hb e => (Heap.get?_update_other _ _ (Ne.symm hb)).trans e)
          (Heap.get?_update_self _ eS1 rfl) (fun v q => by cases q)
        obtain ⟨m, hm, b3⟩ := b2.less ⟨i + j, s1.toks, _, rfl, rfl⟩
        obtain rfl : n = m := by omega
        exact wpAny_updateSeq eS1 rfl (wpAny_pure ⟨plainId_quiet F.plain_sum_loop _, ih (i + j) s1.toks _ H' _ b3⟩)
      · rename_i hneg
        exact absurd hc hneg
    · exact wpAny_pure (hR i t _ H' s1 qe I1)
end
end Sk

set_option maxHeartbeats 1000000
/-! Sk, part 16: sum, all, any of a generator expression. -/
namespace Sk
open PySem PySem.Spec PyProof.Rows L2 GenW GxR
def tGen (P : Addr) (wi : TI) (g : TG) (te : TE) (own : List Nat) (acc0 : V) (S : Stp) : TE := fun σ H Q => wi σ H fun J H1 => TabG H1 P ∧ ∀ H2, Tabbed P H1 H2 → ∃ W n, W 0 n acc0 H2 ∧ Turns J g te own (wipe σ own) S Q W
section
variable {X : Cx} {k : Nat} {c P : Addr} {scope : Scope} {own : List Nat} {tg elt iter : Expr} {gpos p pos : Pos} {wi : TI} {g : TG} {te : TE}
/-- the first sleep -/
theorem bs_start {pins : List (Addr × Obj)} {σ : L2.St} {J : It} {code : Value} {s4 s5 s6 : Shared} {H4 : Hp} {fp : List Addr} {it : Addr} {tn : Nat → Heap → Prop} {a : Addr} {gi : Nat} {go : Obj} {Pa : List (Addr × Obj) → V → Prop} {S : Stp} {Qe : V → Hp → Prop} {W : Nat → Nat → V → Hp → Prop} {n : Nat} {acc : V} {pins' : List (Addr × Obj)}
    (hc : X.calm = true) (G : GSc X.N X.env.scope scope own) (hg : PG (cxG X scope code s4 H4 [(a, go)] fp) tg g) (he : PE (cxG X scope code s4 H4 [(a, go)] fp) elt te)
    (M : Made X pins σ tg elt iter scope gpos J code s4 H4 fp it tn a gi go s5) (w : W 0 n acc H4) (tu : Turns J g te own (wipe σ own) S Qe W) (kp : ∀ b o, s5.heap.get? b = some o → s6.heap.get? b = some o) (os : s6.os = s5.os) (gens : s6.gens = s5.gens)
    (hp : ∀ q ∈ pins', s6.heap.get? q.1 = some q.2 ∧ s4.heap.objs.size < q.1 ∧ ∀ v, q.2.data ≠ .cell v) :
    BS (cxG X scope code s4 H4 [(a, go)] fp) fp tn (wipe σ own) Pa gi (Goe (cxG X scope code s4 H4 [(a, go)] fp) fp tn (wipe σ own) Pa S Qe X.A.in1.in1 n) pins' acc H4 s6 := by
  have lt : ∀ b ∈ fp, ∃ o, s4.heap.get? b = some o := fun b hb => let ⟨o, e, _⟩ := M.T.obj _ _ M.tn0 b hb; ⟨o, e⟩
  obtain ⟨m, ns⟩ := M.ns
  have I6 : Inv (cxG X scope code s4 H4 [(a, go)] fp) pins' (wipe σ own) H4 s6 := by
    refine inv_gen M.I4 hc G M.ff lt (fun b o e => kp b o (M.keep b o e)) (os.trans M.os) (by rw [gens]; exact M.bare) (ns.keeps kp) fun q hq => ?_
    rcases List.mem_append.mp hq with hq | hq
    · rw [List.mem_singleton.mp hq]
      refine ⟨kp _ _ M.obj, M.ga, fun v z => ?_⟩
      obtain ⟨nm, qn, _, d, _⟩ := M.gen
      have z : go.data = .cell v := z
      rw [d] at z
      cases z
    · exact hp q hq
  refine ⟨0, ⟨I6, fun b hb => ?_, M.T.keep _ _ _ M.tn0 fun b hb o e => kp b o (M.keep b o e)⟩, GenState.fresh (.compStart (.GeneratorExp elt [⟨tg, iter, [], 0⟩] scope gpos) 0 (.ref it) .none (envG X scope code s4.heap.objs.size)), by rw [gens]; exact M.gs, fun pins2 s7 pa ls => ⟨rfl, ?_⟩⟩
  · obtain ⟨o, e⟩ := lt b hb
    have hl := Heap.lt_size e
    refine ⟨(M.ff b hb).1, Nat.ne_of_lt hl, I6.ok.exfs b hb, .inl hb, fun x c e => (I6.ok.exf b hb).2 x c e, fun q hq => ?_⟩
    rcases List.mem_append.mp hq with hq | hq
    · have hq : q ∈ [(a, go)] := hq
      rw [List.mem_singleton.mp hq]
      exact Nat.ne_of_gt (Nat.lt_trans hl M.ga)
    · exact Nat.ne_of_gt (Nat.lt_trans hl (hp q hq).2.1)
  · exact seg_start (Xg := cxG X scope code s4 H4 [(a, go)] fp) (A := X.A.in1.in1) rfl rfl G.co rfl M.T hg he (fun _ _ z => z) tu n acc H4 pins2 s7 s7 w pa (fun q hq => (ls.1.pin q (List.mem_append_right _ hq)).1) ls
variable (hr : Room k X.A) (hc : X.calm = true) (TB : TabB X.base X.mg c P) (hcode : X.env.code = .ref c) (G : GSc X.N X.env.scope scope own) (hi : PI X tg iter wi)
  (hpg : ∀ (code : Value) (s : Shared) (H : Hp) (pn : List (Addr × Obj)) (fp : List Addr), PG (cxG X scope code s H pn fp) tg g) (hpe : ∀ (code : Value) (s : Shared) (H : Hp) (pn : List (Addr × Obj)) (fp : List Addr), PE (cxG X scope code s H pn fp) elt te)
include hr hc TB hcode G hi hpg hpe
theorem pe_allG (hg : Gl X "all") (hm : X.mg "all" = none) (hs : ∀ v, genFold iter X.env v = pure v := by intro _; rfl)
    (he : starEach [.GeneratorExp elt [⟨tg, iter, [], 0⟩] scope gpos] X.env = (false, eval (.GeneratorExp elt [⟨tg, iter, [], 0⟩] scope gpos) X.env) :: starEach [] X.env := by rfl) :
    PE X (.Call (.Name "all" p) [.GeneratorExp elt [⟨tg, iter, [], 0⟩] scope gpos] [] pos) (tGen P wi g te own (.bl true) stAll) := by
  refine ⟨fun pins s σ H Q I h => ?_⟩
  refine wpAny_Call_Name_kw (ld_blt I hg hm boot_all ?_)
  refine PyProof.Rows.callWith_builtin1 ?_ he (by rfl)
  rw [he]
  show wpAny _ _ (spliced ((false, eval (.GeneratorExp elt [⟨tg, iter, [], 0⟩] scope gpos) X.env) :: backTo pos (starEach [] X.env))) _ _ s
  refine Calls.spliced_cons (gen_made hr TB hcode G hi hs I h fun J code s4 H4 fp it tn a gi go s5 ⟨W, n, w, tu⟩ M => ?_)
  refine Calls.spliced_nil ?_
  have hgen : s5.heap.IsGen a gi := let ⟨nm, qn, d1, d2, d3⟩ := M.gen; ⟨go, nm, qn, M.obj, d1, d2, d3⟩
  refine call_function_tree F.kind_all F.plain_all F.entry_all (F.args_all1 _) ?_
  unfold Builtin.«all»
  refine wpAny_bind (m := oneArg "all" _) (wpAny_pure ?_)
  refine wpAny_bind (wpAny_pyIter_gen hgen ?_)
  have bs := bs_start (s6 := s5) (Pa := paB true) (pins' := []) hc G (hpg code s4 H4 [(a, go)] fp) (hpe code s4 H4 [(a, go)] fp) M w tu (fun _ _ e => e) rfl rfl (fun q hq => absurd hq (by simp))
  exact wpAny_pure ⟨plainId_quiet F.plain_all_loop _, all_loop (Xg := cxG X scope code s4 H4 [(a, go)] fp) (B := X.A) hr.hd hr.depth rfl M.gen (fun b pins2 H2 s2 q I2 => ⟨.bl b, H2, inv_back M.I4 M.ff I2, rfl, q⟩) n H4 s5 bs⟩
theorem pe_anyG (hg : Gl X "any") (hm : X.mg "any" = none) (hs : ∀ v, genFold iter X.env v = pure v := by intro _; rfl)
    (he : starEach [.GeneratorExp elt [⟨tg, iter, [], 0⟩] scope gpos] X.env = (false, eval (.GeneratorExp elt [⟨tg, iter, [], 0⟩] scope gpos) X.env) :: starEach [] X.env := by rfl) :
    PE X (.Call (.Name "any" p) [.GeneratorExp elt [⟨tg, iter, [], 0⟩] scope gpos] [] pos) (tGen P wi g te own (.bl false) stAny) := by
  refine ⟨fun pins s σ H Q I h => ?_⟩
  refine wpAny_Call_Name_kw (ld_blt I hg hm boot_any ?_)
  refine PyProof.Rows.callWith_builtin1 ?_ he (by rfl)
  rw [he]
  show wpAny _ _ (spliced ((false, eval (.GeneratorExp elt [⟨tg, iter, [], 0⟩] scope gpos) X.env) :: backTo pos (starEach [] X.env))) _ _ s
  refine Calls.spliced_cons (gen_made hr TB hcode G hi hs I h fun J code s4 H4 fp it tn a gi go s5 ⟨W, n, w, tu⟩ M => ?_)
  refine Calls.spliced_nil ?_
  have hgen : s5.heap.IsGen a gi := let ⟨nm, qn, d1, d2, d3⟩ := M.gen; ⟨go, nm, qn, M.obj, d1, d2, d3⟩
  refine call_function_tree F.kind_any F.plain_any F.entry_any (F.args_any1 _) ?_
  unfold Builtin.«any»
  refine wpAny_bind (m := oneArg "any" _) (wpAny_pure ?_)
  refine wpAny_bind (wpAny_pyIter_gen hgen ?_)
  have bs := bs_start (s6 := s5) (Pa := paB false) (pins' := []) hc G (hpg code s4 H4 [(a, go)] fp) (hpe code s4 H4 [(a, go)] fp) M w tu (fun _ _ e => e) rfl rfl (fun q hq => absurd hq (by simp))
  exact wpAny_pure ⟨plainId_quiet F.plain_any_loop _, any_loop (Xg := cxG X scope code s4 H4 [(a, go)] fp) (B := X.A) hr.hd hr.depth rfl M.gen (fun b pins2 H2 s2 q I2 => ⟨.bl b, H2, inv_back M.I4 M.ff I2, rfl, q⟩) n H4 s5 bs⟩
theorem pe_sumG (hg : Gl X "sum") (hm : X.mg "sum" = none) (hs : ∀ v, genFold iter X.env v = pure v := by intro _; rfl)
    (he : starEach [.GeneratorExp elt [⟨tg, iter, [], 0⟩] scope gpos] X.env = (false, eval (.GeneratorExp elt [⟨tg, iter, [], 0⟩] scope gpos) X.env) :: starEach [] X.env := by rfl) :
    PE X (.Call (.Name "sum" p) [.GeneratorExp elt [⟨tg, iter, [], 0⟩] scope gpos] [] pos) (tGen P wi g te own (.int 0) stSum) := by
  refine ⟨fun pins s σ H Q I h => ?_⟩
  refine wpAny_Call_Name_kw (ld_blt I hg hm boot_sum ?_)
  refine PyProof.Rows.callWith_builtin1 ?_ he (by rfl)
  rw [he]
  show wpAny _ _ (spliced ((false, eval (.GeneratorExp elt [⟨tg, iter, [], 0⟩] scope gpos) X.env) :: backTo pos (starEach [] X.env))) _ _ s
  refine Calls.spliced_cons (gen_made hr TB hcode G hi hs I h fun J code s4 H4 fp it tn a gi go s5 ⟨W, n, w, tu⟩ M => ?_)
  refine Calls.spliced_nil ?_
  have hgen : s5.heap.IsGen a gi := let ⟨nm, qn, d1, d2, d3⟩ := M.gen; ⟨go, nm, qn, M.obj, d1, d2, d3⟩
  have hlt : a < s5.heap.objs.size := Heap.lt_size M.obj
  refine call_function_tree F.kind_sum F.plain_sum F.entry_sum (F.args_sum1 _) ?_
  unfold Builtin.«sum»
  simp only [List.length_cons, List.length_nil]
  rw [if_neg (by decide)]
  refine wpAny_bind (wpAny_of_eq (show Builtin.Builtins.bindParams "sum" ["start"] 0 { } = pure [none] from rfl) ?_)
  refine wpAny_bind (wpAny_pyIter_gen hgen ?_)
  refine wpAny_bind (wpAny_mkInt ?_)
  refine wpAny_bind (wpAny_pure ?_)
  simp only [List.forIn_cons, List.forIn_nil]
  refine wpAny_bind (wpAny_bind (wpAny_bind (wpAny_isInstance (T := "int") (b := false) (typeIs_int _ _ _) PySem.sub_int_str ?_)))
  simp only [Bool.false_eq_true, if_false]
  refine wpAny_pure (wpAny_bind (wpAny_bind (wpAny_isInstance (T := "int") (b := false) (typeIs_int _ _ _) PySem.sub_int_bytes ?_)))
  simp only [Bool.false_eq_true, if_false]
  refine wpAny_pure (wpAny_bind (wpAny_bind (wpAny_isInstance (T := "int") (b := false) (typeIs_int _ _ _) PySem.sub_int_bytearray ?_)))
  simp only [Bool.false_eq_true, if_false]
  refine wpAny_pure (wpAny_pure ?_)
  refine wpAny_bind (wpAny_newObj_type ?_)
  refine wpAny_pure ⟨plainId_quiet F.plain_sum_loop _, ?_⟩
  have sS : s4.heap.objs.size < s5.heap.objs.size := Nat.lt_trans M.ga hlt
  refine sum_loop (Xg := cxG X scope code s4 H4 [(a, go)] fp) (B := X.A) (Sx := s5.heap.objs.size) hr.hd hr.depth rfl M.gen M.T.keep (Nat.le_of_lt sS) (Nat.ne_of_lt hlt) (fun i t pins2 H2 s2 q I2 => ⟨.int i, H2, inv_back M.I4 M.ff I2, ⟨t, rfl⟩, q⟩) n 0 s5.toks 0 H4 _
    (bs_start (Pa := paI s5.heap.objs.size) hc G (hpg code s4 H4 [(a, go)] fp) (hpe code s4 H4 [(a, go)] fp) M w tu (fun b o e => Heap.get?_push_of_some _ e) rfl rfl fun q hq => ?_)
  rw [List.mem_singleton.mp hq]
  exact ⟨Heap.get?_push_size _ rfl, sS, fun v z => by cases z⟩
end
/-! ### in our words -/
def genTurn (t : CT) (e : CE) (x : Va) (ev : Ev) (st : Sto) : Rs Va := ((t x ev st).bind fun ev1 st1 => e ev1 st1).calm
abbrev Eat := Va → Va → Option (Va × Bool)
def genL (l : Lk) (f : Va → Ev → Sto → Rs Va) (k : Eat) : List Va → Va → Ev → Sto → Rs Va
  | [], acc => fun _ st => if lkOk l st = true then .ok acc st else .bad
  | x :: r, acc => fun ev st => if lkOk l st = true then (f x ev st).bind fun y st1 => match k acc y with
    | some (a, true) => genL l f k r a ev st1
    | some (a, false) => .ok a st1
    | none => .bad else .bad
def dGen (k : Eat) (acc0 : Va) (it : CI) (own : List Nat) (t : CT) (e : CE) : CE := fun ev st => (it ev st).bind fun p st1 => genL p.2 (genTurn t e) k p.1 acc0 (wipeE ev own) st1
def eatAll : Eat := fun _ y => match y with
  | .dat (.bool true) => some (.dat (.bool true), true)
  | .dat (.bool false) => some (.dat (.bool false), false)
  | _ => none
def eatAny : Eat := fun _ y => match y with
  | .dat (.bool false) => some (.dat (.bool false), true)
  | .dat (.bool true) => some (.dat (.bool true), false)
  | _ => none
def long (i : Int) : Bool := upto 9000000000000000000 i
theorem long_in {i : Int} (h : long i = true) : InLong i := by
  have := upto_iff.mp h
  unfold InLong
  omega
def eatSum : Eat := fun a y => match a, y with
  | .dat (.int i), .dat (.int j) => if (long j && long (i + j)) = true then some (.dat (.int (i + j)), true) else none
  | _, _ => none
def accV : Va → Option V
  | .dat (.int i) => some (.int i)
  | .dat (.bool b) => some (.bl b)
  | _ => none
theorem accV_rel {C : Cfg} {H : Hp} {M : Addr → Prop} {m : List Addr} {a : Va} {v : V} (h : accV a = some v) : RV C H M m v a := by
  unfold accV at h
  split at h <;> cases h
  · exact .dat (.int _)
  · exact .dat (.bl _)
def EatS (C : Cfg) (k : Eat) (S : Stp) : Prop := ∀ (H : Hp) (M : Addr → Prop) (m : List Addr) (a y a' : Va) (va v : V) (go : Bool), accV a = some va → RV C H M m v y → k a y = some (a', go) → ∃ va', accV a' = some va' ∧ S va v va' go
section
variable {C : Cfg}
theorem eats_all : EatS C eatAll stAll := fun H M m a y a' va v go ha rv e => by
  unfold eatAll at e
  split at e
  · cases e; cases rv with | dat rd => cases rd; exact ⟨_, rfl, .inl ⟨rfl, rfl, rfl⟩⟩
  · cases e; cases rv with | dat rd => cases rd; exact ⟨_, rfl, .inr ⟨rfl, rfl, rfl⟩⟩
  · cases e
theorem eats_any : EatS C eatAny stAny := fun H M m a y a' va v go ha rv e => by
  unfold eatAny at e
  split at e
  · cases e; cases rv with | dat rd => cases rd; exact ⟨_, rfl, .inl ⟨rfl, rfl, rfl⟩⟩
  · cases e; cases rv with | dat rd => cases rd; exact ⟨_, rfl, .inr ⟨rfl, rfl, rfl⟩⟩
  · cases e
theorem eats_sum : EatS C eatSum stSum := fun H M m a y a' va v go ha rv e => by
  unfold eatSum at e
  split at e
  · rename_i i j
    split at e
    · rename_i hl
      rw [Bool.and_eq_true] at hl
      cases e
      cases ha
      cases rv with
      | dat rd => cases rd; exact ⟨_, rfl, i, j, rfl, rfl, rfl, rfl, long_in hl.1, long_in hl.2⟩
    · cases e
  · cases e
theorem RH.tabbed {M0 : Addr → Prop} {m : List Addr} {H H2 : Hp} {st : Sto} {P : Addr} (rh : RH C M0 m H st) (hP : (P, none) ∈ C.T) (hq : ∀ q, (P, some q) ∉ C.T) (t : Tabbed P H H2) : Go m H m H2 ∧ RH C M0 m H2 st := by
  obtain ⟨ps, hp1, _⟩ := rh.tb _ hP
  have hp1 : H P = some (.tbl ps) := hp1
  obtain ⟨⟨ps2, hp2, ht2⟩, same⟩ := t
  have ne : ∀ b o, H b = some o → NoTbl o → b ≠ P := fun b o h n e => by rw [e, hp1] at h; cases h; exact n ps rfl
  have g : Go m H m H2 := by
    refine ⟨⟨[], by simp⟩, fun b o h _ n => by rw [same b (ne b o h n)]; exact h, fun b qs h => ?_, fun a h n => absurd h n⟩
    by_cases e : b = P
    · rw [e]; exact ⟨ps2, hp2⟩
    · exact ⟨qs, by rw [same b e]; exact h⟩
  have mu' : ∀ a ∈ m, H2 a = H a := fun a ha => by
    obtain ⟨o, e, x⟩ := rh.mu a ha
    exact same a (ne a o e (mut_notbl x))
  refine ⟨g, ⟨fun a h => ?_, rh.len, rh.nd, rh.dj, fun a ha => ?_, fun n o hn => ?_, fun p hp => ?_, fun p hp => (rh.hd p hp).go g rh.mu, fun p hp => ⟨by rw [same _ (ne _ _ (rh.ko p hp).1 (rh.ko p hp).2.1)]; exact (rh.ko p hp).1, (rh.ko p hp).2⟩⟩⟩
  · obtain ⟨o, e⟩ := rh.m0 a h
    by_cases z : a = P
    · rw [z]; exact ⟨_, hp2⟩
    · exact ⟨o, by rw [same a z]; exact e⟩
  · obtain ⟨o, e, x⟩ := rh.mu a ha
    exact ⟨o, by rw [mu' a ha]; exact e, x⟩
  · obtain ⟨a, ha, r⟩ := rh.ob n o hn
    exact ⟨a, ha, r.go g rh.mu (mu' a (List.mem_of_getElem? ha))⟩
  · by_cases z : p.1 = P
    · obtain ⟨p1, p2⟩ := p
      have z : p1 = P := z
      subst z
      refine ⟨ps2, hp2, ht2, fun q e => ?_⟩
      have e : p2 = some q := e
      subst e
      exact absurd hp (hq q)
    · obtain ⟨qs, h1, h2, h3⟩ := rh.tb p hp
      refine ⟨qs, by rw [same _ z]; exact h1, h2, fun q e pos cv hc => ?_⟩
      obtain ⟨c, e1, e2⟩ := h3 q e pos cv hc
      exact ⟨c, e1, by rw [same c (ne c _ e2 fun ps z => nomatch z)]; exact e2⟩
variable {W : WX} {P : Addr} {own : List Nat} {wi : CI} {g : TG} {t : CT} {ce : CE} {k : Eat} {S : Stp} {a0 : Va} {v0 : V}
theorem gen_of (hP : (P, none) ∈ C.T) (hq : ∀ q, (P, some q) ∉ C.T) (hT : CompT C own g t) (hS : EatS C k S) (h0 : accV a0 = some v0) (s : L2.St) (H : Hp) (Q : VK) (h : tE C W (dGen k a0 wi own t ce) s H Q) :
    tGen P (tI C W wi) g (tE C W0 ce) own v0 S s H Q :=
  tG.bind (R := relI) (k := fun p ev st1 => genL p.2 (genTurn t ce) k p.1 a0 (wipeE ev own) st1) h fun M0 m ev st p J H1 rh re rj fin => by
    obtain ⟨items, l⟩ := p
    refine ⟨?_, fun H2 tb => ?_⟩
    · obtain ⟨ps, h1, h2, _⟩ := rh.tb _ hP
      exact ⟨ps, h1, h2⟩
    · obtain ⟨g2, rh2⟩ := rh.tabbed hP hq tb
      refine ⟨fun i n acc H' => n = items.length - i ∧ i ≤ items.length ∧ ∃ m' st' a, accV a = some acc ∧ Go m H1 m' H' ∧ RH C M0 m' H' st' ∧ RE C H' M0 m' (wipe s own) (wipeE ev own) ∧
          Fin C M0 m H1 (WE W s) (genL l (genTurn t ce) k (items.drop i) a (wipeE ev own) st') Q,
        items.length, ⟨rfl, Nat.zero_le _, m, st, a0, h0, g2, rh2, wipe_re (re.go g2 rh.mu) own, fin⟩, ?_⟩
      rintro i n acc H' ⟨rfl, hi, m', st', a, ha, g', rh', re', fin'⟩
      by_cases hlt : i < items.length
      · rw [List.drop_eq_getElem_cons hlt] at fin'
        have fin' : Fin C M0 m H1 (WE W s) (if lkOk l st' = true then (genTurn t ce items[i] (wipeE ev own) st').bind fun y st1 => match k a y with
          | some (a, true) => genL l (genTurn t ce) k (items.drop (i + 1)) a (wipeE ev own) st1
          | some (a, false) => .ok a st1
          | none => .bad else .bad) Q := fin'
        cases hl : lkOk l st' with
        | false => rw [hl] at fin'; exact fin'.elim
        | true =>
          rw [hl] at fin'
          simp only [if_true] at fin'
          obtain ⟨go, yld⟩ := (rj M0 m' H' st' g' (fun a z => .inl z) rh' hl i).1 hlt
          refine .inr ⟨items.length - (i + 1), by omega, go, fun x H3 hy => ?_⟩
          obtain ⟨sm, y, ey, ry⟩ := yld x H3 hy
          rw [List.getElem?_eq_getElem hlt] at ey
          cases ey
          have g3 : Go m' H' m' H3 := Go.same sm
          have rh3 := rh'.same sm
          have re3 := re'.go g3 rh'.mu
          rw [show genTurn t ce items[i] (wipeE ev own) st' = ((t items[i] (wipeE ev own) st').bind fun ev1 st1 => ce ev1 st1).calm from rfl] at fin'
          cases ht : t items[i] (wipeE ev own) st' with
          | bad => rw [ht] at fin'; exact fin'.elim
          | err _ _ => rw [ht] at fin'; exact fin'.elim
          | ok ev1 sa =>
            rw [ht] at fin'
            simp only [Rs.bind_ok] at fin'
            refine hT M0 m' H3 _ st' (wipe s own) items[i] x _ rh3 re3 ry ev1 sa ht fun s4 m4 H4 g4 rh4 re4 w4 => ⟨by rw [w4, wipe_wipe], ?_⟩
            cases he : ce ev1 sa with
            | bad => rw [he] at fin'; exact fin'.elim
            | err _ _ => rw [he] at fin'; exact fin'.elim
            | ok z sc =>
              rw [he] at fin'
              simp only [Rs.calm_ok, Rs.bind_ok] at fin'
              refine ⟨M0, m4, ev1, sa, rh4, re4, ?_⟩
              rw [he]
              intro v6 m6 H6 g6 rh6 r6
              have gg6 : Go m' H' m6 H6 := (g3.trans g4).trans g6
              cases hk : k a z with
              | none => rw [hk] at fin'; exact fin'.elim
              | some q =>
                obtain ⟨a2, go2⟩ := q
                rw [hk] at fin'
                obtain ⟨va2, e2, st2⟩ := hS H6 _ m6 a z a2 acc v6 go2 ha r6 hk
                refine ⟨va2, go2, st2, fun hg => ?_, fun hg => ?_⟩
                · subst hg
                  exact fin' va2 m6 H6 (g'.trans gg6) rh6 (accV_rel e2)
                · subst hg
                  exact ⟨rfl, hlt, m6, sc, a2, e2, g'.trans gg6, rh6, re'.go gg6 rh'.mu, fin'⟩
      · have ei : i = items.length := by omega
        subst ei
        rw [List.drop_length] at fin'
        have fin' : Fin C M0 m H1 (WE W s) (if lkOk l st' = true then .ok a st' else .bad) Q := fin'
        cases hl : lkOk l st' with
        | false => rw [hl] at fin'; exact fin'.elim
        | true =>
          rw [hl] at fin'
          exact .inl ⟨(rj M0 m' H' st' g' (fun a z => .inl z) rh' hl items.length).2 (Nat.le_refl _), fin' acc m' H' g' rh' (accV_rel ha)⟩
end
section
variable {X : Cx} {C : Cfg} {W : WX} {k : Nat} {c P : Addr} {scope : Scope} {own : List Nat} {tg elt iter : Expr} {gpos p pos : Pos} {wi : CI} {g : TG} {t : CT} {ce : CE}
variable (hP : (P, none) ∈ C.T) (hq : ∀ q, (P, some q) ∉ C.T) (hT : CompT C own g t) (hr : Room k X.A) (hc : X.calm = true) (TB : TabB X.base X.mg c P) (hcode : X.env.code = .ref c) (G : GSc X.N X.env.scope scope own) (hi : PI X tg iter (tI C W wi))
  (hpg : ∀ (code : Value) (s : Shared) (H : Hp) (pn : List (Addr × Obj)) (fp : List Addr), PG (cxG X scope code s H pn fp) tg g) (hpe : ∀ (code : Value) (s : Shared) (H : Hp) (pn : List (Addr × Obj)) (fp : List Addr), PE (cxG X scope code s H pn fp) elt (tE C W0 ce))
include hP hq hT hr hc TB hcode G hi hpg hpe
theorem fe_allG (hg : Gl X "all") (hm : X.mg "all" = none) (hs : ∀ v, genFold iter X.env v = pure v := by intro _; rfl)
    (he : starEach [.GeneratorExp elt [⟨tg, iter, [], 0⟩] scope gpos] X.env = (false, eval (.GeneratorExp elt [⟨tg, iter, [], 0⟩] scope gpos) X.env) :: starEach [] X.env := by rfl) :
    PE X (.Call (.Name "all" p) [.GeneratorExp elt [⟨tg, iter, [], 0⟩] scope gpos] [] pos) (tE C W (dGen eatAll (.dat (.bool true)) wi own t ce)) :=
  PE.imp (pe_allG hr hc TB hcode G hi hpg hpe hg hm hs he) (gen_of hP hq hT eats_all rfl)
theorem fe_anyG (hg : Gl X "any") (hm : X.mg "any" = none) (hs : ∀ v, genFold iter X.env v = pure v := by intro _; rfl)
    (he : starEach [.GeneratorExp elt [⟨tg, iter, [], 0⟩] scope gpos] X.env = (false, eval (.GeneratorExp elt [⟨tg, iter, [], 0⟩] scope gpos) X.env) :: starEach [] X.env := by rfl) :
    PE X (.Call (.Name "any" p) [.GeneratorExp elt [⟨tg, iter, [], 0⟩] scope gpos] [] pos) (tE C W (dGen eatAny (.dat (.bool false)) wi own t ce)) :=
  PE.imp (pe_anyG hr hc TB hcode G hi hpg hpe hg hm hs he) (gen_of hP hq hT eats_any rfl)
theorem fe_sumG (hg : Gl X "sum") (hm : X.mg "sum" = none) (hs : ∀ v, genFold iter X.env v = pure v := by intro _; rfl)
    (he : starEach [.GeneratorExp elt [⟨tg, iter, [], 0⟩] scope gpos] X.env = (false, eval (.GeneratorExp elt [⟨tg, iter, [], 0⟩] scope gpos) X.env) :: starEach [] X.env := by rfl) :
    PE X (.Call (.Name "sum" p) [.GeneratorExp elt [⟨tg, iter, [], 0⟩] scope gpos] [] pos) (tE C W (dGen eatSum (.dat (.int 0)) wi own t ce)) :=
  PE.imp (pe_sumG hr hc TB hcode G hi hpg hpe hg hm hs he) (gen_of hP hq hT eats_sum rfl)
end
end Sk

set_option maxHeartbeats 1000000
/-! Sk, part 17: what is never reached; a def whose code is known; the end. -/
namespace Sk
open PySem PySem.Spec PyProof.Rows L2 GxR
section
variable {X : Cx} {C : Cfg} {W : WX}
def noE : CE := fun _ _ => .bad
def noT : CB := fun _ _ => .bad
def noS : CS := fun _ _ => .bad
theorem fe_bad {e : Expr} : PE X e (tE C W noE) := ⟨fun pins s σ H Q I ⟨_, _, _, _, _, _, fin⟩ => fin.elim⟩
theorem ft_bad {e : Expr} : PT X e (tT C W noT) := ⟨fun pins s σ H Q I ⟨_, _, _, _, _, _, fin⟩ => fin.elim⟩
theorem fs_bad {e : Stmt} : PS X e (tS C W noS) := ⟨fun pins s σ H D I ⟨_, _, _, _, _, _, fin⟩ => fin.elim⟩
theorem fs_par3 {i j l : Nat} {x y z : Str} {a b c : Expr} {cs : CA} {px py pz pt pos : Pos} {kt k2 : Nat} {pt2 : Pos} (hc : X.calm = true) (hN : X.N.Nodup) (hi : X.N[i]? = some x) (hj : X.N[j]? = some y) (hl : X.N[l]? = some z) (hij : i ≠ j) (hil : i ≠ l) (hjl : j ≠ l)
    (hx : X.env.scope.names.lookup x = some .local) (hy : X.env.scope.names.lookup y = some .local) (hz : X.env.scope.names.lookup z = some .local) (ha : PA X [a, b, c] (tA C W cs))
    (hw : swappedStores [.Tuple [.Name x px, .Name y py, .Name z pz] kt pt] (.Tuple [a, b, c] k2 pt2) X.env = pure (some [x, y, z]))
    (hs : swapsWithSole [.Tuple [.Name x px, .Name y py, .Name z pz] kt pt] (.Tuple [a, b, c] k2 pt2) pos.line X.env = pure false := by rfl) :
    PS X (.Assign [.Tuple [.Name x px, .Name y py, .Name z pz] kt pt] (.Tuple [a, b, c] k2 pt2) pos) (tS C W (dPar3 i j l cs)) :=
  PS.imp (ps_par3 hc hN hi hj hl hij hil hjl hx hy hz ha hw hs) fun D s H h => tS.bind (R := relVs) (k := fun xs ev st1 => match xs with
    | [x, y, z] => .ok (.nx (((ev.set i (some x)).set j (some y)).set l (some z))) st1
    | _ => .bad) h fun M0 m ev st xs vs H1 rh re rv fin => by
    split at fin
    · cases rv with
      | cons r1 rr => cases rr with
        | cons r2 rr => cases rr with
          | cons r3 rr => cases rr with
            | nil => exact ⟨_, _, _, rfl, fin _ m H1 (Go.refl _ _) rh (((re.set i r1).set j r2).set l r3)⟩
    · exact fin.elim
end
section
variable {P : Program} {w : World} {K : PySem.W.Frag} {mg : Str → Option Value} {base : Heap}
/-- a def of the text, its code object known -/
theorem fn_okC {C : Cfg} {x qual : Str} {st : Stmt} {f : Addr} {fd : FuncData} {N ps : List Str} {k n p : Nat} {c : CS} (F : Fun K x qual st f fd) (S : FnScope N ps (defScope st)) (hn : N.length = n) (hp : ps.length = p)
    (hbody : ∀ (cdv : Value) (A : Around) (outer : List Env) (s : Shared) (H : Hp) (E : XK), fd.code = cdv → Room k (A.deeper (envOfC qual (defScope st) s.heap.objs.size f cdv)) →
      PSs (cxOf (L2.CX P w) P w K mg base N qual (defScope st) f cdv A outer s H E) (defBody st) (tS C (fun c d _ H => E c d H) c)) : FnOk P w K mg base (L2.CX P w) (k + 1) f fd ps (spF C p (mkFn n c)) := by
  subst hn
  subst hp
  obtain ⟨oc, od, kV, doc, pm, an, cdv, ct, osl, rfl, lk, hcd⟩ := F.ex
  refine fn_of lk hcd S (fun vs H Q E h => h.1) fun A outer s H vs Q E hr h => ⟨_, hbody cdv A outer s H E rfl hr, ?_⟩
  obtain ⟨_, M0, m, args, st, rh, rv, fin⟩ := h
  refine ⟨M0, m, mkEv N.length args, st, rh, RE.start rv, ?_⟩
  unfold mkFn at fin
  cases e : c (mkEv N.length args) st with
  | bad => rw [e] at fin; exact fin.elim
  | err x st1 =>
    rw [e] at fin
    exact fun s c d m' H' g rh q => fin c d m' H' g rh q
  | ok f st1 =>
    rw [e] at fin
    cases f with
    | nx ev => exact fun s m' H' g rh re => fin .non m' H' g rh (.dat .non)
    | rt x => exact fun v m' H' g rh re => fin v m' H' g rh re
    | bk ev => exact fin.elim
    | ct ev => exact fin.elim
end
theorem flatE0 {E : XK} : Flat (fun c d _ H => E c d H) := fun _ _ _ _ _ h => h
theorem flatW0 : Flat W0 := fun _ _ _ _ _ h => h
/-! ### the end -/
theorem rvs_ints {C : Cfg} {H : Hp} {M : Addr → Prop} {m : List Addr} : ∀ ns : List Int, RVs C H M m (ns.map V.int) (ns.map fun i => .dat (.int i))
  | [] => .nil
  | i :: r => .cons (.dat (.int i)) (rvs_ints r)
def scriptV (ns : List Int) : Va := .seq false (ns.map fun i => .dat (.int i))
theorem rv_script {C : Cfg} {H : Hp} {m : List Addr} {a : Addr} {ns : List Int} (h : SqL C.K H a (ns.map V.int)) : RV C H (Mx (fun _ => False) []) m (.ref a) (scriptV ns) := by
  rcases h with (h | h) | h
  · exact .lst h (fun z => z.elim id fun z => absurd z (by simp)) (rvs_ints ns)
  · exact .frz (.inl h) (rvs_ints ns)
  · exact .frz (.inr h) (rvs_ints ns)
theorem sp_law {C : Cfg} {F : Fn} {n : Nat} {cs : List (Addr × Addr)} (hC : ∀ p ∈ C.T, ∃ q ∈ cs, q.2 = p.1) (h0 : C.hid = []) (h1 : C.ko = []) (hF : ∀ ns : List Int, ns.length ≤ n → ∃ st, F [scriptV ns] [] = .ok (.dat (.bool true)) st) (H : Hp) (a : Addr) (ns : List Int) (hn : ns.length ≤ n)
    (hT : ∀ p ∈ cs, H p.2 = some (.tbl #[])) (hS : SqL C.K H a (ns.map V.int)) : spF C 1 F [.ref a] H (fun v _ => v = .bl true) fun _ _ _ => False := by
  refine ⟨rfl, fun _ => False, [], [scriptV ns], [], ⟨fun a h => h.elim, rfl, .nil, fun a h => by simp at h, fun a h => by simp at h, fun n o h => by simp at h, fun p hp => ?_, fun p hp => absurd hp (by rw [h0]; simp), fun p hp => absurd hp (by rw [h1]; simp)⟩, .cons (rv_script hS) .nil, ?_⟩
  · obtain ⟨q, hq, e⟩ := hC p hp
    refine ⟨#[], by rw [← e]; exact hT q hq, trivial, fun q _ pos cv h => ?_⟩
    cases h
  · obtain ⟨st, e⟩ := hF ns hn
    rw [e]
    intro v m' H' g rh rv
    cases rv with
    | dat rd => cases rd; rfl
/-- tables of the top's defs -/
def TabsOf (q : Program) (K : PySem.W.Frag) (h : Heap) : Prop := ∀ (x : Str) (c P : Addr), ((recsOf q).any fun e => e.name == x) = true → PySem.W.tabIn K x = some (c, P) → PySem.W.CodeHd h c P ∧ h.get? P = some { cls := .none, data := .fields #[] }
theorem walk_sk {l : PySem.W.OpenLaw} {n k : Nat} {q : Program} {loose : List Str} {XP : (Str → Option Value) → Heap → Prop} {YP : World → Heap → Prop} {d : DefRec} {K : Params → PySem.W.Frag} {x : Str}
    (hn : l.most = some n) (hn2 : n ≤ sizeLine) (hdf : d.params.defaults = []) (hr : Room k callerA) (hY : ∀ (w : World) (h : Heap), YP w h → (K w.params).In h)
    (F : ∀ (w : World) (mg : Str → Option Value) (fa : Addr) (h : Heap), (K w.params).In h → h.Ns mainGlobals mg → mg d.name = some (.ref fa) → TabsOf q (K w.params) h → LamX.LawAtS l w (K w.params) (L2.CX l.prog w) k n x mg fa h) :
    PySem.W.WalkO q loose XP YP l.row.toRowW d [] (fun f vs => PySem.call f vs) := by
  refine Att.attach_callB hn hdf fun w s₀ s₁ mg mb fa o pm cd doc a vs ns G Y ho hd hcd hmg hobj hints hlen hbits hg => ?_
  have KX := hY w _ Y
  obtain ⟨fd, cs, sp, hT, nT, C, hb, hsp, hF⟩ := F w mg fa _ KX G.T.g hmg fun x c P hx ht => by
    cases hf : (recsOf q).find? fun e => e.name == x with
    | none =>
      rw [List.find?_eq_none] at hf
      obtain ⟨e, he, h2⟩ := List.any_eq_true.mp hx
      exact absurd h2 (hf e he)
    | some d => exact PySem.W.tab_of G.T KX hf ht
  exact LamX.law_callTs KX G.T.g G.T.b G.T.builtins G.T.nolimit hg hT nT C G.T.bmain hobj hints (Nat.le_trans hlen hn2) hr hF hb (fun H hH hS => hsp H a ns hlen hbits hH hS) fun H e s' z => by
    obtain ⟨_, _, _, _, _, _, _, _, _, _, _, _, z⟩ := z
    exact z
end Sk

set_option maxHeartbeats 1000000
/-! Sk, part 18: odds and ends. -/
namespace Sk
open PySem PySem.Spec PyProof.Rows L2 GxR
theorem hu65 {A : Around} {k : Nat} (r : Room k A) : A.units + 65 < cLine := by have := r.un; omega
def addI (x y : Va) (st : Sto) : Rs Va := match x, y with
  | .dat (.int i), .dat (.int j) => oI (i + j) st
  | _, _ => .bad
section
variable {X : Cx} {C : Cfg} {W : WX}
theorem os_addI : OpS C (rI0 fun i j => .int (i + j)) addI := by
  intro M0 m H st v u x y E Q rh rx ry fin
  unfold addI at fin
  split at fin
  · exact ⟨_, _, rx.int_inv, ry.int_inv, FinG.out (R := relV C M0) fin rh (.dat (.int _))⟩
  · exact fin.elim
def dRetN : CS := fun _ st => .ok (.rt (.dat .none)) st
theorem fs_retN {pos : Pos} : PS X (.Return none pos) (tS C W dRetN) := PS.imp ps_retN fun D s H ⟨M0, m, ev, st, rh, re, fin⟩ => fin .non m H (Go.refl _ _) rh (.dat .non)
end
/-! ### tuples of ints that stand in K -/
def intsB : List Value → List Int → Bool
  | [], [] => true
  | .int i _ :: r, j :: q => i == j && intsB r q
  | _, _ => false
theorem intsB_vals : ∀ {vs : List Value} {ns : List Int}, intsB vs ns = true → Vals (ns.map V.int) vs
  | [], [], _ => .nil
  | .int i t :: r, j :: q, h => by
    have h : (i == j && intsB r q) = true := h
    rw [Bool.and_eq_true] at h
    have e : i = j := eq_of_beq h.1
    subst e
    exact .cons ⟨t, rfl⟩ (intsB_vals h.2)
theorem sqt_K {K : PySem.W.Frag} {H : Hp} {a : Addr} {g : Array Value} {ol : Option Addr} {nn : Nat} {os : Array (Option Value)} {ns : List Int} (h : K.lookup a = some ⟨.type "tuple", ol, .seq g nn, os⟩) (hb : intsB g.toList ns = true) (hs : ns.length ≤ 1000 := by decide) : SqT K H a (ns.map V.int) := by
  have v := intsB_vals hb
  refine .inr ⟨_, g, nn, h, rfl, rfl, ?_, v⟩
  have e := v.length
  rw [List.length_map] at e
  have e2 : g.size = ns.length := by rw [e]; simp
  rw [e2]
  exact Nat.le_of_lt (small1000 hs)
end Sk

/-! Sk, part 19: the words unfolded, for the plain proofs. -/
namespace Sk
open PySem PySem.Spec PyProof.Rows L2
section
variable {ev : Ev} {st : Sto} {a b c : CE} {t u : CB} {p q : CS} {f g : Va → Va → Sto → Rs Va}
@[simp] theorem eC (d : PyData) : dC d ev st = .ok (.dat d) st := rfl
@[simp] theorem eK (xs : List Va) : dK xs ev st = .ok (.seq true xs) st := rfl
@[simp] theorem eVar (i : Nat) : dVar i ev st = match ev[i]? with | some (some x) => .ok x st | _ => .bad := rfl
@[simp] theorem eBin : dBin f a b ev st = (a ev st).bind fun x st1 => (b ev st1).bind fun y st2 => f x y st2 := rfl
@[simp] theorem eUn (h : Va → Sto → Rs Va) : dUn h a ev st = (a ev st).bind h := rfl
@[simp] theorem eAnd : dAnd a b ev st = (a ev st).bind fun x st1 => (asB x st1).bind fun k st2 => if k = true then b ev st2 else .ok (.dat (.bool false)) st2 := rfl
@[simp] theorem eOr : dOr a b ev st = (a ev st).bind fun x st1 => (asB x st1).bind fun k st2 => if k = true then .ok (.dat (.bool true)) st2 else b ev st2 := rfl
@[simp] theorem eIf : dIf t a b ev st = (t ev st).bind fun k st1 => if k = true then a ev st1 else b ev st1 := rfl
@[simp] theorem eTest : dTest a ev st = (a ev st).bind asB := rfl
@[simp] theorem eAndT : dAndT t u ev st = (t ev st).bind fun k st1 => if k = true then u ev st1 else .ok false st1 := rfl
@[simp] theorem eOrT : dOrT t u ev st = (t ev st).bind fun k st1 => if k = true then .ok true st1 else u ev st1 := rfl
@[simp] theorem eNotT : dNotT t ev st = (t ev st).bind fun k st1 => .ok (!k) st1 := rfl
@[simp] theorem eChain : dChain f g a b c ev st = (a ev st).bind fun x st1 => (b ev st1).bind fun y st2 => (f x y st2).bind fun z st3 => (asB z st3).bind fun k st4 => if k = true then (c ev st4).bind fun w st5 => g y w st5 else .ok (.dat (.bool false)) st4 := rfl
@[simp] theorem asB_b (k : Bool) : asB (.dat (.bool k)) st = .ok k st := rfl
@[simp] theorem notV_b (k : Bool) : notV (.dat (.bool k)) st = .ok (.dat (.bool (!k))) st := rfl
@[simp] theorem eNil : dNil ev st = .ok [] st := rfl
@[simp] theorem eCons (r : CA) : dCons a r ev st = (a ev st).bind fun x st1 => (r ev st1).bind fun xs st2 => .ok (x :: xs) st2 := rfl
@[simp] theorem eCallB (h : List Va → Sto → Rs Va) (r : CA) : dCallB h r ev st = (r ev st).bind h := rfl
@[simp] theorem eCallP (F : Fn) (n : Nat) (r : CA) : dCallP F n r ev st = (r ev st).bind fun xs st1 => callP F n xs st1 := rfl
@[simp] theorem eCallO (F : Fn) (n : Nat) (r : CA) : dCallO F n r ev st = (r ev st).bind fun xs st1 => callO F n xs st1 := rfl
@[simp] theorem eTup (r : CA) : dTup r ev st = (r ev st).bind fun xs st1 => if few xs.length = true then .ok (mkT xs) st1 else .bad := rfl
@[simp] theorem eLst (r : CA) : dLst r ev st = (r ev st).bind fun xs st1 => if few xs.length = true then .ok (mkL xs) st1 else .bad := rfl
@[simp] theorem eLstM (r : CA) : dLstM r ev st = (r ev st).bind fun xs st1 => if few xs.length = true then newL xs st1 else .bad := rfl
@[simp] theorem eSl (lo hi : CO) : dSl a lo hi ev st = (a ev st).bind fun x st1 => (lo ev st1).bind fun l st2 => (hi ev st2).bind fun h st3 => slV x l h st3 := rfl
@[simp] theorem eNo : dNo ev st = .ok none st := rfl
@[simp] theorem ePart : dPart a ev st = (a ev st).bind asPart := rfl
@[simp] theorem asPart_i (i : Int) : asPart (.dat (.int i)) st = .ok (some i) st := rfl
@[simp] theorem few_lit {n : Nat} (h : n ≤ 10000000) : few n = true := by unfold few; simpa using h
@[simp] theorem eSkip : dSkip ev st = .ok (.nx ev) st := rfl
@[simp] theorem eSeq : dSeq p q ev st = (p ev st).bind fun f st1 => match f with
  | .nx ev1 => q ev1 st1
  | .bk ev1 => .ok (.bk ev1) st1
  | .ct ev1 => .ok (.ct ev1) st1
  | .rt x => .ok (.rt x) st1 := rfl
@[simp] theorem eRet : dRet a ev st = (a ev st).bind fun x st1 => .ok (.rt x) st1 := rfl
@[simp] theorem eDo : dDo a ev st = (a ev st).bind fun _ st1 => .ok (.nx ev) st1 := rfl
@[simp] theorem eIfS : dIfS t p q ev st = (t ev st).bind fun k st1 => if k = true then p ev st1 else q ev st1 := rfl
@[simp] theorem eAsg (r : CT) : dAsg a r ev st = (a ev st).bind fun x st1 => (r x ev st1).bind fun ev1 st2 => .ok (.nx ev1) st2 := rfl
@[simp] theorem eN (i : Nat) (x : Va) : gN i x ev st = .ok (ev.set i (some x)) st := rfl
@[simp] theorem eTp (n : Nat) (r : CTs) (x : Va) : gTp n r x ev st = match seqOf st x with
  | some (true, xs) => if (xs.length == n) = true then r xs ev st else .bad
  | _ => .bad := rfl
@[simp] theorem esNil : gsNil [] ev st = .ok ev st := rfl
@[simp] theorem esCons (r : CT) (s : CTs) (x : Va) (xs : List Va) : gsCons r s (x :: xs) ev st = (r x ev st).bind fun ev1 st1 => s xs ev1 st1 := rfl
@[simp] theorem eSb (x : Va) : gSb a b x ev st = (a ev st).bind fun y st1 => (b ev st1).bind fun z st2 => (setV y z x st2).bind fun _ st3 => .ok ev st3 := rfl
@[simp] theorem ePar (i j : Nat) (r : CA) : dPar i j r ev st = (r ev st).bind fun xs st1 => match xs with
  | [x, y] => .ok (.nx ((ev.set i (some x)).set j (some y))) st1
  | _ => .bad := rfl
@[simp] theorem eAug (i : Nat) : dAug i f a ev st = match ev[i]? with
  | some (some x) => (a ev st).bind fun y st1 => (f x y st1).bind fun z st2 => .ok (.nx (ev.set i (some z))) st2
  | _ => .bad := rfl
@[simp] theorem eFor (it : CI) (r : CT) : dFor it r p ev st = (it ev st).bind fun z st1 => forS z.2 (dTurn r p) z.1 ev st1 := rfl
@[simp] theorem eTurn (r : CT) (x : Va) : dTurn r p x ev st = (r x ev st).bind fun ev1 st1 => p ev1 st1 := rfl
@[simp] theorem eComp (mk : List Va → Sto → Rs Va) (it : CI) (own : List Nat) (r : CT) (k : CB) : dComp mk it own r k a ev st = (it ev st).bind fun z st1 => if few z.1.length = true then (compL z.2 (compTurn r k a) z.1 (wipeE ev own) st1).bind mk else .bad := rfl
@[simp] theorem eYes : dYes ev st = .ok true st := rfl
@[simp] theorem eIter : dIter a ev st = (a ev st).bind itemsV := rfl
@[simp] theorem eRange (r : CA) : dRange r ev st = (r ev st).bind rangeV := rfl
@[simp] theorem eGen (k : Eat) (a0 : Va) (it : CI) (own : List Nat) (r : CT) : dGen k a0 it own r a ev st = (it ev st).bind fun z st1 => genL z.2 (genTurn r a) k z.1 a0 (wipeE ev own) st1 := rfl
end
section
variable {st : Sto}
@[simp] theorem addV_i (i j : Int) : addV (.dat (.int i)) (.dat (.int j)) st = .ok (.dat (.int (i + j))) st := rfl
@[simp] theorem addI_i (i j : Int) : addI (.dat (.int i)) (.dat (.int j)) st = .ok (.dat (.int (i + j))) st := rfl
@[simp] theorem subV_i (i j : Int) : subV (.dat (.int i)) (.dat (.int j)) st = .ok (.dat (.int (i - j))) st := rfl
@[simp] theorem ltV_i (i j : Int) : ltV (.dat (.int i)) (.dat (.int j)) st = .ok (.dat (.bool (decide (i < j)))) st := rfl
@[simp] theorem leV_i (i j : Int) : leV (.dat (.int i)) (.dat (.int j)) st = .ok (.dat (.bool (decide (i ≤ j)))) st := rfl
@[simp] theorem gtV_i (i j : Int) : gtV (.dat (.int i)) (.dat (.int j)) st = .ok (.dat (.bool (decide (j < i)))) st := rfl
@[simp] theorem geV_i (i j : Int) : geV (.dat (.int i)) (.dat (.int j)) st = .ok (.dat (.bool (decide (j ≤ i)))) st := rfl
theorem modV_i {i j : Int} (h : 0 < j) : modV (.dat (.int i)) (.dat (.int j)) st = .ok (.dat (.int (i % j))) st := by simp [modV, h, oI]
theorem divV_i {i j : Int} (h : 0 < j) (h2 : j ≤ 1000000000) : divV (.dat (.int i)) (.dat (.int j)) st = .ok (.dat (.int (i / j))) st := by simp [divV, h, upto_of (n := 1000000000) (show -((1000000000 : Nat) : Int) ≤ j by omega) h2, oI]
theorem mulI_l {i j : Int} (h : near64 i = true) : mulI (.dat (.int i)) (.dat (.int j)) st = .ok (.dat (.int (i * j))) st := by simp [mulI, h, oI]
theorem mulI_r {i j : Int} (h : near64 j = true) : mulI (.dat (.int i)) (.dat (.int j)) st = .ok (.dat (.int (i * j))) st := by simp [mulI, h, oI]
@[simp] theorem intF_i (i : Int) : intF [.dat (.int i)] st = .ok (.dat (.int i)) st := rfl
@[simp] theorem intF_b (k : Bool) : intF [.dat (.bool k)] st = .ok (.dat (.int (if k then 1 else 0))) st := rfl
@[simp] theorem absF_i (i : Int) : absF [.dat (.int i)] st = .ok (.dat (.int (if i < 0 then -i else i))) st := rfl
@[simp] theorem eqV_i (i j : Int) : eqV (.dat (.int i)) (.dat (.int j)) st = .ok (.dat (.bool (decide (i = j)))) st := by
  simp [eqV, oB, SeqAt.shaped, PyData.canLay0, PyData.depth, PyData.eqv]
  rfl
@[simp] theorem neV_i (i j : Int) : neV (.dat (.int i)) (.dat (.int j)) st = .ok (.dat (.bool (!decide (i = j)))) st := by
  simp [neV, oB, SeqAt.shaped, PyData.canLay0, PyData.depth, PyData.eqv]
  rfl
end
end Sk

set_option maxHeartbeats 1000000
/-! Sk, part 20: the dice. -/
namespace Sk
open PySem PySem.Spec PyProof.Rows L2
def c__law_dice : CS :=
    (dSeq (dIfS (dTest (dChain ltV ltV (dBin subV (dC (.int 0)) (dC (.int 10))) (dVar 0) (dC (.int 10)))) (dRet (dLstM (dCons (dCallB absF (dCons (dVar 0) dNil)) (dCons (dC (.int 0)) (dCons (dC (.int 2)) dNil))))) dSkip)
    (dRet (dLstM (dCons (dVar 0) (dCons (dBin addV (dC (.int 1)) (dBin modV (dCallB intF (dCons (dVar 0) dNil)) (dC (.int 1009)))) (dCons (dCallB intF (dCons (dBin geV (dVar 0) (dBin powV (dC (.int 10)) (dC (.int 18)))) dNil)) dNil))))))
def F__law_dice : Fn := mkFn 1 c__law_dice
def c__law_roll : CS :=
    (dSeq (dIfS (dOrT (dTest (dBin eqV (dBin ixV (dVar 0) (dC (.int 2))) (dC (.int 2)))) (dAndT (dTest (dBin eqV (dBin ixV (dVar 0) (dC (.int 2))) (dC (.int 1)))) (dTest (dBin gtV (dBin ixV (dVar 0) (dC (.int 0))) (dC (.int 0)))))) (dSeq (dAsg (dBin modV (dCallB intF (dCons (dBin ixV (dVar 0) (dC (.int 0))) dNil)) (dVar 1)) (gN 2))
    (dSeq (dAsg (dBin divV (dBin ixV (dVar 0) (dC (.int 0))) (dVar 1)) (gSb (dVar 0) (dC (.int 0))))
    (dRet (dVar 2)))) dSkip)
    (dSeq (dAsg (dC (.int 0)) (gSb (dVar 0) (dC (.int 2))))
    (dSeq (dAsg (dBin modV (dCallB intF (dCons (dBin addV (dBin addV (dBin mulI (dBin ixV (dVar 0) (dC (.int 0))) (dC (.int 48271))) (dBin mulI (dBin ixV (dVar 0) (dC (.int 1))) (dC (.int 69621)))) (dC (.int 11))) dNil)) (dC (.int 2147483647))) (gSb (dVar 0) (dC (.int 0))))
    (dSeq (dAsg (dBin addV (dBin ixV (dVar 0) (dC (.int 1))) (dC (.int 1))) (gSb (dVar 0) (dC (.int 1))))
    (dRet (dBin modV (dCallB intF (dCons (dBin addV (dBin divV (dBin ixV (dVar 0) (dC (.int 0))) (dC (.int 7))) (dBin ixV (dVar 0) (dC (.int 0)))) dNil)) (dVar 1)))))))
def F__law_roll : Fn := mkFn 3 c__law_roll
def c__law_rounds : CS :=
    (dSeq (dAsg (dSl (dVar 0) dNo (dPart (dVar 1))) (gN 2))
    (dSeq (dIfS (dTest (dBin eqV (dVar 2) (dLst dNil))) (dAsg (dLst (dCons (dC (.int 0)) dNil)) (gN 2)) dSkip)
    (dRet (dComp asF (dIter (dVar 2)) [3] (gN 3) dYes (dCallO F__law_dice 1 (dCons (dVar 3) dNil))))))
def F__law_rounds : Fn := mkFn 4 c__law_rounds
def diceO (a b c : Int) : Ob := .lst [.dat (.int a), .dat (.int b), .dat (.int c)]
def IsDice (o : Option Ob) : Prop := ∃ a b c, o = some (diceO a b c)
theorem dice_eq (x : Int) (st : Sto) : ∃ a b c, F__law_dice [.dat (.int x)] st = .ok (.ref st.length) (st ++ [some (diceO a b c)]) := by
  by_cases h1 : -10 < x
  · by_cases h2 : x < 10
    · exact ⟨if x < 0 then -x else x, 0, 2, by simp [F__law_dice, mkFn, c__law_dice, mkEv, h1, h2, newL, asRet, diceO]⟩
    · exact ⟨x, 1 + x % 1009, if 1000000000000000000 ≤ x then 1 else 0, by simp [F__law_dice, mkFn, c__law_dice, mkEv, h1, h2, newL, asRet, diceO, modV_i, powV, oI]⟩
  · exact ⟨x, 1 + x % 1009, if 1000000000000000000 ≤ x then 1 else 0, by simp [F__law_dice, mkFn, c__law_dice, mkEv, h1, newL, asRet, diceO, modV_i, powV, oI]⟩
theorem seqOf_at {st : Sto} {n : Nat} {xs : List Va} (h : st[n]? = some (some (.lst xs))) : seqOf st (.ref n) = some (false, xs) := by
  unfold seqOf
  simp only [h]
theorem ixV_ref {st : Sto} {n : Nat} {xs : List Va} {i : Int} (h : st[n]? = some (some (.lst xs))) : ixV (.ref n) (.dat (.int i)) st = ixV (.seq false xs) (.dat (.int i)) st := by
  unfold ixV
  rw [seqOf_at h]
  rfl
theorem roll_eq {st : Sto} {n : Nat} {a b c m : Int} (h : st[n]? = some (some (diceO a b c))) (h0 : 0 < m) (h1 : m ≤ 1000000000) :
    ∃ r a' b' c', 0 ≤ r ∧ r < m ∧ F__law_roll [.ref n, .dat (.int m)] st = .ok (.dat (.int r)) (st.set n (some (diceO a' b' c'))) := by
  have hl : n < st.length := (List.getElem?_eq_some_iff.mp h).1
  have e0 : ∀ {st : Sto} {a b c : Int}, st[n]? = some (some (diceO a b c)) → ixV (.ref n) (.dat (.int 0)) st = .ok (.dat (.int a)) st := fun h => by rw [ixV_ref h]; rfl
  have e1 : ∀ {st : Sto} {a b c : Int}, st[n]? = some (some (diceO a b c)) → ixV (.ref n) (.dat (.int 1)) st = .ok (.dat (.int b)) st := fun h => by rw [ixV_ref h]; rfl
  have e2 : ∀ {st : Sto} {a b c : Int}, st[n]? = some (some (diceO a b c)) → ixV (.ref n) (.dat (.int 2)) st = .ok (.dat (.int c)) st := fun h => by rw [ixV_ref h]; rfl
  have s0 : ∀ {st : Sto} {a b c z : Int}, st[n]? = some (some (diceO a b c)) → setV (.ref n) (.dat (.int 0)) (.dat (.int z)) st = .ok () (st.set n (some (diceO z b c))) := fun h => by simp only [setV, h, diceO]; rfl
  have s1 : ∀ {st : Sto} {a b c z : Int}, st[n]? = some (some (diceO a b c)) → setV (.ref n) (.dat (.int 1)) (.dat (.int z)) st = .ok () (st.set n (some (diceO a z c))) := fun h => by simp only [setV, h, diceO]; rfl
  have s2 : ∀ {st : Sto} {a b c z : Int}, st[n]? = some (some (diceO a b c)) → setV (.ref n) (.dat (.int 2)) (.dat (.int z)) st = .ok () (st.set n (some (diceO a b z))) := fun h => by simp only [setV, h, diceO]; rfl
  have g : ∀ {a b c : Int}, (st.set n (some (diceO a b c)))[n]? = some (some (diceO a b c)) := fun {a b c} => by rw [List.getElem?_set_self hl]
  by_cases hc : c = 2 ∨ (c = 1 ∧ 0 < a)
  · refine ⟨a % m, a / m, b, c, Int.emod_nonneg _ (by omega), Int.emod_lt_of_pos _ h0, ?_⟩
    rcases hc with hc | ⟨hc, ha⟩
    · subst hc
      simp [F__law_roll, mkFn, c__law_roll, mkEv, e0 h, e1 h, e2 h, s0 h, modV_i h0, divV_i h0 h1, asRet]
    · subst hc
      simp [F__law_roll, mkFn, c__law_roll, mkEv, e0 h, e1 h, e2 h, s0 h, modV_i h0, divV_i h0 h1, asRet, ha]
  · have n2 : ¬ c = 2 := fun z => hc (.inl z)
    generalize ha1 : (a * 48271 + b * 69621 + 11) % 2147483647 = a1
    refine ⟨(a1 / 7 + a1) % m, a1, b + 1, 0, Int.emod_nonneg _ (by omega), Int.emod_lt_of_pos _ h0, ?_⟩
    by_cases n1 : c = 1
    · subst n1
      have na : ¬ 0 < a := fun z => hc (.inr ⟨rfl, z⟩)
      simp [F__law_roll, mkFn, c__law_roll, mkEv, e0 h, e1 h, e2 h, s2 h, e0 g, e1 g, e2 g, s0 g, s1 g, modV_i h0, modV_i, divV_i, asRet, na, mulI, oI, ha1]
    · simp [F__law_roll, mkFn, c__law_roll, mkEv, e0 h, e1 h, e2 h, s2 h, e0 g, e1 g, e2 g, s0 g, s1 g, modV_i h0, modV_i, divV_i, asRet, n1, n2, mulI, oI, ha1]
theorem rounds_comp {x0 x1 x2 : Option Va} : ∀ (cs : List Int) (st : Sto), ∃ D : Sto, (∀ o ∈ D, IsDice o) ∧ D.length = cs.length ∧
    compL none (compTurn (gN 3) dYes (dCallO F__law_dice 1 (dCons (dVar 3) dNil))) (cs.map fun i => .dat (.int i)) [x0, x1, x2, none] st = .ok ((List.range cs.length).map fun i => .ref (st.length + i)) (st ++ D)
  | [], st => ⟨[], by simp, rfl, by simp [compL]⟩
  | c :: r, st => by
    obtain ⟨a, b, z, e⟩ := dice_eq c st
    obtain ⟨D, hD, hl, e2⟩ := rounds_comp (x0 := x0) (x1 := x1) (x2 := x2) r (st ++ [some (diceO a b z)])
    refine ⟨some (diceO a b z) :: D, ?_, by simp [hl], ?_⟩
    · intro o ho
      rcases List.mem_cons.mp ho with q | q
      · exact ⟨a, b, z, q⟩
      · exact hD o q
    · have e1 : compTurn (gN 3) dYes (dCallO F__law_dice 1 (dCons (dVar 3) dNil)) (.dat (.int c)) [x0, x1, x2, none] st = .ok (some (.ref st.length)) (st ++ [some (diceO a b z)]) := by
        simp [compTurn, callO, e]
      simp only [List.map_cons, compL, lkOk_none, if_true, e1, Rs.bind_ok, e2, consO, List.length_cons, List.range_succ_eq_map, List.map_map]
      simp [Function.comp_def, Nat.add_assoc, Nat.add_comm 1]
theorem eqV_nil {ds : List Int} {st : Sto} : eqV (.dat (.list (ds.map .int))) (.dat (.list [])) st = .ok (.dat (.bool ds.isEmpty)) st := by
  have h1 : ∀ ds : List Int, PyData.canLayAll0 (ds.map .int) = true := fun ds => by
    induction ds with
    | nil => rfl
    | cons d r ih => simp [PyData.canLayAll0, PyData.canLay0, ih]
  have h2 : ∀ ds : List Int, PyData.depthAll (ds.map .int) ≤ 1 := fun ds => by
    induction ds with
    | nil => simp [PyData.depthAll]
    | cons d r ih => simp [PyData.depthAll, PyData.depth]; omega
  cases ds with
  | nil => simp [eqV, oB, SeqAt.shaped, PyData.canLay0, PyData.canLayAll0, PyData.depth, PyData.depthAll, PyData.eqv, PyData.eqvAll]
  | cons d r =>
    have := h2 (d :: r)
    have q := h1 (d :: r)
    simp only [List.map_cons] at this q
    have t : PyData.depthAll (PyData.int d :: r.map PyData.int) ≤ 63 := by omega
    simp [eqV, oB, SeqAt.shaped, PyData.canLay0, q, PyData.depth, t, PyData.eqv]
    simp [PyData.depthAll, PyData.eqvAll, PyData.canLayAll0]
theorem rounds_eq (ns : List Int) {most : Nat} (hm : 1 ≤ most) (hm2 : most ≤ 10000000) : ∃ D : Sto, (∀ o ∈ D, IsDice o) ∧ 1 ≤ D.length ∧ D.length ≤ most ∧
    F__law_rounds [scriptV ns, .dat (.int most)] [] = .ok (.seq false ((List.range D.length).map .ref)) D := by
  have key : ∀ cs : List Int, 1 ≤ cs.length → cs.length ≤ most → ∀ x0 x1 x2 : Option Va, ∃ (D : Sto) (ys : List Va), (∀ o ∈ D, IsDice o) ∧ 1 ≤ D.length ∧ D.length ≤ most ∧ mkL ys = .seq false ((List.range D.length).map .ref) ∧
      compL none (compTurn (gN 3) dYes (dCallO F__law_dice 1 (dCons (dVar 3) dNil))) (cs.map fun i => .dat (.int i)) [x0, x1, x2, none] [] = .ok ys D := by
    intro cs h1 h2 x0 x1 x2
    obtain ⟨D, hD, hl, e⟩ := rounds_comp (x0 := x0) (x1 := x1) (x2 := x2) cs []
    refine ⟨D, _, hD, by omega, by omega, ?_, e⟩
    simp only [List.length_nil, Nat.zero_add, hl]
    cases cs with
    | nil => simp at h1
    | cons c r => simp only [List.length_cons, List.range_succ_eq_map, List.map_cons, mkL, allDat]
  have hc : ∀ ns : List Int, cut (ns.map fun i => Va.dat (.int i)) none (some (most : Int)) = (ns.take most).map fun i => .dat (.int i) := fun ns => by
    rw [cut_map]
    congr 1
    unfold cut
    rw [HT.sIx_none, HT.sIx_nat]
    simp [List.take_eq_take_iff]
  have hf : ∀ cs : List Int, (cs.map fun i => Va.dat (.int i)) = (cs.map PyData.int).map .dat := fun cs => by simp
  have hs : ∀ ns : List Int, slV (scriptV ns) none (some (most : Int)) [] = .ok (.dat (.list ((ns.take most).map .int))) [] := fun ns => by
    simp only [slV, scriptV, seqOf, hc]
    rw [hf, mkL_map]
  have h0 : mkL ([] : List Va) = .dat (.list []) := rfl
  have h1 : mkL [Va.dat (.int 0)] = .dat (.list [.int 0]) := rfl
  have hs := hs ns
  have hlen : (ns.take most).length ≤ most := by simp; omega
  generalize ns.take most = cs at hs hlen
  generalize scriptV ns = v0 at hs ⊢
  by_cases hn : cs.isEmpty = true
  · obtain ⟨D, ys, h1, h2, h3, h4, e⟩ := key [0] (by simp) hm (some v0) (some (.dat (.int most))) (some (.dat (.list [.int 0])))
    refine ⟨D, h1, h2, h3, ?_⟩
    simp at e
    have q := @eqV_nil cs []
    rw [hn] at q
    simp [F__law_rounds, mkFn, c__law_rounds, mkEv, hs, h0, q, wipeE, itemsV, lockOf, asF, mkL, allDat]
    simp [e, asRet, h4, mkL, allDat]
    exact h4
  · have hn : cs.isEmpty = false := by simpa using hn
    obtain ⟨D, ys, h1, h2, h3, h4, e⟩ := key cs (by cases cs with | nil => cases hn | cons _ _ => simp) hlen (some v0) (some (.dat (.int most))) (some (.dat (.list (cs.map .int))))
    refine ⟨D, h1, h2, h3, ?_⟩
    have q := @eqV_nil cs []
    rw [hn] at q
    have hf2 : few cs.length = true := by unfold few; simp; omega
    simp [F__law_rounds, mkFn, c__law_rounds, mkEv, hs, h0, q, wipeE, itemsV, lockOf, asF, Function.comp_def, hf2]
    simp [e, asRet, h4]
end Sk

/-! Sk, part 21: plain words about loops. -/
namespace Sk
open PySem PySem.Spec PyProof.Rows L2
theorem callP_1 {F : Fn} {a d : PyData} {s2 st : Sto} (h : F [.dat a] [] = .ok (.dat d) s2) : callP F 1 [.dat a] st = .ok (.dat d) st := by simp [callP, mapO, pureVs, pureV, afterP, h]
theorem callP_2 {F : Fn} {a b d : PyData} {s2 st : Sto} (h : F [.dat a, .dat b] [] = .ok (.dat d) s2) : callP F 2 [.dat a, .dat b] st = .ok (.dat d) st := by simp [callP, mapO, pureVs, pureV, afterP, h]
theorem callP_3 {F : Fn} {a b c d : PyData} {s2 st : Sto} (h : F [.dat a, .dat b, .dat c] [] = .ok (.dat d) s2) : callP F 3 [.dat a, .dat b, .dat c] st = .ok (.dat d) st := by simp [callP, mapO, pureVs, pureV, afterP, h]
theorem callP_4 {F : Fn} {a b c e d : PyData} {s2 st : Sto} (h : F [.dat a, .dat b, .dat c, .dat e] [] = .ok (.dat d) s2) : callP F 4 [.dat a, .dat b, .dat c, .dat e] st = .ok (.dat d) st := by simp [callP, mapO, pureVs, pureV, afterP, h]
theorem compL_map {α : Type} {f : Va → Ev → Sto → Rs (Option Va)} {h G : α → Va} {ev : Ev} {st : Sto} : ∀ {xs : List α}, (∀ a ∈ xs, f (h a) ev st = .ok (some (G a)) st) → compL none f (xs.map h) ev st = .ok (xs.map G) st
  | [], _ => by simp [compL]
  | a :: r, hf => by
    have e1 := hf a (by simp)
    have e2 := compL_map (xs := r) fun b hb => hf b (List.mem_cons_of_mem _ hb)
    simp only [List.map_cons, compL, lkOk_none, if_true, e1, Rs.bind_ok, e2, consO]
theorem forS_map {α : Type} {b : Va → Ev → Sto → Rs Fl} {h : α → Va} {Inv : Ev → Prop} {st : Sto} : ∀ {xs : List α} {ev : Ev}, Inv ev → (∀ a ∈ xs, ∀ ev, Inv ev → ∃ ev', b (h a) ev st = .ok (.nx ev') st ∧ Inv ev') → ∃ ev', forS none b (xs.map h) ev st = .ok (.nx ev') st ∧ Inv ev'
  | [], ev, hi, _ => ⟨ev, by simp [forS], hi⟩
  | a :: r, ev, hi, hf => by
    obtain ⟨ev1, e1, h1⟩ := hf a (by simp) ev hi
    obtain ⟨ev2, e2, h2⟩ := forS_map (xs := r) h1 fun b hb => hf b (List.mem_cons_of_mem _ hb)
    exact ⟨ev2, by simp only [List.map_cons, forS, lkOk_none, if_true, e1, e2], h2⟩
theorem mkL_fun {α : Type} (g : α → PyData) (xs : List α) : mkL (xs.map fun a => .dat (g a)) = .dat (.list (xs.map g)) := by
  rw [show (xs.map fun a => Va.dat (g a)) = (xs.map g).map .dat by simp, mkL_map]
end Sk

set_option maxHeartbeats 1000000
/-! Sk, part 22: methods of lists. -/
namespace Sk
open PySem PySem.Spec PyProof.Rows L2 GxR
def MtS (C : Cfg) (r : V → List V → Hp → VK → Prop) (f : Va → List Va → Sto → Rs Va) : Prop := ∀ (M0 : Addr → Prop) (m : List Addr) (H : Hp) (st : Sto) (v : V) (vs : List V) (x : Va) (xs : List Va) (E : XK) (Q : VK),
  RH C M0 m H st → RV C H (Mx M0 m) m v x → RVs C H (Mx M0 m) m vs xs → Fin C M0 m H E (f x xs st) Q → r v vs H Q
def isLst (st : Sto) (x : Va) : Bool := match seqOf st x with
  | some (false, _) => true
  | _ => false
def dMt (f : Va → List Va → Sto → Rs Va) (o : CE) (as : CA) : CE := fun ev st => (o ev st).bind fun x st1 => if isLst st1 x = true then (as ev st1).bind fun xs st2 => f x xs st2 else .bad
section
variable {X : Cx} {C : Cfg} {W : WX} {o e : Expr} {es : List Expr} {co : CE} {ca : CA} {name : Str} {apos cpos : Pos} {id : String} {r : V → List V → Hp → VK → Prop} {f : Va → List Va → Sto → Rs Va}
theorem isLst_ty {M0 : Addr → Prop} {m : List Addr} {H : Hp} {st : Sto} {v : V} {x : Va} (rh : RH C M0 m H st) (rv : RV C H (Mx M0 m) m v x) (h : isLst st x = true) : tyV C.K "list" v H := by
  unfold isLst at h
  split at h
  · rename_i xs hs
    obtain ⟨a, vs, rfl, _, sq⟩ := seqOf_rel rh rv hs
    exact .inl ⟨rfl, vs, sq⟩
  · cases h
theorem fe_mt (hK : X.K = C.K) (slot : Slot "list" name id) (hty : typeOf (.builtin id) = pure (.type "method_descriptor")) (hm : MtR X id r) (hs : MtS C r f) (ho : PE X o (tE C W co)) (ha : PA X (e :: es) (tA C W ca))
    (hbase : attributeBase o name X.env (eval o X.env) = eval o X.env := by rfl)
    (hfew : ((backTo cpos (starEach (e :: es) X.env)).all (fun x => !x.1) && (backToKw cpos (keywordEach [] X.env)).all (fun x => x.1.isSome)
      && decide ((e :: es).length + ([] : List Keyword).length + (if ([] : List Keyword).isEmpty then 0 else 1) < 30)) = true := by rfl)
    (hline : (apos.endLine == cpos.line) = true := by rfl) (hst : starEach (e :: es) X.env = (false, eval e X.env) :: starEach es X.env := by rfl) (hplain : (backTo cpos (starEach es X.env)).any (·.1) = false := by rfl) :
    PE X (.Call (.Attribute o name apos) (e :: es) [] cpos) (tE C W (dMt f co ca)) :=
  PE.imp (pe_bm PySem.F.plainAttrs_list slot hty hm ho ha hbase hfew hline hst hplain) fun s H Q h =>
    tG.bind (R := relV) (k := fun x ev st1 => if isLst st1 x = true then (ca ev st1).bind fun xs st2 => f x xs st2 else .bad) h fun M0 m ev st x v H1 rh re rv fin => by
      obtain ⟨hl, fin⟩ := ifGoG fin
      refine ⟨by rw [hK]; exact isLst_ty rh rv hl, M0, m, ev, st, rh, re, (FinG.bind (R := relVs C M0) fin).mono fun vs H2 ⟨m2, st2, xs, g, rh2, rs, fin2⟩ => ?_⟩
      exact hs M0 m2 H2 st2 v vs x xs _ Q rh2 (rv.go g rh.mu) rs fin2
theorem fe_mt0 (hK : X.K = C.K) (slot : Slot "list" name id) (hty : typeOf (.builtin id) = pure (.type "method_descriptor")) (hm : MtR X id r) (hs : MtS C r f) (ho : PE X o (tE C W co))
    (hbase : attributeBase o name X.env (eval o X.env) = eval o X.env := by rfl) (hline : (apos.endLine == cpos.line) = true := by rfl) :
    PE X (.Call (.Attribute o name apos) [] [] cpos) (tE C W (dMt f co dNil)) :=
  PE.imp (pe_bm0 PySem.F.plainAttrs_list slot hty hm ho hbase hline) fun s H Q h =>
    tG.bind (R := relV) (k := fun x ev st1 => if isLst st1 x = true then (dNil ev st1).bind fun xs st2 => f x xs st2 else .bad) h fun M0 m ev st x v H1 rh re rv fin => by
      obtain ⟨hl, fin⟩ := ifGoG fin
      exact ⟨by rw [hK]; exact isLst_ty rh rv hl, hs M0 m H1 st v [] x [] _ Q rh rv .nil fin⟩
/-- the list of the store at n is now ys -/
theorem put_lst {M0 : Addr → Prop} {m : List Addr} {H : Hp} {st : Sto} {n : Nat} {a : Addr} {ys : List Va} {us : List V} (rh : RH C M0 m H st) (hn : m[n]? = some a) (rs : RVs C H (Mx M0 m) m us ys) :
    Go m H m (upd H a (.lst us)) ∧ RH C M0 m (upd H a (.lst us)) (st.set n (some (.lst ys))) := by
  have g : Go m H m (upd H a (.lst us)) := Go.write (List.mem_of_getElem? hn) rh.mu
  exact ⟨g, rh.write hn trivial ⟨us, upd_same, rs.go g rh.mu⟩⟩
theorem get_lst {M0 : Addr → Prop} {m : List Addr} {H : Hp} {st : Sto} {n : Nat} {a : Addr} {xs : List Va} (rh : RH C M0 m H st) (hn : m[n]? = some a) (hx : st[n]? = some (some (.lst xs))) : ∃ vs, H a = some (.lst vs) ∧ RVs C H (Mx M0 m) m vs xs := by
  obtain ⟨b, hb, vs, hv, rs⟩ := rh.ob n _ hx
  rw [hn] at hb
  cases hb
  exact ⟨vs, hv, rs⟩
def lstM (g : List Va → List Va → Option (Va × List Va)) (x : Va) (xs : List Va) (st : Sto) : Rs Va := match x with
  | .ref n => (match st[n]? with
    | some (some (.lst ys)) => (match g ys xs with
      | some (v, zs) => .ok v (st.set n (some (.lst zs)))
      | none => .bad)
    | _ => .bad)
  | _ => .bad
/-- a method that changes the list -/
theorem ms_of {g : List Va → List Va → Option (Va × List Va)}
    (h : ∀ (M0 : Addr → Prop) (m : List Addr) (H : Hp) (a : Addr) (us vs : List V) (ys xs zs : List Va) (v : Va) (Q : VK), H a = some (.lst us) → RVs C H (Mx M0 m) m us ys → RVs C H (Mx M0 m) m vs xs → g ys xs = some (v, zs) →
      (∀ u ws, RV C H (Mx M0 m) m u v → RVs C H (Mx M0 m) m ws zs → Q u (upd H a (.lst ws))) → r (.ref a) vs H Q) : MtS C r (lstM g) := by
  intro M0 m H st v vs x xs E Q rh rx rs fin
  unfold lstM at fin
  split at fin
  · rename_i n
    cases rx with
    | @ref _ a hn =>
      split at fin
      · rename_i ys hy
        split at fin
        · rename_i w zs hg
          obtain ⟨us, hu, ru⟩ := get_lst rh hn hy
          refine h M0 m H a us vs ys xs zs w Q hu ru rs hg fun u ws r1 r2 => ?_
          obtain ⟨g2, rh2⟩ := put_lst rh hn r2
          exact fin u m _ g2 rh2 (r1.go g2 rh.mu)
        · exact fin.elim
      · exact fin.elim
  · exact fin.elim
def appendG (ys xs : List Va) : Option (Va × List Va) := match xs with
  | [x] => if few ys.length = true then some (.dat .none, ys ++ [x]) else none
  | _ => none
theorem ms_append : MtS C rAppend (lstM appendG) := ms_of fun M0 m H a us vs ys xs zs v Q hu ru rs hg q => by
  unfold appendG at hg
  split at hg
  · split at hg
    · rename_i hf
      cases hg
      obtain ⟨w, rfl, rw'⟩ := rs.one
      exact ⟨a, us, w, rfl, rfl, hu, by rw [ru.len]; exact few_lt hf, q .non _ (.dat .non) (ru.append (.cons rw' .nil))⟩
    · cases hg
  · cases hg
def popG (ys xs : List Va) : Option (Va × List Va) := match xs, ys[ys.length - 1]? with
  | [], some y => some (y, ys.dropLast)
  | _, _ => none
theorem RVs.dropLast {H : Hp} {M : Addr → Prop} {m : List Addr} {vs : List V} {xs : List Va} (r : RVs C H M m vs xs) : RVs C H M m vs.dropLast xs.dropLast := by
  rw [List.dropLast_eq_take, List.dropLast_eq_take, r.len]
  exact r.take _
theorem ms_pop : MtS C rPop (lstM popG) := ms_of fun M0 m H a us vs ys xs zs v Q hu ru rs hg q => by
  unfold popG at hg
  split at hg
  · rename_i y hy
    cases hg
    cases rs
    obtain ⟨w, e1, r1⟩ := ru.get hy
    exact ⟨a, us, w, rfl, rfl, hu, by rw [ru.len]; exact e1, q w _ r1 ru.dropLast⟩
  · cases hg
end
end Sk

set_option maxHeartbeats 1000000
/-! Sk, part 23: enumerate. -/
namespace Sk
open PySem PySem.Spec PyProof.Rows L2 GxR
def Iet (K : PySem.W.Frag) (a : Addr) : It :=
  ⟨fun i H => ∃ (xs : List V) (x : V), SqT K H a xs ∧ xs[i]? = some x, fun i H v H' => ∃ T x, v = .ref T ∧ H T = none ∧ H' = upd H T (.tup [.int (i : Nat), x]) ∧ ∀ xs, SqT K H a xs → xs[i]? = some x, fun i H => ∃ xs : List V, SqT K H a xs ∧ xs.length ≤ i⟩
theorem tuple_ne_iter {h : Heap} {a it : Addr} {items : Array Value} {i : Nat} (h1 : h.IsTuple a items) (h2 : h.IsTupleIter it a i) : a ≠ it := fun z => by
  obtain ⟨o, e, c, _⟩ := h1
  obtain ⟨o2, e2, c2, _⟩ := h2
  rw [z, e2] at e
  cases e
  rw [c2] at c
  exact absurd c (by decide)
theorem tuple_ne_enum {h : Heap} {a e it : Addr} {items : Array Value} {i : Int} {old : Value} (h1 : h.IsTuple a items) (h2 : IsEnum h e it i old) : e ≠ a := fun z => by
  obtain ⟨o, q, c, _⟩ := h1
  have h2 : h.get? e = some _ := h2
  rw [z, q] at h2
  cases h2
  exact absurd (show Value.type "enumerate" = Value.type "tuple" from c) (by decide)
theorem turn_enumT {P : Program} {w : World} {K : PySem.W.Frag} {elts : List Expr} {kk : Nat} {tpos : Pos} (a e it : Addr) :
    Turn P w K (.Tuple elts kk tpos) (Iet K a) [e, it] e (fun i h => (∃ old, IsEnum h e it ((i : Nat) : Int) old) ∧ h.IsTupleIter it a i ∧ e ≠ it) where
  mem := by simp
  obj := fun i h st b hb => by
    obtain ⟨⟨old, he⟩, ⟨o, ho, hc, hd⟩, _⟩ := st
    have e' : b = e ∨ b = it := by simpa using hb
    rcases e' with z | z
    · rw [z]; exact ⟨_, he, fun v q => nomatch q⟩
    · rw [z]; exact ⟨o, ho, fun v q => by rw [hd] at q; cases q⟩
  keep := fun i h h' st k => let ⟨⟨old, he⟩, hi, hne⟩ := st; ⟨⟨old, k e (by simp) _ he⟩, hi.at fun o q => k it (by simp) o q, hne⟩
  item := by
    intro X hP hw hK hc i pins s σ H E I hf st hg
    subst hP hw hK
    obtain ⟨⟨old, he⟩, hit, hne⟩ := st
    obtain ⟨xs, x, hq, hx⟩ := hg
    obtain ⟨its, rv, p, hz⟩ := I.tuple hq
    obtain ⟨u, hu, ru⟩ := rv.get hx
    have p : s.heap.IsTuple a its.toArray := p
    have hel : e < s.heap.objs.size := Heap.lt_size he
    have hil : it < s.heap.objs.size := by obtain ⟨_, q, _⟩ := hit; exact Heap.lt_size q
    have nai := tuple_ne_iter p hit
    have nea := tuple_ne_enum p he
    have hlt : i < its.toArray.size := by
      obtain ⟨hl, _⟩ := List.getElem?_eq_some_iff.mp hu
      simpa using hl
    refine wpAny_pyNext_enum_itemD (Draws.tuple (A := X.A.in1) (I.ok.hd hc) it a nai its.toArray) he ⟨hit, p⟩ hlt hne (by simp [hne, nea]) fun y h' tk hy ho hit' hT hsz hk => ?_
    have ey : y = u := by
      have q : its.toArray[i]? = some u := by simpa using hu
      rw [q] at hy
      exact (Option.some.inj hy).symm
    subst ey
    refine ⟨_, rfl, wpAny_letOwnedTupleGo_enum (s := { s with heap := h', toks := tk + 1 }) ho fun h'' he' sb => ?_⟩
    have hT2 : h''.get? s.heap.objs.size = some { cls := .type "tuple", data := .seq #[.int i tk, y] } := (sb.2 _ (Nat.ne_of_gt hel)).trans hT
    have new : ObjOk X.prog X.w (upd H s.heap.objs.size (.tup [.int (i : Nat), x])) h'' s.heap.objs.size (.tup [.int (i : Nat), x]) :=
      ⟨by show 2 ≤ sizeLine; decide, [.int i tk, y], .cons ⟨_, rfl⟩ (.cons ru .nil), ⟨_, hT2, rfl, _, rfl⟩⟩
    have I1 : Inv X pins σ (upd H s.heap.objs.size (.tup [.int (i : Nat), x])) { s with heap := h'', toks := tk + 1 } :=
      I.turnedNew (ch := [e, it]) (fun b ob hb q => (sb.2 b (fun z => hb (by simp [z]))).trans (hk b ob (fun z => hb (by simp [z])) (fun z => hb (by simp [z])) q)) hf (Nat.le_refl _) new
    refine ⟨.ref s.heap.objs.size, _, I1, rfl, ⟨_, x, rfl, I.hok.fresh (Nat.le_refl _), rfl, fun ys hy => by rw [I.tuple_inj hy hq]; exact hx⟩, ⟨⟨y, ?_⟩, hit'.1.at fun o q => (sb.2 it (Ne.symm hne)).trans q, hne⟩, fun b hb => ?_⟩
    · have e1 : ((i + 1 : Nat) : Int) = (i : Int) + 1 := by omega
      rw [e1]; exact he'
    · have hb' : b < s.heap.objs.size := by
        have e' : b = e ∨ b = it := by simpa using hb
        rcases e' with z | z
        · rw [z]; exact hel
        · rw [z]; exact hil
      rw [upd_ne (Nat.ne_of_lt hb')]
      exact (hf b hb).1
  done := by
    intro X hP hw hK hc i pins s σ H E I hf st hg
    subst hP hw hK
    obtain ⟨⟨old, he⟩, hit, hne⟩ := st
    obtain ⟨xs, hq, hx⟩ := hg
    obtain ⟨its, rv, p, hz⟩ := I.tuple hq
    have p : s.heap.IsTuple a its.toArray := p
    obtain ⟨f0, f1, f2, f3, f4, f5⟩ := hf it (by simp)
    have hl := rv.length
    have hT : s.TypeIs (.ref e) "enumerate" := ⟨_, he, rfl⟩
    unfold pyNext
    refine wpAny_bind (wpAny_attempt (wpAny_callSpecial?_slot (name := Str.ofString "__next__") hT F.slot_enumerate_next (wpAny_call_entry F.slot_enumerate_next hT F.entry_enumerate_next ?_ (F.args_enumerate_next_1 _))))
    show wpAny _ _ (field (.ref e) 2 >>= _) _ _ _
    refine wpAny_bind (wpAny_field he rfl (x := .ref it) rfl ?_)
    refine wpAny_bind (wpAny_nextOf_tuple_end (A := X.A.in1) (I.ok.hd hc) hit p (by simp; omega) fun h' x he' hx' => ?_)
    obtain ⟨o, ho, hcl⟩ := hx'
    refine wpAny_bind (wpAny_isInstance (T := "StopIteration") (b := true) ⟨o, ho, hcl⟩ isSubtype_stop ?_)
    exact wpAny_pure ⟨rfl, I.turned (t' := s.toks) (fun b o hb q => he' b o hb q) f0 f1 f3 f4 f5⟩
  self := fun A i s Q E st h => let ⟨⟨_, he⟩, _⟩ := st; wpAny_pyIter_enum he h
/-! ### it is made -/
theorem meets_enum1 {v : Value} {o : Obj} {H : Heap → Prop} (B : Begins v o H) :
    Meets (Builtin.«enumerate.__new__» ⟨[.type "enumerate", v], []⟩) (fun _ R s => H s.heap ∧
      R (.ok (.ret (.ref (s.heap.push o).objs.size))) { s with heap := (s.heap.push o).push { cls := .type "enumerate", data := .fields #[.none, .bool false, .ref s.heap.objs.size, rawInt 0, .none, .none] } }) :=
  .of_wp fun prog w A R s h => by
    obtain ⟨hp, g, d, tk, os⟩ := s
    obtain ⟨h1, h⟩ := h
    have hsub := sub_enumerate
    have q1 : ∀ {A' : Around} {E : Value → Shared → Prop} {Q : Value → Shared → Prop}, Q (.ref hp.objs.size) ⟨hp.push o, g, d, tk, os⟩ → wpAny (model prog w) A' (pyIter v) Q E ⟨hp, g, d, tk, os⟩ :=
      fun q => B.iter prog w _ _ ⟨hp, g, d, tk, os⟩ _ h1 q
    wp_walk using q1
    refine wpAny_stack_any fun st => wpAny_pure ?_
    split
    · rename_i c _ _ _ _ _
      cases (c == Value.type "enumerate")
      · wp_walk using q1
        exact ⟨_, rfl, h⟩
      · wp_walk using q1
        exact ⟨_, rfl, h⟩
    · wp_walk using q1
      exact ⟨_, rfl, h⟩
theorem enum1_begins {prog : Program} {w : World} {A : Around} {E : Value → Shared → Prop} {s : Shared} {v : Value} {o : Obj} {H : Heap → Prop} {Q : Value → Shared → Prop} (B : Begins v o H) (h1 : H s.heap)
    (h : ∀ h', IsEnum h' (s.heap.objs.size + 1) s.heap.objs.size 0 .none → h'.get? s.heap.objs.size = some o → h'.objs.size = s.heap.objs.size + 2 →
      (∀ b o, s.heap.get? b = some o → h'.get? b = some o) → Q (.ref (s.heap.objs.size + 1)) { s with heap := h' }) :
    wpAny (model prog w) A (call (.type "enumerate") [v]) Q E s := by
  refine callType_new F.called_enumerate (by decide) (F.typeCall_enumerate_1 _) (F.newCall_enumerate_1 _) (fun obj => F.args_object_init_2 obj _) F.entry_enumerate_new (meets_enum1 B) ⟨h1, ?_⟩
  have hz : (s.heap.push o).objs.size = s.heap.objs.size + 1 := Heap.size_push ..
  show _ ∧ _
  rw [hz]
  have he : IsEnum ((s.heap.push o).push { cls := .type "enumerate", data := .fields #[.none, .bool false, .ref s.heap.objs.size, rawInt 0, .none, .none] }) (s.heap.objs.size + 1) s.heap.objs.size 0 .none := by
    have q := Heap.get?_push_size (s.heap.push o) (o := { cls := .type "enumerate", data := .fields #[.none, .bool false, .ref s.heap.objs.size, rawInt 0, .none, .none] }) rfl
    rw [hz] at q
    exact q
  exact ⟨⟨_, he, rfl⟩, h _ he (Heap.get?_push_of_some _ (Heap.get?_push_size _ B.free)) (by rw [Heap.size_push, hz]) fun b o x => Heap.get?_push_of_some _ (Heap.get?_push_of_some _ x)⟩
def iEnX (K : PySem.W.Frag) (ta : TA) : TI := fun σ H R => ta σ H fun vs H1 => ∃ a, vs = [.ref a] ∧ (((∃ xs, SqL K H1 a xs) ∧ R (Ite K a) H1) ∨ ((∃ xs, SqT K H1 a xs) ∧ R (Iet K a) H1))
theorem pi_enX {X : Cx} {e : Expr} {ta : TA} {p pos tpos : Pos} {elts : List Expr} {kk : Nat} (hg : Gl X "enumerate") (hm : X.mg "enumerate" = none) (ha : PA X [e] ta) (hs : starEach [e] X.env = [(false, eval e X.env)] := by rfl) :
    PI X (.Tuple elts kk tpos) (.Call (.Name "enumerate" p) [e] [] pos) (iEnX X.K ta) := by
  refine ⟨fun pins s σ H R I h => ?_⟩
  refine Call_ (ld_blt I hg hm boot_enumerate (PyProof.Rows.callWith_type1 (thn (ha.run pos pins s σ H _ I h) fun us s1 ⟨vs, H1, I1, r1, q1⟩ => ?_) hs rfl))
  obtain ⟨a, ex, q1⟩ := q1
  subst ex
  cases r1 with
  | cons r rr =>
    cases rr
    cases r
    have fin : ∀ (h' : Heap) (J : It) (tn : Nat → Heap → Prop), (∀ b o, s1.heap.get? b = some o → h'.get? b = some o) → Turn X.prog X.w X.K (.Tuple elts kk tpos) J [s1.heap.objs.size + 1, s1.heap.objs.size] (s1.heap.objs.size + 1) tn → tn 0 h' → R J H1 →
        PIE X pins σ (.Tuple elts kk tpos) R (.ref (s1.heap.objs.size + 1)) { s1 with heap := h' } := fun h' J tn hk T t0 q => by
      refine ⟨_, _, tn, J, H1, rfl, I1.kept (t' := s1.toks) hk, T, t0, fun b hb => ?_, q⟩
      have e' : b = s1.heap.objs.size + 1 ∨ b = s1.heap.objs.size := by simpa using hb
      have hle : s1.heap.objs.size ≤ b := by
        rcases e' with z | z
        · rw [z]; exact Nat.le_add_right _ _
        · rw [z]; exact Nat.le_refl _
      exact I1.fpOk hle (I1.hok.fresh hle)
    rcases q1 with ⟨⟨xs, hq⟩, q⟩ | ⟨⟨xs, hq⟩, q⟩
    · obtain ⟨its, rv, p', hz⟩ := I1.list hq
      refine enum1_begins (begins_list a its.toArray) p'.isList fun h' he hit hsz hk => wpAny_pyIter_enum he (fin h' _ _ hk (turn_enum a (s1.heap.objs.size + 1) s1.heap.objs.size) ⟨⟨.none, he⟩, ⟨_, hit, rfl, rfl⟩, Nat.succ_ne_self _⟩ q)
    · obtain ⟨its, rv, p', hz⟩ := I1.tuple hq
      refine enum1_begins (begins_tuple a its.toArray) p' fun h' he hit hsz hk => wpAny_pyIter_enum he (fin h' _ _ hk (turn_enumT a (s1.heap.objs.size + 1) s1.heap.objs.size) ⟨⟨.none, he⟩, ⟨_, hit, rfl, rfl⟩, Nat.succ_ne_self _⟩ q)
end Sk

set_option maxHeartbeats 1000000
/-! Sk, part 24: enumerate, in our words. -/
namespace Sk
open PySem PySem.Spec PyProof.Rows L2 GxR
def enumL : Nat → List Va → List Va
  | _, [] => []
  | k, x :: r => mkT [.dat (.int k), x] :: enumL (k + 1) r
theorem enumL_len : ∀ (k : Nat) (xs : List Va), (enumL k xs).length = xs.length
  | _, [] => rfl
  | k, x :: r => by simp [enumL, enumL_len (k + 1) r]
theorem enumL_get : ∀ (k : Nat) (xs : List Va) (i : Nat) (x : Va), xs[i]? = some x → (enumL k xs)[i]? = some (mkT [.dat (.int ((k + i : Nat) : Int)), x])
  | _, [], i, x, h => by simp at h
  | k, y :: r, 0, x, h => by
    simp at h
    subst h
    rfl
  | k, y :: r, i + 1, x, h => by
    simp at h
    have e := enumL_get (k + 1) r i x h
    simp only [enumL, List.getElem?_cons_succ, e]
    rw [show k + 1 + i = k + (i + 1) by omega]
def enumV (xs : List Va) (st : Sto) : Rs (List Va × Lk) := match xs with
  | [x] => (match seqOf st x with
    | some (_, ys) => .ok (enumL 0 ys, lockOf x ys) st
    | none => .bad)
  | _ => .bad
def dEnum (c : CA) : CI := fun ev st => (c ev st).bind enumV
section
variable {X : Cx} {C : Cfg} {W : WX}
theorem it_enum {M0 : Addr → Prop} {m : List Addr} {H : Hp} {st : Sto} {x : Va} {t : Bool} {xs : List Va} {a : Addr} (rh : RH C M0 m H st) (rv : RV C H (Mx M0 m) m (.ref a) x) (e : seqOf st x = some (t, xs)) :
    ItRel C M0 H m (if t = true then Iet C.K a else Ite C.K a) (enumL 0 xs, lockOf x xs) := by
  intro M1 m1 H1 st1 g hM rh1 hl i
  obtain ⟨b, vs, eb, rs, sq⟩ := seqOf_rel rh1 (rv.goM g rh.mu hM) (seq_later e hl)
  cases eb
  have hlen := rs.len
  have key : ∀ (T : Addr) (v : V) (z : Va), H1 T = none → RV C H1 (Mx M1 m1) m1 v z → xs[i]? = some z → Same H1 (upd H1 T (.tup [.int (i : Nat), v])) ∧ ∃ y, (enumL 0 xs)[i]? = some y ∧ RV C (upd H1 T (.tup [.int (i : Nat), v])) (Mx M1 m1) m1 (.ref T) y := by
    intro T v z hT rz hz
    have sm : Same H1 (upd H1 T (.tup [.int (i : Nat), v])) := same_new hT
    refine ⟨sm, _, enumL_get 0 xs i z hz, ?_⟩
    rw [Nat.zero_add]
    exact RV.mkT upd_same (.cons (.dat (.int _)) (.cons (rz.go (Go.same sm) rh1.mu) .nil))
  refine ⟨fun hi => ?_, fun hi => ?_⟩
  · have hi : i < xs.length := by rw [← enumL_len 0 xs]; exact hi
    obtain ⟨v, hv, rv'⟩ := rs.get (List.getElem?_eq_getElem hi)
    cases t with
    | true =>
      refine ⟨⟨vs, v, sq, hv⟩, fun y H2 hy => ?_⟩
      obtain ⟨T, w, rfl, hT, rfl, hy⟩ := hy
      have e2 := hy vs sq
      rw [hv] at e2
      cases e2
      exact key T _ _ hT rv' (List.getElem?_eq_getElem hi)
    | false =>
      refine ⟨⟨vs, v, sq, hv⟩, fun y H2 hy => ?_⟩
      obtain ⟨T, w, rfl, hT, rfl, hy⟩ := hy
      have e2 := hy vs sq
      rw [hv] at e2
      cases e2
      exact key T _ _ hT rv' (List.getElem?_eq_getElem hi)
  · have hi : xs.length ≤ i := by rw [← enumL_len 0 xs]; exact hi
    cases t with
    | true => exact ⟨vs, sq, by omega⟩
    | false => exact ⟨vs, sq, by omega⟩
variable {e : Expr} {cs : CA} {p pos tpos : Pos} {elts : List Expr} {kk : Nat}
theorem fi_enum (hK : X.K = C.K) (hg : Gl X "enumerate") (hm : X.mg "enumerate" = none) (ha : PA X [e] (tA C W cs)) (hs : starEach [e] X.env = [(false, eval e X.env)] := by rfl) :
    PI X (.Tuple elts kk tpos) (.Call (.Name "enumerate" p) [e] [] pos) (tI C W (dEnum cs)) := by
  refine PI.imp (pi_enX hg hm ha hs) fun s H R h => tG.bind (R := relVs) (k := fun xs _ st => enumV xs st) h fun M0 m ev st xs vs H1 rh re rs fin => ?_
  unfold enumV at fin
  split at fin
  · obtain ⟨v, rfl, rv⟩ := rs.one
    split at fin
    · rename_i t ys hs
      obtain ⟨a, us, rfl, ru, sq⟩ := seqOf_rel rh rv hs
      have q := FinG.out (R := relI C M0) fin rh (it_enum rh rv hs)
      rw [hK]
      refine ⟨a, rfl, ?_⟩
      cases t with
      | true => exact .inr ⟨⟨us, sq⟩, q⟩
      | false => exact .inl ⟨⟨us, sq⟩, q⟩
    · exact fin.elim
  · exact fin.elim
@[simp] theorem eEnum {ev : Ev} {st : Sto} (r : CA) : dEnum r ev st = (r ev st).bind enumV := rfl
@[simp] theorem eMt {ev : Ev} {st : Sto} (f : Va → List Va → Sto → Rs Va) (o : CE) (r : CA) : dMt f o r ev st = (o ev st).bind fun x st1 => if isLst st1 x = true then (r ev st1).bind fun xs st2 => f x xs st2 else .bad := rfl
end
end Sk

set_option maxHeartbeats 1000000
/-! Sk, part 25: lists and tuples times a number. -/
namespace Sk
open PySem PySem.Spec PyProof.Rows L2 GxR
def rMulX (K : PySem.W.Frag) : R2 := fun x y H Q => rI CMul (fun i j => .int (i * j)) x y H Q ∨ (rRep x y H Q ∨ rRepT K x y H Q)
def manyL (n : Nat) (xs : List Va) : List Va := (List.replicate n xs).flatten
/-- k times a list that stands in the heap as such; the new one alone (mk = asF) or of the store (newL) -/
def mulS (mk : List Va → Sto → Rs Va) (x y : Va) (st : Sto) : Rs Va := match x, y with
  | .dat (.int i), .dat (.int j) => if (near64 i || near64 j) = true then oI (i * j) st else .bad
  | .dat (.list ds), .dat (.int k) => if (upto 1000000 k && few (ds.length * k.toNat)) = true then mk (manyL k.toNat (ds.map .dat)) st else .bad
  | .dat (.tuple ds), .dat (.int k) => if (decide (2 ≤ k) && upto 1000 k && decide (1 ≤ ds.length) && decide (ds.length ≤ 1000)) = true then .ok (mkT (manyL k.toNat (ds.map .dat))) st else .bad
  | _, _ => .bad
section
variable {X : Cx} {C : Cfg} {W : WX}
theorem op_mulS (hK : X.K = C.K := by rfl) : OpR X (binaryOp .Mult) (rMulX C.K) := hK ▸ op_mul.or (op_rep.or op_repT)
theorem RVs.many {H : Hp} {M : Addr → Prop} {m : List Addr} {vs : List V} {xs : List Va} (r : RVs C H M m vs xs) : ∀ n : Nat, RVs C H M m (List.replicate n vs).flatten (manyL n xs)
  | 0 => .nil
  | n + 1 => by
    unfold manyL
    rw [List.replicate_succ, List.replicate_succ, List.flatten_cons, List.flatten_cons]
    exact r.append (RVs.many r n)
theorem os_mulS {mk : List Va → Sto → Rs Va} (hmk : mk = asF ∨ mk = newL) : OpS C (rMulX C.K) (mulS mk) := by
  intro M0 m H st v u x y E Q rh rx ry fin
  unfold mulS at fin
  split at fin
  · rename_i i j
    obtain ⟨hn, fin⟩ := Fin.ifGo fin
    refine .inl ⟨i, j, rx.int_inv, ry.int_inv, ?_, FinG.out (R := relV C M0) fin rh (.dat (.int _))⟩
    rcases Bool.or_eq_true_iff.mp hn with h | h
    · exact .inl (near_of h)
    · exact .inr (near_of h)
  · rename_i ds k
    obtain ⟨hn, fin⟩ := Fin.ifGo fin
    simp only [Bool.and_eq_true, decide_eq_true_eq, upto_iff] at hn
    obtain ⟨⟨k1, k2⟩, k3⟩ := hn
    obtain ⟨a, vs, rfl, ha, _, rs⟩ := rx.lst_inv
    have rs' := rs.rvs (C := C) (m := m)
    refine .inr (.inl ⟨a, k, vs, rfl, ry.int_inv, ha, by omega, by omega, ?_, fun p hp => ?_⟩)
    · rw [rs.len]; exact few_le k3
    · rcases hmk with h | h
      · subst h
        exact Fin.newF fin rh hp (rs'.many _)
      · subst h
        exact Fin.newL fin rh hp (rs'.many _)
  · rename_i ds k
    obtain ⟨hn, fin⟩ := Fin.ifGo fin
    simp only [Bool.and_eq_true, decide_eq_true_eq, upto_iff] at hn
    obtain ⟨⟨⟨k1, k20, k2⟩, k3⟩, k4⟩ := hn
    obtain ⟨a, vs, rfl, ha, rs⟩ := rx.tup_inv
    have rs' := rs.rvs (C := C) (m := m)
    have hl := rs.len
    exact .inr (.inr ⟨a, k, vs, rfl, ry.int_inv, .inl (.inl ha), fun z => by subst z; simp at hl; omega, k1, k2, by omega, fun p hp => Fin.newT fin rh hp (rs'.many _)⟩)
  · exact fin.elim
end
end Sk

set_option maxHeartbeats 1000000
/-! Sk, part 26: tuple(range(n)), list(range(n)). -/
namespace Sk
open PySem PySem.Spec PyProof.Rows L2 GxR
def intsR (n : Int) : List Int := (List.range n.toNat).map fun i : Nat => (i : Int)
def rgT (mk : List Va → Sto → Rs Va) (x : Va) (st : Sto) : Rs Va := match x with
  | .dat (.int n) => if (decide (0 ≤ n) && upto 1000000 n) = true then mk ((intsR n).map fun i => .dat (.int i)) st else .bad
  | _ => .bad
def asT (xs : List Va) (st : Sto) : Rs Va := .ok (mkT xs) st
section
variable {X : Cx} {C : Cfg} {W : WX} {a : Expr} {ca : CE} {p p2 pos pos2 : Pos}
theorem rg_ints (n : Int) : rgV 0 n = (intsR n).map V.int := by
  unfold rgV intsR
  simp [Function.comp_def]
theorem fe_tupRg (hc : X.calm = true) (hg : Gl X "tuple") (hm : X.mg "tuple" = none) (hg2 : Gl X "range") (hm2 : X.mg "range" = none) (ha : PE X a (tE C W ca)) (na : starEach [a] X.env = (false, eval a X.env) :: starEach [] X.env := by rfl)
    (na2 : starEach [.Call (.Name "range" p2) [a] [] pos2] X.env = (false, eval (.Call (.Name "range" p2) [a] [] pos2) X.env) :: starEach [] X.env := by rfl) :
    PE X (.Call (.Name "tuple" p) [.Call (.Name "range" p2) [a] [] pos2] [] pos) (tE C W (dUn (rgT asT) ca)) :=
  PE.imp (pe_tupRg hc hg hm (prg_1 hg2 hm2 ha na) na2) fun s H Q h => tG.bind (R := relV) (k := fun x _ st => rgT asT x st) h fun M0 m ev st x v H1 rh re rv fin => by
    unfold rgT at fin
    split at fin
    · rename_i n
      obtain ⟨hn, fin⟩ := Fin.ifGo fin
      simp only [Bool.and_eq_true, decide_eq_true_eq, upto_iff] at hn
      refine ⟨n, rv.int_inv, RgOk.of_le (by omega) (by omega) (by omega) (by omega), fun q hq => ?_⟩
      rw [rg_ints]
      exact Fin.newT fin rh hq (rvs_ints _)
    · exact fin.elim
end
end Sk

set_option maxHeartbeats 4000000
/-! Sk, part 27: () * k, t * 1. -/
namespace Sk
open PySem PySem.Spec PyProof.Rows L2 GxR
theorem tuple_mul_self (l : Addr) (items : Array Value) (n : Nat) (dd : Option Addr) (sl : Array (Option Value)) (x : Int) (u : Tok) (c0 : (decide (x < -(2 ^ 63)) || decide (x ≥ 2 ^ 63)) = false) (c1 : (items.isEmpty || x == 1) = true) :
    Meets (Builtin.«tuple.__mul__» ⟨[.ref l, .int x u], []⟩) (fun _ R s => s.heap.get? l = some { cls := .type "tuple", dict := dd, data := .seq items n, slots := sl } ∧ R (.ok (.ret (Value.ref l))) s) :=
  .of_wp fun prog w A R s h => by
    obtain ⟨hp, g, d, tk, os⟩ := s
    obtain ⟨hl, h⟩ := h
    have f1 := AutoSeq1.idx_int
    wp_walk using wpAny_loadPart' hl
    repeat (first
      | (refine wpAny_ite_false (decide_eq_false (by rw [c0]; exact Bool.false_ne_true)) ?_; wp_walk using wpAny_loadPart' hl)
      | (refine wpAny_ite_true (decide_eq_true c1) ?_; wp_walk using wpAny_loadPart' hl))
    exact ⟨_, rfl, h⟩
def rRepS (K : PySem.W.Frag) : R2 := fun x y H Q => ∃ l k xs, x = .ref l ∧ y = .int k ∧ SqT K H l xs ∧ (xs = [] ∨ k = 1) ∧ -1000000 ≤ k ∧ k ≤ 1000000 ∧ Q (.ref l) H
section
variable {X : Cx} {C : Cfg} {W : WX}
theorem op_repS : OpR X (binaryOp .Mult) (rRepS X.K) := by
  intro pins s σ H x y v u Q I rx ry h
  obtain ⟨l, k, xs, rfl, rfl, hT, hne, h1, h2, q⟩ := h
  cases rx
  obtain ⟨t, rfl⟩ := ry
  obtain ⟨its, r, ⟨⟨cls, dd, data, sl⟩, ho, hc, n, hd⟩, hs⟩ := I.tuple hT
  simp only at hc hd
  subst hc hd
  have hle : its.length = xs.length := r.length.symm
  have c0 : (decide (k < -(2 ^ 63)) || decide (k ≥ 2 ^ 63)) = false := by
    rw [decide_eq_false (by omega), decide_eq_false (by omega)] <;> rfl
  have c1 : (its.toArray.isEmpty || k == 1) = true := by
    rcases hne with h | h
    · subst h
      rw [List.eq_nil_of_length_eq_zero hle]
      rfl
    · subst h
      simp
  refine wpAny_binaryOp_repeat_ref (T := "tuple") (U := "int") (by decide) ⟨_, ho, rfl⟩ (fun s' => typeIs_int s' k t) noFill_tuple_mul F.fills_int_mul F.slot_int_rmul repeat_tuple F.slot_int_index.lookup
    (call_meets F.slot_int_rmul (typeIs_int s k t) F.entry_int_rmul (F.args_int_rmul_2 _ _) (int_rmul_tuple k t l its.toArray n dd sl)
      ⟨ho, rfl, ⟨_, ho, rfl⟩, call_meets F.slot_tuple_mul ⟨_, ho, rfl⟩ F.entry_tuple_mul (F.args_tuple_mul_2 _ _) (tuple_mul_self l its.toArray n dd sl k t c0 c1) ⟨ho, ?_⟩⟩)
  exact ⟨.ref l, H, I, rfl, q⟩
def rMulY (K : PySem.W.Frag) : R2 := fun x y H Q => rMulX K x y H Q ∨ rRepS K x y H Q
def mulY (mk : List Va → Sto → Rs Va) (x y : Va) (st : Sto) : Rs Va := match x, y with
  | .dat (.tuple ds), .dat (.int k) => if (decide (ds = []) || decide (k = 1)) = true then (if upto 1000000 k = true then .ok x st else .bad) else mulS mk x y st
  | _, _ => mulS mk x y st
theorem op_mulY (hK : X.K = C.K := by rfl) : OpR X (binaryOp .Mult) (rMulY C.K) := (op_mulS hK).or (hK ▸ op_repS)
theorem os_mulY {mk : List Va → Sto → Rs Va} (hmk : mk = asF ∨ mk = newL) : OpS C (rMulY C.K) (mulY mk) := by
  intro M0 m H st v u x y E Q rh rx ry fin
  unfold mulY at fin
  split at fin
  · rename_i ds k
    split at fin
    · rename_i hc
      obtain ⟨hn, fin⟩ := Fin.ifGo fin
      simp only [Bool.and_eq_true, Bool.or_eq_true, decide_eq_true_eq, upto_iff] at hn hc
      obtain ⟨a, vs, rfl, ha, rs⟩ := rx.tup_inv
      refine .inr ⟨a, k, vs, rfl, ry.int_inv, .inl (.inl ha), ?_, hn.1, hn.2, FinG.out (R := relV C M0) fin rh rx⟩
      rcases hc with h | h
      · subst h
        cases rs
        exact .inl rfl
      · exact .inr h
    · exact .inl (os_mulS hmk M0 m H st v u _ _ E Q rh rx ry fin)
  · exact .inl (os_mulS hmk M0 m H st v u _ _ E Q rh rx ry fin)
end
end Sk

/-! Sk, part 28: raise, try. -/
namespace Sk
open PySem PySem.Spec PyProof.Rows L2 GxR
def dRaise (k : Nat) : CS := fun _ st => .err ⟨k, none⟩ st
def dTry (h : Nat → Option (Option PyData)) (b : CS) : CS := fun ev st => match b ev st with
  | .ok f st1 => .ok f st1
  | .err e st1 => (match h e.cls with
    | some (some d) => .ok (.rt (.dat d)) st1
    | some none => .err e st1
    | none => .bad)
  | .bad => .bad
@[simp] theorem eRaise {ev : Ev} {st : Sto} (k : Nat) : dRaise k ev st = .err ⟨k, none⟩ st := rfl
@[simp] theorem eTry {ev : Ev} {st : Sto} (h : Nat → Option (Option PyData)) (b : CS) : dTry h b ev st = (match b ev st with
  | .ok f st1 => .ok f st1
  | .err e st1 => (match h e.cls with
    | some (some d) => .ok (.rt (.dat d)) st1
    | some none => .err e st1
    | none => .bad)
  | .bad => .bad) := rfl
/-- which clause takes an exception of the class -/
def Hits (K : PySem.W.Frag) (cls : Value) : List (Value × V × PyData) → Option PyData → Prop
  | [], r => r = none
  | (c, _, d) :: l, r => ∃ b, PySem.W.exmOne K cls c = some b ∧ (b = true → r = some d) ∧ (b = false → Hits K cls l r)
section
variable {X : Cx} {C : Cfg} {W : WX}
theorem fs_raise {x m : Str} {j k : Nat} {p p2 p3 pos : Pos} {A : Addr} {bmB : List Value} {B newId initId : String} (hc : X.calm = true) (tk : Takes X W) (F : ExcBaseFacts B newId initId bmB) (q : PySem.W.excIn X.K A bmB newId = true) (gC : X.mg x = some (.ref A)) (kC : PySem.W.keepIn X.K (.ref A) = true)
    (b : PySem.W.subIn X.K (.ref A) (.type "BaseException") = some true) (t : PySem.W.typeIn X.K (.ref A) = some (.type "type")) (hg : Gl X x) (he : C.ec k = some A) (hdb : (x == ("__debug__" : Str)) = false := by decide) :
    PS X (.Raise (some (.Call (.Name x p) [.Constant (.str m) j p2] [] p3)) none pos) (tS C W (dRaise k)) :=
  PS.imp (ps_raise hc tk (pmk_own F q gC kC (raises_own b t) hg hdb)) fun D s H ⟨M0, m', ev, st, rh, re, fin⟩ => fin s (.ref A) none m' H (Go.refl _ _) rh ⟨⟨A, he, rfl⟩, rfl⟩
/-- the clauses: each gives back a constant -/
inductive HdsC (X : Cx) : List ExceptHandler → List (Value × V × PyData) → Prop
  | nil : HdsC X [] []
  | cons {x : Str} {c : Value} {v : V} {d : PyData} {b₀ : Stmt} {suite : List Stmt} {np pos' : Pos} {hds : List ExceptHandler} {l : List (Value × V × PyData)} (hc : Names X x c)
      (hsu : ∀ X' : Cx, PSs X' (b₀ :: suite) (tRet (tC v))) (hv : ∀ K H M, RD K H M v d) (r : HdsC X hds l) :
      HdsC X (.ExceptHandler (some (.Name x np)) none (b₀ :: suite) pos' :: hds) ((c, v, d) :: l)
abbrev clT (p : Value × V × PyData) : Value × (Addr → Value → Option Addr → TS) := (p.1, fun _ _ _ => tRet (tC p.2.1))
theorem HdsC.ok {hds : List ExceptHandler} {l : List (Value × V × PyData)} (h : HdsC X hds l) : HdsOk X hds (l.map clT) := by
  induction h with
  | nil => exact .nil
  | cons hc hsu hv r ih => exact .cons hc (fun _ _ _ _ _ _ _ => hsu _) ih
theorem HdsC.wish {hds : List ExceptHandler} {l : List (Value × V × PyData)} (h : HdsC X hds l) {cls : Value} {d : Option Addr} {r : Option PyData} {D : Ends} {s : L2.St} {H : Hp} {K : PySem.W.Frag} (q : Hits K cls l r) (h1 : ∀ v x, r = some x → (∀ K M, RD K H M v x) → D.rt v H) (h2 : r = none → W cls d s H) :
    wMany K W D (l.map clT) cls d s H := by
  induction h with
  | nil => exact h2 q
  | cons hc hsu hv _ ih =>
    obtain ⟨b, e, y, n⟩ := q
    refine ⟨b, e, fun eb a ha => ?_, fun eb => ih (n eb)⟩
    exact h1 _ _ (y eb) fun K M => hv K H M
theorem fs_try {body : List Stmt} {h₀ : ExceptHandler} {hds : List ExceptHandler} {l : List (Value × V × PyData)} {pos : Pos} {b : CS} {h : Nat → Option (Option PyData)} (hK : X.K = C.K) (hs : X.stack = X.env :: X.outer) (hf : X.env.frame = some X.env.locals) (tk : Takes X W)
    (hb : ∀ (W : WX) (pn : List (Addr × Obj)) (xe : Value → Shared → Prop), Takes (X.tr pn xe) W → PassesOwn (model X.prog X.w) X.A X.env xe → PSs (X.tr pn xe) body (tS C W b))
    (hh : HdsC X (h₀ :: hds) l) (hl : ∀ k A r, C.ec k = some A → h k = some r → Hits C.K (.ref A) l r) : PS X (.Try body (h₀ :: hds) [] [] pos) (tS C W (dTry h b)) :=
  PS.imp (ps_try_many hs hf tk hb hh.ok) fun D s H ⟨M0, m, ev, st, rh, re, fin⟩ => by
    refine ⟨M0, m, ev, st, rh, re, ?_⟩
    have fin' : FinS C M0 m H W (match b ev st with
      | .ok f st1 => .ok f st1
      | .err e st1 => (match h e.cls with
        | some (some d) => .ok (.rt (.dat d)) st1
        | some none => .err e st1
        | none => .bad)
      | .bad => .bad) D := fin
    cases e : b ev st with
    | ok f st1 => rw [e] at fin'; cases f <;> exact fin'
    | bad => rw [e] at fin'; exact fin'
    | err x st1 =>
      rw [e] at fin'
      intro s c d m' H' g rh' rx
      obtain ⟨⟨A, hA, rfl⟩, _⟩ := id rx
      cases eh : h x.cls with
      | none => simp only [eh] at fin'; exact fin'.elim
      | some r =>
        have q := hl _ _ _ hA eh
        rw [hK]
        refine hh.wish (W := W) q (fun v y ey rd => ?_) (fun en => ?_)
        · subst ey
          simp only [eh] at fin'
          exact fin' v m' H' g rh' (.dat (rd _ _))
        · subst en
          simp only [eh] at fin'
          exact fin' s _ d m' H' g rh' rx
end
end Sk

/-! Sk, part 29: list comprehensions with two for. -/
namespace Sk
open PySem PySem.Spec PyProof.Rows L2 GxR
abbrev CJ := Ev → Sto → Rs (List Va)
/-- the items of a walk that hangs on nothing that is written meanwhile -/
def ItSt (C : Cfg) (M : Addr → Prop) (H0 : Hp) (m0 : List Addr) (J : It) (p : List Va) : Prop := ∃ St : List Addr → Hp → Prop, St m0 H0 ∧ (∀ m H m' H', St m H → MutO H m → Go m H m' H' → St m' H') ∧
  (∀ m H D acc o, St m H → M D → H D = some (.lst acc) → St m (upd H D o)) ∧
  ∀ m H (i : Nat), St m H → (i < p.length → J.go i H ∧ ∀ x H', J.yld i H x H' → Same H H' ∧ ∃ y, p[i]? = some y ∧ RV C H' (Mx M m) m x y) ∧ (p.length ≤ i → J.stop i H)
abbrev relJ (C : Cfg) (M0 : Addr → Prop) : Hp → List Addr → It → List Va → Prop := fun H m J p => ItSt C M0 H m J p
abbrev tJ (C : Cfg) (W : WX) (c : CJ) : TI := tG relJ C W c
section
variable {X : Cx} {C : Cfg} {W : WX} {tg l : Expr} {cl : CE}
theorem is_range {M0 : Addr → Prop} {m : List Addr} {H : Hp} (lo : Int) (n : Nat) : ItSt C M0 H m (Itr lo n) (rangeL lo n) := by
  refine ⟨fun _ _ => True, trivial, fun _ _ _ _ _ _ _ => trivial, fun _ _ _ _ _ _ _ _ => trivial, fun m1 H1 i _ => ?_⟩
  have hlen : (rangeL lo n).length = n := by simp [rangeL]
  refine ⟨fun hi => ⟨show i < n by rw [← hlen]; exact hi, fun y H2 hy => ?_⟩, fun hi => show n ≤ i by rw [← hlen]; exact hi⟩
  obtain ⟨rfl, rfl⟩ := hy
  have hi : i < n := by rw [← hlen]; exact hi
  exact ⟨Same.refl _, .dat (.int (lo + i)), by simp [rangeL, hi], .dat (.int _)⟩
def unlock (p : List Va × Lk) (st : Sto) : Rs (List Va) := match p.2 with
  | none => .ok p.1 st
  | _ => .bad
def dRangeJ (c : CA) : CJ := fun ev st => (c ev st).bind fun xs st1 => (rangeV xs st1).bind unlock
variable {a b : Expr} {cs : CA} {p pos : Pos}
theorem fj_range1 (hg : Gl X "range") (hm : X.mg "range" = none) (ha : PA X [a] (tA C W cs)) (hs : starEach [a] X.env = [(false, eval a X.env)] := by rfl) (h1 : ∀ ev st xs st', cs ev st = .ok xs st' → xs.length = 1) : PI X tg (.Call (.Name "range" p) [a] [] pos) (tJ C W (dRangeJ cs)) := by
  refine PI.imp (pi_range1 hg hm ha hs) fun s H R ⟨M0, m, ev, st, rh, re, fin⟩ => ⟨M0, m, ev, st, rh, re, ?_⟩
  have fin : FinG (relJ C M0) C M0 m H (WE W s) ((cs ev st).bind fun xs st1 => (rangeV xs st1).bind unlock) R := fin
  cases e : cs ev st with
  | bad => rw [e] at fin; exact fin.elim
  | err x st1 => rw [e] at fin; exact fin
  | ok xs st1 =>
    rw [e] at fin
    have hlen := h1 _ _ _ _ e
    intro vs m1 H1 g rh1 rs
    have fin := FinG.rebase fin g
    simp only [Rs.bind_ok] at fin
    match xs, hlen, rs, fin with
    | [x], _, rs, fin =>
      obtain ⟨v, rfl, rv⟩ := rs.one
      unfold rangeV at fin
      split at fin
      · rename_i j he
        cases he
        by_cases hk : inR j = true
        · rw [if_pos hk] at fin
          obtain ⟨k1, k2⟩ := inR_of hk
          exact ⟨_, by rw [rv.int_inv], k1, k2, FinG.out (R := relJ C M0) fin rh1 (is_range 0 _)⟩
        · rw [if_neg hk] at fin; exact fin.elim
      · rename_i he; cases he
      · exact fin.elim
def itemsJ (x : Va) (st : Sto) : Rs (List Va) := match x with
  | .dat (.list ds) => .ok (ds.map .dat) st
  | .dat (.tuple ds) => .ok (ds.map .dat) st
  | .seq _ xs => .ok xs st
  | _ => .bad
def dIterJ (a : CE) : CJ := fun ev st => (a ev st).bind itemsJ
theorem is_seq {M0 : Addr → Prop} {m : List Addr} {H : Hp} {x : Va} {t : Bool} {xs : List Va} {a : Addr} (rv : RV C H (Mx M0 m) m (.ref a) x) (e : seqOf [] x = some (t, xs)) :
    ItSt C M0 H m (if t = true then Itt C.K a else Itl C.K a) xs := by
  refine ⟨fun m H => RV C H (Mx M0 m) m (.ref a) x, rv, fun m H m' H' r mu g => r.go g mu, fun m H D acc o r hM hD => r.putD hD (.inl hM), fun m1 H1 i rv1 => ?_⟩
  have key : ∃ vs, RVs C H1 (Mx M0 m1) m1 vs xs ∧ (if t = true then SqT C.K H1 a vs else SqL C.K H1 a vs) := by
    cases rv1 with
    | dat rd =>
      cases rd with
      | lst h n r => cases e; exact ⟨_, r.rvs, .inl (.inl h)⟩
      | tup h r => cases e; exact ⟨_, r.rvs, .inl (.inl h)⟩
    | ref h => simp [seqOf] at e
    | lst h n r => cases e; exact ⟨_, r, .inl (.inl h)⟩
    | frz h r => cases e; exact ⟨_, r, h.sql⟩
    | tup h r => cases e; exact ⟨_, r, h⟩
    | fn h => cases e
  obtain ⟨vs, rs, sq⟩ := key
  have hlen := rs.len
  refine ⟨fun hi => ?_, fun hi => ?_⟩
  · obtain ⟨v, hv, rv'⟩ := rs.get (List.getElem?_eq_getElem hi)
    cases t with
    | true =>
      refine ⟨⟨vs, v, sq, hv⟩, fun y H2 hy => ?_⟩
      obtain ⟨rfl, hy⟩ := hy
      have e2 := hy vs sq
      rw [hv] at e2
      cases e2
      exact ⟨Same.refl _, _, List.getElem?_eq_getElem hi, rv'⟩
    | false =>
      refine ⟨⟨vs, v, sq, hv⟩, fun y H2 hy => ?_⟩
      obtain ⟨rfl, hy⟩ := hy
      have e2 := hy vs sq
      rw [hv] at e2
      cases e2
      exact ⟨Same.refl _, _, List.getElem?_eq_getElem hi, rv'⟩
  · cases t with
    | true => exact ⟨vs, sq, by omega⟩
    | false => exact ⟨vs, sq, by omega⟩
theorem itemsJ_seq {x : Va} {xs : List Va} {st st1 : Sto} (h : itemsJ x st = .ok xs st1) : st1 = st ∧ ∃ t, seqOf [] x = some (t, xs) ∧ ∀ st', seqOf st' x = some (t, xs) := by
  unfold itemsJ at h
  split at h <;> cases h
  · exact ⟨rfl, _, rfl, fun _ => rfl⟩
  · exact ⟨rfl, _, rfl, fun _ => rfl⟩
  · exact ⟨rfl, _, rfl, fun _ => rfl⟩
theorem fj_seq (hK : X.K = C.K) (hl : PE X l (tE C W cl)) : PI X tg l (tJ C W (dIterJ cl)) := by
  refine PI.imp (pi_seq hl) fun s H R h => tG.bind (R := relV) (k := fun x _ st => itemsJ x st) h fun M0 m ev st x v H1 rh re rv fin => ?_
  cases e : itemsJ x st with
  | bad => rw [e] at fin; exact fin.elim
  | err y st1 => unfold itemsJ at e; split at e <;> cases e
  | ok xs st1 =>
    rw [e] at fin
    obtain ⟨rfl, t, e1, e2⟩ := itemsJ_seq e
    obtain ⟨a, vs, rfl, rs, sq⟩ := seqOf_rel rh rv (e2 st1)
    have q := FinG.out (R := relJ C M0) fin rh (is_seq rv e1)
    rw [hK]
    refine ⟨a, rfl, ?_⟩
    cases t with
    | true => exact .inr ⟨⟨vs, sq⟩, q⟩
    | false => exact .inl ⟨⟨vs, sq⟩, q⟩
end
/-! ### the combinator -/
def comp2Turn (t : CT) (k : CB) (it1 : CJ) (own1 : List Nat) (t1 : CT) (k1 : CB) (e : CE) (n : Nat) (x : Va) (ev : Ev) (st : Sto) : Rs (List Va) :=
  (t x ev st).calm.bind fun ev1 st1 => (k ev1 st1).calm.bind fun b st2 => if b = true then (it1 ev1 st2).calm.bind fun p st3 => if few (n + p.length) = true then compL none (compTurn t1 k1 e) p (wipeE ev1 own1) st3 else .bad else .ok [] st2
def comp2L (l : Lk) (f : Nat → Va → Ev → Sto → Rs (List Va)) : List Va → Nat → Ev → Sto → Rs (List Va)
  | [] => fun _ _ st => if lkOk l st = true then .ok [] st else .bad
  | x :: r => fun n ev st => if lkOk l st = true then (f n x ev st).bind fun ys st1 => (comp2L l f r (n + ys.length) ev st1).bind fun zs st2 => .ok (ys ++ zs) st2 else .bad
def dComp2 (mk : List Va → Sto → Rs Va) (it : CI) (own : List Nat) (t : CT) (k : CB) (it1 : CJ) (own1 : List Nat) (t1 : CT) (k1 : CB) (e : CE) : CE := fun ev st =>
  (it ev st).bind fun p st1 => (comp2L p.2 (comp2Turn t k it1 own1 t1 k1 e) p.1 0 (wipeE ev own) st1).bind mk
section
variable {X : Cx} {C : Cfg} {W : WX}
theorem Go.push {m m6 : List Addr} {H1 H6 : Hp} {D : Addr} {o : HO} (hD : H1 D = none) (g7 : Go m H1 m6 H6) : Go m H1 m6 (upd H6 D o) := by
  refine ⟨g7.pre, fun b o hb nb tb => ?_, fun b ps hb => ?_, g7.nw⟩
  · have e : b ≠ D := fun e => by rw [e, hD] at hb; cases hb
    rw [upd_ne e]
    exact g7.kp b o hb nb tb
  · have e : b ≠ D := fun e => by rw [e, hD] at hb; cases hb
    rw [upd_ne e]
    exact g7.tk b ps hb
/-- the inner walk -/
theorem lc_in {t1 : CT} {k1 : CB} {ce : CE} {g1 : TG} {own1 : List Nat} (hT1 : CompT C own1 g1 t1) {M0 : Addr → Prop} {m : List Addr} {H1 : Hp} {D : Addr} (hD : H1 D = none) {items : List Va} {J : It}
    {so si : L2.St} {eo ei : Ev} {m4 : List Addr} {H4 : Hp} {st4 : Sto} {acc4 : List V} {ys4 : List Va} (g4 : Go m H1 m4 H4) (rh4 : RH C (Pr M0 D) m4 H4 st4) (ro4 : RE C H4 (Pr M0 D) m4 so eo) (ri4 : RE C H4 (Pr M0 D) m4 si ei) (hD4 : H4 D = some (.lst acc4))
    (ra4 : RVs C H4 (Mx (Pr M0 D) m4) m4 acc4 ys4) (rj : ItSt C (Pr M0 D) H4 m4 J items) (hfew : few (ys4.length + items.length) = true) {E : XK} {Q : VK} {cont : List Va → Sto → Rs Va}
    (fin : Fin C M0 m H1 E ((compL none (compTurn t1 k1 ce) items (wipeE ei own1) st4).bind fun zs st2 => cont (ys4 ++ zs) st2) Q) {Nx : Hp → Prop}
    (hN : ∀ m' H' st' acc ys, Go m H1 m' H' → RH C (Pr M0 D) m' H' st' → RE C H' (Pr M0 D) m' so eo → H' D = some (.lst acc) → RVs C H' (Mx (Pr M0 D) m') m' acc ys → Fin C M0 m H1 E (cont ys st') Q → Nx H') :
    ∃ W1 : Nat → Nat → Hp → Prop, (∃ k, W1 0 k H4) ∧ ∀ j k H, W1 j k H → (J.stop j H ∧ Nx H) ∨ (J.go j H ∧ ∃ Nx1 : Hp → Prop, (∀ H', Nx1 H' → ∃ k', k' < k ∧ W1 (j + 1) k' H') ∧ ∀ x H', J.yld j H x H' → g1 x (wipe si own1) H' fun σ3 H5 => wipe σ3 own1 = wipe si own1 ∧
      tT C W0 k1 σ3 H5 fun b H6 => if b = true then tE C W0 ce σ3 H6 fun y H7 => ∃ acc, H7 D = some (.lst acc) ∧ acc.length < sizeLine ∧ Nx1 (upd H7 D (.lst (acc ++ [y]))) else Nx1 H6) := by
  obtain ⟨St, s0, sgo, sput, sit⟩ := rj
  refine ⟨fun i c H' => c = items.length - i ∧ i ≤ items.length ∧ ∃ m' st' acc ys, Go m H1 m' H' ∧ RH C (Pr M0 D) m' H' st' ∧ RE C H' (Pr M0 D) m' so eo ∧ RE C H' (Pr M0 D) m' (wipe si own1) (wipeE ei own1) ∧ St m' H' ∧ H' D = some (.lst acc) ∧ RVs C H' (Mx (Pr M0 D) m') m' acc ys ∧ acc.length ≤ ys4.length + i ∧
        Fin C M0 m H1 E ((compL none (compTurn t1 k1 ce) (items.drop i) (wipeE ei own1) st').bind fun zs st2 => cont (ys ++ zs) st2) Q,
    ⟨items.length, rfl, Nat.zero_le _, m4, st4, acc4, ys4, g4, rh4, ro4, wipe_re ri4 own1, s0, hD4, ra4, by rw [ra4.len]; exact Nat.le_refl _, fin⟩, ?_⟩
  rintro i c H' ⟨rfl, hi, m', st', acc, ys, g', rh', ro', re', s', hD', racc, hal, fin'⟩
  have dn : D ∉ m' := fun z => rh'.dj D z (.inr rfl)
  by_cases hlt : i < items.length
  · rw [List.drop_eq_getElem_cons hlt] at fin'
    have fin' : Fin C M0 m H1 E ((if lkOk none st' = true then (compTurn t1 k1 ce items[i] (wipeE ei own1) st').bind fun o st1 => (compL none (compTurn t1 k1 ce) (items.drop (i + 1)) (wipeE ei own1) st1).bind fun ys st2 => .ok (consO o ys) st2 else .bad).bind fun zs st2 => cont (ys ++ zs) st2) Q := fin'
    simp only [lkOk_none, if_true, Rs.bind_assoc, Rs.bind_ok] at fin'
    obtain ⟨go, yld⟩ := (sit m' H' i s').1 hlt
    refine .inr ⟨go, fun H2 => ∃ m2 st2 acc2 ys2, Go m H1 m2 H2 ∧ RH C (Pr M0 D) m2 H2 st2 ∧ RE C H2 (Pr M0 D) m2 so eo ∧ RE C H2 (Pr M0 D) m2 (wipe si own1) (wipeE ei own1) ∧ St m2 H2 ∧ H2 D = some (.lst acc2) ∧ RVs C H2 (Mx (Pr M0 D) m2) m2 acc2 ys2 ∧ acc2.length ≤ ys4.length + (i + 1) ∧
      Fin C M0 m H1 E ((compL none (compTurn t1 k1 ce) (items.drop (i + 1)) (wipeE ei own1) st2).bind fun zs st3 => cont (ys2 ++ zs) st3) Q, fun H2 h => ⟨items.length - (i + 1), by omega, rfl, hlt, h⟩, fun x H3 hy => ?_⟩
    obtain ⟨sm, y, ey, ry⟩ := yld x H3 hy
    rw [List.getElem?_eq_getElem hlt] at ey
    cases ey
    have g3 : Go m' H' m' H3 := Go.same sm
    have rh3 := rh'.same sm
    have re3 := re'.go g3 rh'.mu
    rw [show compTurn t1 k1 ce items[i] (wipeE ei own1) st' = ((t1 items[i] (wipeE ei own1) st').bind fun ev1 st1 => (k1 ev1 st1).bind fun b st2 => if b = true then (ce ev1 st2).bind fun y st3 => .ok (some y) st3 else .ok none st2).calm from rfl] at fin'
    cases ht : t1 items[i] (wipeE ei own1) st' with
    | bad => rw [ht] at fin'; exact fin'.elim
    | err _ _ => rw [ht] at fin'; exact fin'.elim
    | ok ev1 sa =>
      rw [ht] at fin'
      simp only [Rs.bind_ok] at fin'
      refine hT1 (Pr M0 D) m' H3 _ st' (wipe si own1) items[i] x _ rh3 re3 ry ev1 sa ht fun s4 m4 H4 g4 rh4 re4 w4 => ⟨by rw [w4, wipe_wipe], ?_⟩
      cases hk : k1 ev1 sa with
      | bad => rw [hk] at fin'; exact fin'.elim
      | err _ _ => rw [hk] at fin'; exact fin'.elim
      | ok b sb =>
        rw [hk] at fin'
        simp only [Rs.bind_ok] at fin'
        refine ⟨Pr M0 D, m4, ev1, sa, rh4, re4, ?_⟩
        rw [hk]
        intro y5 m5 H5 g5 rh5 e5
        have e5 : y5 = b := e5
        subst e5
        have re5 := re4.go g5 rh4.mu
        have gg : Go m' H' m5 H5 := (g3.trans g4).trans g5
        have hD5 : H5 D = some (.lst acc) := gg.kp D _ hD' dn fun ps e => nomatch e
        cases y5 with
        | false =>
          refine ite_ff ⟨m5, sb, acc, ys, g'.trans gg, rh5, ro'.go gg rh'.mu, re'.go gg rh'.mu, sgo _ _ _ _ s' rh'.mu gg, hD5, racc.go gg rh'.mu, by omega, ?_⟩
          simpa [consO] using fin'
        | true =>
          refine ite_tt ⟨Pr M0 D, m5, ev1, sb, rh5, re5, ?_⟩
          cases he : ce ev1 sb with
          | bad => simp only [he, if_true] at fin'; exact fin'.elim
          | err _ _ => simp only [he, if_true] at fin'; exact fin'.elim
          | ok z sc =>
            simp only [he, if_true, Rs.bind_ok, Rs.calm_ok] at fin'
            intro v6 m6 H6 g6 rh6 r6
            have gg6 : Go m' H' m6 H6 := gg.trans g6
            have hD6 : H6 D = some (.lst acc) := gg6.kp D _ hD' dn fun ps e => nomatch e
            have hsz : ys4.length + items.length ≤ sizeLine := few_le hfew
            refine ⟨acc, hD6, by omega, m6, sc, acc ++ [v6], ys ++ [z], Go.push hD (g'.trans gg6), rh6.putD hD6 (.inr rfl), (ro'.go gg6 rh'.mu).putD hD6 (.inr rfl), (re'.go gg6 rh'.mu).putD hD6 (.inr rfl), sput _ _ _ _ _ (sgo _ _ _ _ s' rh'.mu gg6) (.inr rfl) hD6, upd_same,
              ((racc.go gg6 rh'.mu).append (.cons r6 .nil)).putD hD6 (.inl (.inr rfl)), by rw [List.length_append]; simp; omega, ?_⟩
            simpa [consO] using fin'
  · have ei : i = items.length := by omega
    subst ei
    rw [List.drop_length] at fin'
    have fin' : Fin C M0 m H1 E ((.ok [] st' : Rs (List Va)).bind fun zs st2 => cont (ys ++ zs) st2) Q := fin'
    simp only [Rs.bind_ok, List.append_nil] at fin'
    exact .inl ⟨(sit m' H' items.length s').2 (Nat.le_refl _), hN m' H' st' acc ys g' rh' ro' hD' racc fin'⟩
theorem lc2_of {wi : CI} {g g1 : TG} {t t1 : CT} {k k1 : CB} {wj : CJ} {ce : CE} {own own1 : List Nat} {mk : List Va → Sto → Rs Va} (hT : CompT C own g t) (hT1 : CompT C own1 g1 t1) (hM : MkS C mk) (s : L2.St) (H : Hp) (Q : VK) (h : tE C W (dComp2 mk wi own t k wj own1 t1 k1 ce) s H Q) :
    tLc2 (tI C W wi) g (tT C W0 k) (tJ C W0 wj) g1 (tT C W0 k1) (tE C W0 ce) own own1 s H Q :=
  tG.bind (R := relI) (k := fun p ev st1 => (comp2L p.2 (comp2Turn t k wj own1 t1 k1 ce) p.1 0 (wipeE ev own) st1).bind mk) h fun M0 m ev st p J H1 rh re rj fin => by
    obtain ⟨items, l⟩ := p
    intro D hD
    have nD : ¬ M0 D := fun z => by
      obtain ⟨o, q⟩ := rh.m0 D z
      rw [hD] at q; cases q
    have hMp : ∀ a, Pr M0 D a → M0 a ∨ H1 a = none := fun a z => z.elim .inl fun e => .inr (by rw [e]; exact hD)
    have sm0 : Same H1 (upd H1 D (.lst [])) := same_new hD
    refine ⟨fun i c H' => c = items.length - i ∧ i ≤ items.length ∧ ∃ m' st' acc ys, Go m H1 m' H' ∧ RH C (Pr M0 D) m' H' st' ∧ RE C H' (Pr M0 D) m' (wipe s own) (wipeE ev own) ∧ H' D = some (.lst acc) ∧ RVs C H' (Mx (Pr M0 D) m') m' acc ys ∧
        Fin C M0 m H1 (WE W s) ((comp2L l (comp2Turn t k wj own1 t1 k1 ce) (items.drop i) ys.length (wipeE ev own) st').bind fun zs st2 => mk (ys ++ zs) st2) Q,
      ⟨items.length, rfl, Nat.zero_le _, m, st, [], [], Go.same sm0, rh.prot hD, wipe_re (re.goM (Go.same sm0) rh.mu hMp) own, upd_same, .nil, fin⟩, ?_⟩
    rintro i c H' ⟨rfl, hi, m', st', acc, ys, g', rh', re', hD', racc, fin'⟩
    have dn : D ∉ m' := fun z => rh'.dj D z (.inr rfl)
    by_cases hlt : i < items.length
    · rw [List.drop_eq_getElem_cons hlt] at fin'
      have fin' : Fin C M0 m H1 (WE W s) ((if lkOk l st' = true then (comp2Turn t k wj own1 t1 k1 ce ys.length items[i] (wipeE ev own) st').bind fun ws st1 => (comp2L l (comp2Turn t k wj own1 t1 k1 ce) (items.drop (i + 1)) (ys.length + ws.length) (wipeE ev own) st1).bind fun zs st2 => .ok (ws ++ zs) st2 else .bad).bind fun zs st2 => mk (ys ++ zs) st2) Q := fin'
      cases hl : lkOk l st' with
      | false => rw [hl] at fin'; exact fin'.elim
      | true =>
        rw [hl] at fin'
        simp only [if_true, Rs.bind_assoc, Rs.bind_ok] at fin'
        obtain ⟨go, yld⟩ := (rj (Pr M0 D) m' H' st' g' hMp rh' hl i).1 hlt
        refine .inr ⟨go, fun H2 => ∃ m2 st2 acc2 ys2, Go m H1 m2 H2 ∧ RH C (Pr M0 D) m2 H2 st2 ∧ RE C H2 (Pr M0 D) m2 (wipe s own) (wipeE ev own) ∧ H2 D = some (.lst acc2) ∧ RVs C H2 (Mx (Pr M0 D) m2) m2 acc2 ys2 ∧
          Fin C M0 m H1 (WE W s) ((comp2L l (comp2Turn t k wj own1 t1 k1 ce) (items.drop (i + 1)) ys2.length (wipeE ev own) st2).bind fun zs st3 => mk (ys2 ++ zs) st3) Q, fun H2 h => ⟨items.length - (i + 1), by omega, rfl, hlt, h⟩, fun x H3 hy => ?_⟩
        obtain ⟨sm, y, ey, ry⟩ := yld x H3 hy
        rw [List.getElem?_eq_getElem hlt] at ey
        cases ey
        have g3 : Go m' H' m' H3 := Go.same sm
        have rh3 := rh'.same sm
        have re3 := re'.go g3 rh'.mu
        rw [show comp2Turn t k wj own1 t1 k1 ce ys.length items[i] (wipeE ev own) st' = ((t items[i] (wipeE ev own) st').calm.bind fun ev1 st1 => (k ev1 st1).calm.bind fun b st2 => if b = true then (wj ev1 st2).calm.bind fun p st3 => if few (ys.length + p.length) = true then compL none (compTurn t1 k1 ce) p (wipeE ev1 own1) st3 else .bad else .ok [] st2) from rfl] at fin'
        cases ht : t items[i] (wipeE ev own) st' with
        | bad => rw [ht] at fin'; exact fin'.elim
        | err _ _ => rw [ht] at fin'; exact fin'.elim
        | ok ev1 sa =>
          rw [ht] at fin'
          simp only [Rs.bind_ok, Rs.calm_ok] at fin'
          refine hT (Pr M0 D) m' H3 _ st' (wipe s own) items[i] x _ rh3 re3 ry ev1 sa ht fun s4 m4 H4 g4 rh4 re4 w4 => ⟨by rw [w4, wipe_wipe], ?_⟩
          cases hk : k ev1 sa with
          | bad => rw [hk] at fin'; exact fin'.elim
          | err _ _ => rw [hk] at fin'; exact fin'.elim
          | ok b sb =>
            rw [hk] at fin'
            simp only [Rs.bind_ok, Rs.calm_ok] at fin'
            refine ⟨Pr M0 D, m4, ev1, sa, rh4, re4, ?_⟩
            rw [hk]
            intro y5 m5 H5 g5 rh5 e5
            have e5 : y5 = b := e5
            subst e5
            have re5 := re4.go g5 rh4.mu
            have gg : Go m' H' m5 H5 := (g3.trans g4).trans g5
            have hD5 : H5 D = some (.lst acc) := gg.kp D _ hD' dn fun ps e => nomatch e
            cases y5 with
            | false =>
              refine ite_ff ⟨m5, sb, acc, ys, g'.trans gg, rh5, re'.go gg rh'.mu, hD5, racc.go gg rh'.mu, ?_⟩
              simpa using fin'
            | true =>
              refine ite_tt ⟨Pr M0 D, m5, ev1, sb, rh5, re5, ?_⟩
              cases hj : wj ev1 sb with
              | bad => simp only [hj, if_true] at fin'; exact fin'.elim
              | err _ _ => simp only [hj, if_true] at fin'; exact fin'.elim
              | ok q sc =>
                simp only [hj, if_true, Rs.bind_ok, Rs.calm_ok] at fin'
                intro J1 m6 H6 g6 rh6 rj6
                have gg6 : Go m' H' m6 H6 := gg.trans g6
                have hD6 : H6 D = some (.lst acc) := gg6.kp D _ hD' dn fun ps e => nomatch e
                by_cases hf : few (ys.length + q.length) = true
                · rw [if_pos hf] at fin'
                  refine lc_in (so := wipe s own) (eo := wipeE ev own) (cont := fun ys2 st2 => (comp2L l (comp2Turn t k wj own1 t1 k1 ce) (items.drop (i + 1)) ys2.length (wipeE ev own) st2).bind fun zs st3 => mk (ys2 ++ zs) st3) hT1 hD (g'.trans gg6) rh6 (re'.go gg6 rh'.mu) (re5.go g6 rh5.mu) hD6 (racc.go gg6 rh'.mu) rj6 hf ?_
                    fun m7 H7 st7 acc7 ys7 g7 rh7 ro7 hD7 ra7 fin7 => ⟨m7, st7, acc7, ys7, g7, rh7, ro7, hD7, ra7, fin7⟩
                  simpa using fin'
                · rw [if_neg hf] at fin'; exact fin'.elim
    · have ei : i = items.length := by omega
      subst ei
      rw [List.drop_length] at fin'
      have fin' : Fin C M0 m H1 (WE W s) ((if lkOk l st' = true then .ok [] st' else .bad : Rs (List Va)).bind fun zs st2 => mk (ys ++ zs) st2) Q := fin'
      cases hl : lkOk l st' with
      | false => rw [hl] at fin'; exact fin'.elim
      | true =>
        rw [hl] at fin'
        simp only [if_true, Rs.bind_ok, List.append_nil] at fin'
        exact .inl ⟨(rj (Pr M0 D) m' H' st' g' hMp rh' hl items.length).2 (Nat.le_refl _), hM M0 m m' H1 H' st' _ Q ys acc D g' hD nD rh' hD' racc fin'⟩
variable {elt tg iter tg1 iter1 : Expr} {ifs ifs1 : List Expr} {scope : Scope} {own : List (Str × Nat)} {vs1 : List Nat} {pos : Pos} {wi : CI} {wj : CJ} {g g1 : TG} {t t1 : CT} {k k1 : CB} {ce : CE} {mk : List Va → Sto → Rs Va}
theorem fe_lc2 (hM : MkS C mk) (hc : X.calm = true) (hN : X.N.Nodup) (hi : PI X tg iter (tI C W wi)) (ok : BlkOk X.N X.env.scope scope own) (hv : ∀ i ∈ vs1, i ∈ own.map (·.2)) (hT : CompT C (own.map (·.2)) g t) (hT1 : CompT C vs1 g1 t1)
    (hg : ∀ (s : Shared) (H : Hp) (A : Addr) (cl : List (Str × Addr)) (fp : List Addr), PG (X.blk s H scope (compEnvC scope cl A X.env) fp) tg g) (ht : ∀ (s : Shared) (H : Hp) (A : Addr) (cl : List (Str × Addr)) (fp : List Addr), PTs (X.blk s H scope (compEnvC scope cl A X.env) fp) ifs (tT C W0 k))
    (hi1 : ∀ (s : Shared) (H : Hp) (A : Addr) (cl : List (Str × Addr)) (fp : List Addr), PI (X.blk s H scope (compEnvC scope cl A X.env) fp) tg1 iter1 (tJ C W0 wj))
    (hg1 : ∀ (s : Shared) (H : Hp) (A : Addr) (cl : List (Str × Addr)) (fp : List Addr), PG (X.blk s H scope (compEnvC scope cl A X.env) fp) tg1 g1) (ht1 : ∀ (s : Shared) (H : Hp) (A : Addr) (cl : List (Str × Addr)) (fp : List Addr), PTs (X.blk s H scope (compEnvC scope cl A X.env) fp) ifs1 (tT C W0 k1))
    (he : ∀ (s : Shared) (H : Hp) (A : Addr) (cl : List (Str × Addr)) (fp : List Addr), PE (X.blk s H scope (compEnvC scope cl A X.env) fp) elt (tE C W0 ce)) (hs : ∀ x, foldedSetIterable iter X.env x = pure x := by intro _; rfl) (hs1 : ∀ env x, foldedSetIterable iter1 env x = pure x := by intro _ _; rfl) :
    PE X (.ListComp elt [⟨tg, iter, ifs, 0⟩, ⟨tg1, iter1, ifs1, 0⟩] scope pos) (tE C W (dComp2 mk wi (own.map (·.2)) t k wj vs1 t1 k1 ce)) := PE.imp (pe_lc2 hc hN hi ok hv hg ht hi1 hg1 ht1 he hs hs1) (lc2_of hT hT1 hM)
end
@[simp] theorem eComp2 {ev : Ev} {st : Sto} (mk : List Va → Sto → Rs Va) (it : CI) (own : List Nat) (t : CT) (k : CB) (it1 : CJ) (own1 : List Nat) (t1 : CT) (k1 : CB) (e : CE) : dComp2 mk it own t k it1 own1 t1 k1 e ev st =
  (it ev st).bind fun p st1 => (comp2L p.2 (comp2Turn t k it1 own1 t1 k1 e) p.1 0 (wipeE ev own) st1).bind mk := rfl
@[simp] theorem eRangeJ {ev : Ev} {st : Sto} (c : CA) : dRangeJ c ev st = (c ev st).bind fun xs st1 => (rangeV xs st1).bind unlock := rfl
@[simp] theorem eIterJ {ev : Ev} {st : Sto} (c : CE) : dIterJ c ev st = (c ev st).bind itemsJ := rfl
end Sk

/-! Sk, part 30: plain words about blocks, loops and data. -/
namespace Sk
open PySem PySem.Spec PyProof.Rows L2 GxR
section
variable {p q : CS} {ev ev1 : Ev} {st st1 : Sto}
theorem seq_nx {r : Rs Fl} (h : p ev st = .ok (.nx ev1) st1) (h2 : q ev1 st1 = r) : dSeq p q ev st = r := by
  rw [eSeq, h]; exact h2
theorem seq_rt {x : Va} (h : p ev st = .ok (.rt x) st1) : dSeq p q ev st = .ok (.rt x) st1 := by
  rw [eSeq, h]; rfl
theorem seq_err {x : Ec} (h : p ev st = .err x st1) : dSeq p q ev st = .err x st1 := by
  rw [eSeq, h]; rfl
/-- a walk by an invariant -/
theorem forS_inv {α : Type} {b : Va → Ev → Sto → Rs Fl} {h : α → Va} (I : Nat → Ev → Sto → Prop) : ∀ {xs : List α} {k : Nat} {ev : Ev} {st : Sto}, I k ev st →
    (∀ (i : Nat) (a : α) (ev : Ev) (st : Sto), xs[i]? = some a → I (k + i) ev st → ∃ ev' st', (b (h a) ev st = .ok (.nx ev') st' ∨ b (h a) ev st = .ok (.ct ev') st') ∧ I (k + i + 1) ev' st') →
    ∃ ev' st', forS none b (xs.map h) ev st = .ok (.nx ev') st' ∧ I (k + xs.length) ev' st'
  | [], k, ev, st, hi, _ => ⟨ev, st, by simp [forS], hi⟩
  | a :: r, k, ev, st, hi, hf => by
    obtain ⟨ev1, st1, e1, h1⟩ := hf 0 a ev st rfl hi
    obtain ⟨ev2, st2, e2, h2⟩ := forS_inv (b := b) (h := h) I (xs := r) (k := k + 1) h1 fun i c ev st hc hi => by
      have := hf (i + 1) c ev st (by simpa using hc) (by rwa [show k + 1 + i = k + (i + 1) by omega] at hi)
      rwa [show k + (i + 1) + 1 = k + 1 + i + 1 by omega] at this
    refine ⟨ev2, st2, ?_, by rwa [List.length_cons, show k + (r.length + 1) = k + 1 + r.length by omega]⟩
    rcases e1 with e1 | e1 <;> simp only [List.map_cons, forS, lkOk_none, if_true, e1, e2]
/-- a walk that may give back -/
theorem forS_ret {α : Type} {b : Va → Ev → Sto → Rs Fl} {h : α → Va} (I : Nat → Ev → Sto → Prop) (R : Va → Sto → Prop) : ∀ {xs : List α} {k : Nat} {ev : Ev} {st : Sto}, I k ev st →
    (∀ (i : Nat) (a : α) (ev : Ev) (st : Sto), xs[i]? = some a → I (k + i) ev st → (∃ ev' st', (b (h a) ev st = .ok (.nx ev') st' ∨ b (h a) ev st = .ok (.ct ev') st') ∧ I (k + i + 1) ev' st') ∨ ∃ x st', b (h a) ev st = .ok (.rt x) st' ∧ R x st') →
    (∃ ev' st', forS none b (xs.map h) ev st = .ok (.nx ev') st' ∧ I (k + xs.length) ev' st') ∨ ∃ x st', forS none b (xs.map h) ev st = .ok (.rt x) st' ∧ R x st'
  | [], k, ev, st, hi, _ => .inl ⟨ev, st, by simp [forS], hi⟩
  | a :: r, k, ev, st, hi, hf => by
    rcases hf 0 a ev st rfl hi with ⟨ev1, st1, e1, h1⟩ | ⟨x, st1, e1, h1⟩
    · have := forS_ret (b := b) (h := h) I R (xs := r) (k := k + 1) h1 fun i c ev st hc hi => by
        have := hf (i + 1) c ev st (by simpa using hc) (by rwa [show k + 1 + i = k + (i + 1) by omega] at hi)
        rwa [show k + (i + 1) + 1 = k + 1 + i + 1 by omega] at this
      rcases this with ⟨ev2, st2, e2, h2⟩ | ⟨x, st2, e2, h2⟩
      · refine .inl ⟨ev2, st2, ?_, by rwa [List.length_cons, show k + (r.length + 1) = k + 1 + r.length by omega]⟩
        rcases e1 with e1 | e1 <;> simp only [List.map_cons, forS, lkOk_none, if_true, e1, e2]
      · refine .inr ⟨x, st2, ?_, h2⟩
        rcases e1 with e1 | e1 <;> simp only [List.map_cons, forS, lkOk_none, if_true, e1, e2]
    · exact .inr ⟨x, st1, by simp only [List.map_cons, forS, lkOk_none, if_true, e1], h1⟩
/-- a fold -/
theorem forS_fold {α σ : Type} {b : Va → Ev → Sto → Rs Fl} {h : α → Va} (E : σ → Ev) (S : σ → Sto) (f : σ → α → σ) : ∀ {xs : List α} {s : σ}, (∀ a ∈ xs, ∀ s, b (h a) (E s) (S s) = .ok (.nx (E (f s a))) (S (f s a))) →
    forS none b (xs.map h) (E s) (S s) = .ok (.nx (E (xs.foldl f s))) (S (xs.foldl f s))
  | [], s, _ => by simp [forS]
  | a :: r, s, hf => by
    have e1 := hf a (by simp) s
    have e2 := forS_fold E S f (xs := r) (s := f s a) fun c hc => hf c (List.mem_cons_of_mem _ hc)
    simp only [List.map_cons, forS, lkOk_none, if_true, e1, e2, List.foldl_cons]
/-- a while by an invariant and a measure -/
theorem whileS_inv {c : CB} {b : CS} (I : Ev → Sto → Nat → Prop) (D : Ev → Sto → Prop)
    (step : ∀ ev st n, I ev st n → (∃ st1, c ev st = .ok false st1 ∧ D ev st1) ∨ ∃ ev' st1 st2 n', c ev st = .ok true st1 ∧ (b ev st1 = .ok (.nx ev') st2 ∨ b ev st1 = .ok (.ct ev') st2) ∧ n' < n ∧ I ev' st2 n') :
    ∀ (f n : Nat) (ev : Ev) (st : Sto), n < f → I ev st n → ∃ ev' st', whileS c b f ev st = .ok (.nx ev') st' ∧ D ev' st'
  | 0, n, ev, st, h, _ => by omega
  | f + 1, n, ev, st, h, hi => by
    rcases step ev st n hi with ⟨st1, e1, hd⟩ | ⟨ev', st1, st2, n', e1, e2, hn, hi'⟩
    · exact ⟨ev, st1, by simp [whileS, e1], hd⟩
    · obtain ⟨ev2, st3, e3, hd⟩ := whileS_inv I D step f n' ev' st2 (by omega) hi'
      rcases e2 with e2 | e2 <;> exact ⟨ev2, st3, by simp [whileS, e1, e2, e3], hd⟩
end
section
variable {f : Va → Ev → Sto → Rs (Option Va)} {ev : Ev} {st : Sto}
theorem compL_filter {α : Type} {h G : α → Va} {p : α → Bool} : ∀ {xs : List α}, (∀ a ∈ xs, f (h a) ev st = .ok (if p a = true then some (G a) else none) st) → compL none f (xs.map h) ev st = .ok ((xs.filter p).map G) st
  | [], _ => by simp [compL]
  | a :: r, hf => by
    have e1 := hf a (by simp)
    have e2 := compL_filter (xs := r) fun b hb => hf b (List.mem_cons_of_mem _ hb)
    simp only [List.map_cons, compL, lkOk_none, if_true, e1, Rs.bind_ok, e2]
    by_cases hp : p a = true <;> simp [hp, consO]
/-- things drawn one after another -/
theorem compL_draw {α β : Type} {h : α → Va} {G : β → Va} {P : Sto → Prop} {R : β → Prop} : ∀ {xs : List α} {st : Sto}, (∀ a ∈ xs, ∀ st, P st → ∃ y st', f (h a) ev st = .ok (some (G y)) st' ∧ P st' ∧ R y) → P st →
    ∃ (ys : List β) (st' : Sto), compL none f (xs.map h) ev st = .ok (ys.map G) st' ∧ ys.length = xs.length ∧ (∀ y ∈ ys, R y) ∧ P st'
  | [], st, _, hp => ⟨[], st, by simp [compL], rfl, by simp, hp⟩
  | a :: r, st, hf, hp => by
    obtain ⟨y, st1, e1, p1, r1⟩ := hf a (by simp) st hp
    obtain ⟨ys, st2, e2, l2, r2, p2⟩ := compL_draw (xs := r) (fun b hb => hf b (List.mem_cons_of_mem _ hb)) p1
    refine ⟨y :: ys, st2, ?_, by simp [l2], ?_, p2⟩
    · simp only [List.map_cons, compL, lkOk_none, if_true, e1, Rs.bind_ok, e2, consO]
    · intro z hz
      rcases List.mem_cons.mp hz with e | hz
      · rw [e]; exact r1
      · exact r2 z hz
end
/-! ### good data -/
/-- f writes things of a kind as data: alike as data only if alike -/
structure Gd {α : Type} (f : α → PyData) (k : Nat) : Prop where
  dep : ∀ a, (f a).depth ≤ k
  lay : ∀ a, (f a).canLay0 = true
  eqv : ∀ a b, PyData.eqv (f a) (f b) = true ↔ a = b
theorem gd_int : Gd PyData.int 0 := ⟨fun _ => by simp [PyData.depth], fun _ => rfl, fun a b => by simp [PyData.eqv]⟩
theorem gd_bool : Gd PyData.bool 0 := ⟨fun _ => by simp [PyData.depth], fun _ => rfl, fun a b => by simp [PyData.eqv]⟩
section
variable {α β : Type} {f : α → PyData} {g : β → PyData} {k l : Nat}
theorem Gd.all (h : Gd f k) : (∀ xs : List α, PyData.depthAll (xs.map f) ≤ k) ∧ (∀ xs : List α, PyData.canLayAll0 (xs.map f) = true) ∧ ∀ xs ys : List α, PyData.eqvAll (xs.map f) (ys.map f) = true ↔ xs = ys := by
  refine ⟨fun xs => ?_, fun xs => ?_, fun xs => ?_⟩
  · induction xs with
    | nil => simp [PyData.depthAll]
    | cons a r ih =>
      have := h.dep a
      simp only [List.map_cons, PyData.depthAll]
      omega
  · induction xs with
    | nil => simp [PyData.canLayAll0]
    | cons a r ih => simp [PyData.canLayAll0, h.lay a, ih]
  · induction xs with
    | nil =>
      intro ys
      cases ys <;> simp [PyData.eqvAll]
    | cons a r ih =>
      intro ys
      cases ys with
      | nil => simp [PyData.eqvAll]
      | cons b s => simp [PyData.eqvAll, h.eqv a b, ih s]
theorem gd_tup (h : Gd f k) : Gd (fun xs : List α => PyData.tuple (xs.map f)) (k + 1) :=
  ⟨fun xs => by simp only [PyData.depth]; have := h.all.1 xs; omega, fun xs => by simp only [PyData.canLay0]; exact h.all.2.1 xs, fun xs ys => by simp only [PyData.eqv]; exact h.all.2.2 xs ys⟩
theorem gd_lst (h : Gd f k) : Gd (fun xs : List α => PyData.list (xs.map f)) (k + 1) :=
  ⟨fun xs => by simp only [PyData.depth]; have := h.all.1 xs; omega, fun xs => by simp only [PyData.canLay0]; exact h.all.2.1 xs, fun xs ys => by simp only [PyData.eqv]; exact h.all.2.2 xs ys⟩
theorem gd_pair (h : Gd f k) (i : Gd g l) : Gd (fun p : α × β => PyData.tuple [f p.1, g p.2]) (max k l + 1) :=
  ⟨fun p => by simp only [PyData.depth, PyData.depthAll]; have := h.dep p.1; have := i.dep p.2; omega, fun p => by simp [PyData.canLay0, PyData.canLayAll0, h.lay, i.lay], fun p q => by
    simp only [PyData.eqv, PyData.eqvAll, Bool.and_true, Bool.and_eq_true, h.eqv, i.eqv]
    exact Prod.ext_iff.symm⟩
theorem Gd.shaped (h : Gd f k) (hk : k ≤ 64) (a : α) : SeqAt.shaped (f a) = true := by
  unfold SeqAt.shaped
  have := h.dep a
  simp [h.lay a]
  omega
theorem Gd.eqV [DecidableEq α] (h : Gd f k) (hk : k ≤ 64) (a b : α) (st : Sto) : Sk.eqV (.dat (f a)) (.dat (f b)) st = .ok (.dat (.bool (decide (a = b)))) st := by
  have e : PyData.eqv (f a) (f b) = decide (a = b) := by
    by_cases q : a = b
    · simp [q, (h.eqv b b).mpr rfl]
    · have : ¬ PyData.eqv (f a) (f b) = true := fun z => q ((h.eqv a b).mp z)
      simp [q]
      simpa using this
  simp [Sk.eqV, oB, h.shaped hk, e]
theorem Gd.neV [DecidableEq α] (h : Gd f k) (hk : k ≤ 64) (a b : α) (st : Sto) : Sk.neV (.dat (f a)) (.dat (f b)) st = .ok (.dat (.bool (!decide (a = b)))) st := by
  have e : PyData.eqv (f a) (f b) = decide (a = b) := by
    by_cases q : a = b
    · simp [q, (h.eqv b b).mpr rfl]
    · have : ¬ PyData.eqv (f a) (f b) = true := fun z => q ((h.eqv a b).mp z)
      simp [q]
      simpa using this
  simp [Sk.neV, oB, h.shaped hk, e]
end
/-! ### tuples and lists of data -/
section
variable {α : Type} {f : α → PyData} {st : Sto}
@[simp] theorem lenV_t (xs : List PyData) : lenV [.dat (.tuple xs)] st = .ok (.dat (.int xs.length)) st := by simp [lenV, oI]
@[simp] theorem lenV_l (xs : List PyData) : lenV [.dat (.list xs)] st = .ok (.dat (.int xs.length)) st := by simp [lenV, oI]
theorem lenV_ref {n : Nat} {xs : List Va} (h : st[n]? = some (some (.lst xs))) : lenV [.ref n] st = .ok (.dat (.int xs.length)) st := by simp [lenV, seqOf_ref h, oI]
theorem atI_pos {α : Type} {xs : List α} {i : Int} {n : Nat} {a : α} (h : xs[n]? = some a) (hi : i = (n : Int)) : L2.atI xs i = some a := by
  subst hi
  have hl := (List.getElem?_eq_some_iff.mp h).1
  unfold L2.atI ixN
  rw [if_pos (by omega), if_pos (by omega)]
  simpa using h
theorem atI_neg {α : Type} {xs : List α} {i : Int} {n : Nat} {a : α} (h : xs[n]? = some a) (hi : i + xs.length = (n : Int)) (h0 : i < 0) : L2.atI xs i = some a := by
  have hl := (List.getElem?_eq_some_iff.mp h).1
  unfold L2.atI ixN
  rw [if_neg (by omega), if_pos (by omega)]
  simp [hi, h]
theorem ixV_t {xs : List α} {i : Int} {a : α} (h : L2.atI xs i = some a) : ixV (.dat (.tuple (xs.map f))) (.dat (.int i)) st = .ok (.dat (f a)) st := by
  have e : L2.atI ((xs.map f).map Va.dat) i = some (.dat (f a)) := by rw [atI_map, atI_map, h]; rfl
  simp only [ixV, seqOf_tuple, e]
theorem ixV_l {xs : List α} {i : Int} {a : α} (h : L2.atI xs i = some a) : ixV (.dat (.list (xs.map f))) (.dat (.int i)) st = .ok (.dat (f a)) st := by
  have e : L2.atI ((xs.map f).map Va.dat) i = some (.dat (f a)) := by rw [atI_map, atI_map, h]; rfl
  simp only [ixV, seqOf_list, e]
theorem ixV_r {n : Nat} {xs : List Va} {i : Int} {a : Va} (hn : st[n]? = some (some (.lst xs))) (h : L2.atI xs i = some a) : ixV (.ref n) (.dat (.int i)) st = .ok a st := by
  simp only [ixV, seqOf_ref hn, h]
theorem setV_r {n : Nat} {xs : List Va} {i : Int} {j : Nat} {a : Va} (hn : st[n]? = some (some (.lst xs))) (h : ixN xs.length i = some j) : setV (.ref n) (.dat (.int i)) a st = .ok () (st.set n (some (.lst (xs.set j a)))) := by
  simp only [setV, hn, h]
theorem ixN_pos {n : Nat} {i : Int} {j : Nat} (hi : i = (j : Int)) (h : j < n) : ixN n i = some j := by
  subst hi
  unfold ixN
  rw [if_pos (by omega), if_pos (by omega)]
  simp
@[simp] theorem itemsV_t (xs : List PyData) : itemsV (.dat (.tuple xs)) st = .ok (xs.map .dat, none) st := by simp [itemsV]
@[simp] theorem itemsV_l (xs : List PyData) : itemsV (.dat (.list xs)) st = .ok (xs.map .dat, none) st := by simp [itemsV]
theorem slV_t {xs : List α} {lo hi : Option Int} : slV (.dat (.tuple (xs.map f))) lo hi st = .ok (.dat (.tuple ((cut xs lo hi).map f))) st := by
  have e : cut ((xs.map f).map Va.dat) lo hi = ((cut xs lo hi).map f).map Va.dat := by rw [cut_map, cut_map]
  simp only [slV, seqOf_tuple, e, mkT_map, List.length_map]
  split
  · rename_i h
    unfold wholeSl at h
    simp only [Bool.and_eq_true, beq_iff_eq] at h
    have : cut xs lo hi = xs := by unfold cut; rw [h.1, h.2]; simp
    rw [this]
  · rfl
theorem slV_l {xs : List α} {lo hi : Option Int} : slV (.dat (.list (xs.map f))) lo hi st = .ok (.dat (.list ((cut xs lo hi).map f))) st := by
  have e : cut ((xs.map f).map Va.dat) lo hi = ((cut xs lo hi).map f).map Va.dat := by rw [cut_map, cut_map]
  simp only [slV, seqOf_list, e, mkL_map]
theorem cut_nat {xs : List α} {a b : Int} {m n : Nat} (ha : a = (m : Int)) (hb : b = (n : Int)) : cut xs (some a) (some b) = (xs.drop m).take (n - m) := by
  subst ha hb
  unfold cut
  rw [HT.sIx_nat, HT.sIx_nat]
  by_cases h : m ≤ xs.length
  · rw [Nat.min_eq_left h]
    by_cases h2 : n ≤ xs.length
    · rw [Nat.min_eq_left h2]
    · rw [List.take_of_length_le (by simp; omega), List.take_of_length_le (by simp; omega)]
  · rw [show min m xs.length = xs.length by omega, List.drop_length, List.drop_of_length_le (by omega)]
    simp
theorem cut_to {xs : List α} {b : Int} {n : Nat} (hb : b = (n : Int)) : cut xs none (some b) = xs.take n := by
  subst hb
  unfold cut
  rw [HT.sIx_none, HT.sIx_nat]
  simp [List.take_eq_take_iff]
theorem cut_from {xs : List α} {a : Int} {m : Nat} (ha : a = (m : Int)) : cut xs (some a) none = xs.drop m := by
  subst ha
  unfold cut
  rw [HT.sIx_none, HT.sIx_nat]
  by_cases h : m ≤ xs.length
  · rw [Nat.min_eq_left h, List.take_of_length_le (by simp)]
  · rw [Nat.min_eq_right (by omega), List.drop_length, List.drop_of_length_le (by omega)]
    simp
@[simp] theorem tupleV_l (xs : List PyData) : tupleV [.dat (.list xs)] st = .ok (.dat (.tuple xs)) st := by simp [tupleV]
end
end Sk

/-! Sk, part 31: sorted ints; insert, remove, pop(i), extend, count, index. -/
namespace Sk
open PySem PySem.Spec PyProof.Rows L2 GxR
/-! ### sorted, of a list or a tuple -/
section
variable {prog : Program} {w : World} {A : Around} {E : Value → Shared → Prop} {s : Shared}
theorem sorted_seq {l : Addr} {T : String} {o : Obj} {vs : List Value} {n : Nat} {ltv : Value → Value → Bool} {Q : Value → Shared → Prop} (hT : T = "list" ∨ T = "tuple") (ho : s.heap.get? l = some o) (hc : o.cls = .type T) (hd : o.data = .seq vs.toArray n) (O : SrtO.Swo ltv) (hz : vs.length ≤ sizeLine)
    (hS : 2 ≤ vs.length → ∀ (h₁ : Heap) (a : Addr), h₁.get? a = some (seqObj "list" vs.toArray 0) → (∀ b o, s.heap.get? b = some o → b ≠ a ∧ h₁.get? b = some o) → SrtO.SortableO prog w A.in1.in1 { s with heap := h₁ } a vs ltv)
    (h : ∀ (out : List Value) (h' : Heap) (d : Addr), SrtO.Srtd ltv out → SrtO.Stb ltv out vs → (∀ b o, s.heap.get? b = some o → h'.get? b = some o) → s.heap.get? d = none → (∃ e, h'.get? d = some (seqObj "list" out.toArray e)) → Q (.ref d) { s with heap := h' }) :
    wpAny (model prog w) A (call (.builtin "sorted") [.ref l]) Q E s := by
  refine Calls.call_function_entry kind_sorted plain_sorted entry_sorted (args_sorted1 _) ?_
  unfold Builtin.«sorted»
  refine wpAny_bind (m := checkCount "sorted" 1 1 _) (wpAny_pure ?_)
  refine wpAny_bind (wpAny_collect_seq l hT ho hc hd (fun h1 k1 => ?_) (by simpa using hz))
  refine wpAny_bind (wpAny_newList ?_ (by simpa using hz))
  have hoL : (h1.push (seqObj "list" vs.toArray 0)).get? h1.objs.size = some (seqObj "list" vs.toArray 0) := Heap.get?_push_size _ rfl
  have hn : s.heap.get? h1.objs.size = none := by
    cases e : s.heap.get? h1.objs.size with
    | none => rfl
    | some o => exact absurd (Heap.lt_size (k1 _ _ e)) (Nat.lt_irrefl _)
  have keep : ∀ b o, s.heap.get? b = some o → b ≠ h1.objs.size ∧ (h1.push (seqObj "list" vs.toArray 0)).get? b = some o := fun b o q => by
    have q1 := k1 b o q
    exact ⟨Nat.ne_of_lt (Heap.lt_size q1), Heap.get?_push_of_some _ q1⟩
  show wpAny _ _ _ _ _ { s with heap := h1.push (seqObj "list" vs.toArray 0) }
  refine wpAny_bind (wpAny_holding (wpAny_call_entry slot_list_sort ⟨_, hoL, rfl⟩ entry_list_sort (SrtO.list_sort_ord O hoL hz (fun h2 => hS h2 _ _ hoL keep) fun out hs hb => ⟨_, rfl, ?_⟩) (args_list_sort _)))
  refine wpAny_pure ⟨_, rfl, h out _ _ hs hb (fun b o q => ?_) hn (sortedHeap_at hoL)⟩
  obtain ⟨n1, q1⟩ := keep b o q
  rw [sortedHeap_old n1 (Heap.lt_size q1)]
  exact q1
end
/-! ### there is one sorted list -/
def insI (a : Int) : List Int → List Int
  | [] => [a]
  | b :: r => if a ≤ b then a :: b :: r else b :: insI a r
def sortI : List Int → List Int
  | [] => []
  | a :: r => insI a (sortI r)
theorem insI_perm (a : Int) : ∀ l, (insI a l).Perm (a :: l)
  | [] => List.Perm.refl _
  | b :: r => by
    unfold insI
    split
    · exact List.Perm.refl _
    · exact ((insI_perm a r).cons b).trans (List.Perm.swap a b r)
theorem sortI_perm : ∀ l, (sortI l).Perm l
  | [] => List.Perm.refl _
  | a :: r => (insI_perm a _).trans ((sortI_perm r).cons a)
theorem insI_sorted (a : Int) : ∀ {l : List Int}, l.Pairwise (· ≤ ·) → (insI a l).Pairwise (· ≤ ·)
  | [], _ => by simp [insI]
  | b :: r, h => by
    unfold insI
    have hb := List.pairwise_cons.mp h
    split
    · rename_i hab
      refine List.pairwise_cons.mpr ⟨fun x hx => ?_, h⟩
      rcases List.mem_cons.mp hx with e | hx
      · rw [e]; exact hab
      · exact Int.le_trans hab (hb.1 x hx)
    · rename_i hab
      refine List.pairwise_cons.mpr ⟨fun x hx => ?_, insI_sorted a hb.2⟩
      rcases List.mem_cons.mp ((insI_perm a r).mem_iff.mp hx) with e | hx
      · rw [e]; omega
      · exact hb.1 x hx
theorem sortI_sorted : ∀ l : List Int, (sortI l).Pairwise (· ≤ ·)
  | [] => List.Pairwise.nil
  | a :: r => insI_sorted a (sortI_sorted r)
theorem sorted_uniq : ∀ {l m : List Int}, l.Perm m → l.Pairwise (· ≤ ·) → m.Pairwise (· ≤ ·) → l = m
  | [], m, p, _, _ => (List.nil_perm.mp p).symm
  | a :: l, [], p, _, _ => by simp at p
  | a :: l, b :: m, p, h1, h2 => by
    have c1 := List.pairwise_cons.mp h1
    have c2 := List.pairwise_cons.mp h2
    have ab : a = b := by
      have q1 : b ∈ a :: l := p.mem_iff.mpr (by simp)
      have q2 : a ∈ b :: m := p.mem_iff.mp (by simp)
      have l1 : a ≤ b := by
        rcases List.mem_cons.mp q1 with e | e
        · omega
        · exact c1.1 b e
      have l2 : b ≤ a := by
        rcases List.mem_cons.mp q2 with e | e
        · omega
        · exact c2.1 a e
      omega
    subst ab
    rw [sorted_uniq (List.Perm.cons_inv p) c1.2 c2.2]
theorem sortI_eq {l m : List Int} (p : m.Perm l) (h : m.Pairwise (· ≤ ·)) : m = sortI l := sorted_uniq (p.trans (sortI_perm l).symm) h (sortI_sorted l)
/-! ### the rule -/
def rSortX (K : PySem.W.Frag) : List V → Hp → VK → Prop := fun vs H Q => ∃ (a : Addr) (ns : List Int), vs = [V.ref a] ∧ (SqL K H a (ns.map V.int) ∨ SqT K H a (ns.map V.int)) ∧ ∀ p, H p = none → Q (.ref p) (upd H p (.lst ((sortI ns).map V.int)))
section
variable {X : Cx} {C : Cfg} {W : WX}
theorem cr_sortX : CallR X (.builtin "sorted") (rSortX X.K) := by
  intro pins s σ H vs us Q I r h
  obtain ⟨a, ns, rfl, hs, q⟩ := h
  obtain ⟨T, o, its, n, hT, ho, hc, hd, rv, hz⟩ : ∃ (T : String) (o : Obj) (its : List Value) (n : Nat), (T = "list" ∨ T = "tuple") ∧ s.heap.get? a = some o ∧ o.cls = .type T ∧ o.data = .seq its.toArray n ∧ Vals (ns.map V.int) its ∧ (ns.map V.int).length ≤ sizeLine := by
    rcases hs with hs | hs
    · obtain ⟨its, rv, hl, hz⟩ := I.list hs
      obtain ⟨o, ho, hc, n, hd⟩ := hl.isList
      exact ⟨_, o, its, n, .inl rfl, ho, hc, hd, rv, hz⟩
    · obtain ⟨its, rv, ⟨o, ho, hc, n, hd⟩, hz⟩ := I.tuple hs
      exact ⟨_, o, its, n, .inr rfl, ho, hc, hd, rv, hz⟩
  rw [Vals.ref1 r]
  have hi := rv.ints
  refine sorted_seq hT ho hc hd SrtO.swo_int (by rw [← rv.length]; exact hz) (fun h2 h₁ a' _ _ => SrtO.ints_sortable hi h2) fun out h' d h1 h2 kp hn he => ?_
  obtain ⟨k1, k2, k3⟩ := SrtO.ints_out hi h1 h2
  obtain ⟨ep, he⟩ := he
  have hlen : ((out.map SrtO.iv).map V.int).length ≤ sizeLine := by
    rw [List.length_map, k2.length_eq]
    rw [List.length_map] at hz
    exact hz
  have hd : H d = none := I.hok.gone hn
  have e := sortI_eq k2 k3
  have q := q d hd
  rw [← e] at q
  exact ⟨.ref _, upd H d (.lst ((out.map SrtO.iv).map V.int)), I.laidN (t' := s.toks) kp hn hd ⟨hlen, out, ep, vals_of_ints k1, he⟩, rfl, q⟩
theorem call_sortX (hK : X.K = C.K := by rfl) : CallR X (.builtin "sorted") (rSortX C.K) := hK ▸ cr_sortX
def sortF (mk : List Va → Sto → Rs Va) (xs : List Va) (st : Sto) : Rs Va := match xs with
  | [x] => (match iterInts st x with
    | some ns => mk ((sortI ns).map fun i => .dat (.int i)) st
    | _ => .bad)
  | _ => .bad
theorem cs_sortF : CallS C (rSortX C.K) (sortF asF) := by
  intro M0 m H st vs xs E Q rh rs fin
  unfold sortF at fin
  split at fin
  · obtain ⟨v, rfl, rv⟩ := rs.one
    split at fin
    · rename_i ns hn
      obtain ⟨a, rfl, sq⟩ := iterInts_rel rh rv hn
      exact ⟨a, ns, rfl, sq, fun p hp => Fin.newF fin rh hp (rvs_ints _)⟩
    · exact fin.elim
  · exact fin.elim
/-! ### methods -/
def insertG (ys xs : List Va) : Option (Va × List Va) := match xs with
  | [.dat (.int i), x] => if (few ys.length && decide (0 ≤ i) && upto 1000000 i) = true then some (.dat .none, ys.take i.toNat ++ [x] ++ ys.drop i.toNat) else none
  | _ => none
abbrev rInsert : V → List V → Hp → VK → Prop := fun x vs H Q => ∃ (l : Addr) (xs : List V) (i : Int) (y : V), x = .ref l ∧ vs = [.int i, y] ∧ H l = some (.lst xs) ∧ xs.length < sizeLine ∧ 0 ≤ i ∧ i < 2 ^ 63 ∧ Q .non (upd H l (.lst (xs.take i.toNat ++ [y] ++ xs.drop i.toNat)))
theorem ms_insert : MtS C rInsert (lstM insertG) := ms_of fun M0 m H a us vs ys xs zs v Q hu ru rs hg q => by
  unfold insertG at hg
  split at hg
  · split at hg
    · rename_i hf
      cases hg
      simp only [Bool.and_eq_true, decide_eq_true_eq, upto_iff] at hf
      obtain ⟨w1, w2, rfl, r1, r2⟩ := rs.two
      exact ⟨a, us, _, w2, rfl, by rw [r1.int_inv], hu, by rw [ru.len]; exact few_lt hf.1.1, hf.1.2, by omega, q .non _ (.dat .non) (((ru.take _).append (.cons r2 .nil)).append (ru.drop _))⟩
    · cases hg
  · cases hg
def popAtG (ys xs : List Va) : Option (Va × List Va) := match xs with
  | [.dat (.int i)] => (match ixN ys.length i with
    | some k => (match ys[k]? with
      | some y => if upto 1000000 i = true then some (y, ys.eraseIdx k) else none
      | none => none)
    | none => none)
  | _ => none
theorem ms_popAt : MtS C rPopAt (lstM popAtG) := ms_of fun M0 m H a us vs ys xs zs v Q hu ru rs hg q => by
  unfold popAtG at hg
  split at hg
  · rename_i i
    split at hg
    · rename_i k hk
      split at hg
      · rename_i y hy
        split at hg
        · rename_i hf
          cases hg
          simp only [Bool.and_eq_true, decide_eq_true_eq, upto_iff] at hf
          obtain ⟨w1, rfl, r1⟩ := rs.one
          obtain ⟨w, e1, r2⟩ := ru.get hy
          exact ⟨a, us, i, k, w, rfl, by rw [r1.int_inv], hu, by omega, by omega, by rw [ru.len]; exact (ixN_seq hk).1, e1, q w _ r2 (ru.eraseIdx k)⟩
        · cases hg
      · cases hg
    · cases hg
  · cases hg
def firstAt (k : Int) : List Int → Option Nat
  | [] => none
  | n :: r => if n = k then some 0 else (firstAt k r).map (· + 1)
theorem firstAt_spec {k : Int} : ∀ {ns : List Int} {j : Nat}, firstAt k ns = some j → ns[j]? = some k ∧ ∀ m, m < j → ns[m]? ≠ some k
  | [], _, h => by cases h
  | n :: r, j, h => by
    unfold firstAt at h
    split at h
    · rename_i e
      cases h
      exact ⟨by simp [e], fun m hm => by omega⟩
    · rename_i e
      obtain ⟨i, h1, h2⟩ := Option.map_eq_some_iff.mp h
      subst h2
      obtain ⟨a, b⟩ := firstAt_spec h1
      refine ⟨by simpa using a, fun m hm => ?_⟩
      cases m with
      | zero => simpa using e
      | succ m => simpa using b m (by omega)
def removeG (ys xs : List Va) : Option (Va × List Va) := match intsOf ys, xs with
  | some ns, [.dat (.int k)] => (firstAt k ns).map fun j => (.dat .none, (ns.eraseIdx j).map fun i => .dat (.int i))
  | _, _ => none
theorem ms_remove : MtS C rRemI (lstM removeG) := ms_of fun M0 m H a us vs ys xs zs v Q hu ru rs hg q => by
  unfold removeG at hg
  split at hg
  · rename_i ns k hn
    obtain ⟨j, h1, h2⟩ := Option.map_eq_some_iff.mp hg
    cases h2
    obtain ⟨w1, rfl, r1⟩ := rs.one
    have e := ru.ints hn
    obtain ⟨s1, s2⟩ := firstAt_spec h1
    exact ⟨a, ns, k, j, rfl, by rw [r1.int_inv], by rw [← e]; exact hu, s1, s2, q .non _ (.dat .non) (rvs_ints _)⟩
  · cases hg
def extendG (ys xs : List Va) : Option (Va × List Va) := match xs with
  | [.dat (.list ds)] => if (few (ys.length + ds.length)) = true then some (.dat .none, ys ++ ds.map .dat) else none
  | _ => none
theorem ms_extend : MtS C rExtend (lstM extendG) := ms_of fun M0 m H a us vs ys xs zs v Q hu ru rs hg q => by
  unfold extendG at hg
  split at hg
  · split at hg
    · rename_i hf
      cases hg
      obtain ⟨w1, rfl, r1⟩ := rs.one
      cases r1 with
      | dat rd =>
        cases rd with
        | lst h n r =>
          exact ⟨a, _, us, _, rfl, rfl, hu, h, by rw [ru.len, r.len]; exact few_le hf, q .non _ (.dat .non) (ru.append r.rvs)⟩
    · cases hg
  · cases hg
def countV (x : Va) (xs : List Va) (st : Sto) : Rs Va := match xs, seqOf st x with
  | [.dat (.int k)], some (false, ys) => (match intsOf ys with
    | some ns => oI (ns.count k : Nat) st
    | none => .bad)
  | _, _ => .bad
theorem mt_countX (hK : X.K = C.K := by rfl) : MtR X "list.count" (rCntI C.K) := hK ▸ mt_lcount
theorem ms_count : MtS C (rCntI C.K) countV := by
  intro M0 m H st v vs x xs E Q rh rx rs fin
  unfold countV at fin
  split at fin
  · rename_i k ys hs
    split at fin
    · rename_i ns hn
      obtain ⟨a, us, rfl, ru, sq⟩ := seqOf_rel rh rx hs
      obtain ⟨w1, rfl, r1⟩ := rs.one
      have e := ru.ints hn
      subst e
      exact ⟨a, ns, k, rfl, by rw [r1.int_inv], sq, FinG.out (R := relV C M0) fin rh (.dat (.int _))⟩
    · exact fin.elim
  · exact fin.elim
def firstD (d : PyData) : List PyData → Option Nat
  | [] => none
  | n :: r => if PyData.eqv n d = true then some 0 else (firstD d r).map (· + 1)
theorem firstD_spec {k : PyData} : ∀ {ns : List PyData} {j : Nat}, firstD k ns = some j → (∃ z, ns[j]? = some z ∧ PyData.eqv z k = true) ∧ ∀ (m : Nat) (z' : PyData), m < j → ns[m]? = some z' → PyData.eqv z' k = false
  | [], _, h => by cases h
  | n :: r, j, h => by
    unfold firstD at h
    split at h
    · rename_i e
      cases h
      exact ⟨⟨n, rfl, e⟩, fun m _ hm => by omega⟩
    · rename_i e
      obtain ⟨i, h1, h2⟩ := Option.map_eq_some_iff.mp h
      subst h2
      obtain ⟨⟨z, a1, a2⟩, b⟩ := firstD_spec h1
      refine ⟨⟨z, by simpa using a1, a2⟩, fun m z' hm hz => ?_⟩
      cases m with
      | zero =>
        have : n = z' := by simpa using hz
        rw [← this]
        simpa using e
      | succ m => exact b m z' (by omega) (by simpa using hz)
def indexV (x : Va) (xs : List Va) (st : Sto) : Rs Va := match xs with
  | [y] => (match rdD 8 st x, rdD 8 st y with
    | some (.list ds), some d => if (SeqAt.shaped (.list ds) && SeqAt.shaped d) = true then (match firstD d ds with
      | some j => oI (j : Nat) st
      | none => .bad) else .bad
    | _, _ => .bad)
  | _ => .bad
theorem mt_indexX (hu : X.A.units + 65 < cLine) (hK : X.K = C.K := by rfl) : MtR X "list.index" (rIndexD C.K) := hK ▸ mt_indexD hu
theorem ms_index : MtS C (rIndexD C.K) indexV := by
  intro M0 m H st v vs x xs E Q rh rx rs fin
  unfold indexV at fin
  split at fin
  · obtain ⟨w1, rfl, r1⟩ := rs.one
    split at fin
    · rename_i ds d h1 h2
      obtain ⟨hk, fin⟩ := Fin.ifGo fin
      obtain ⟨a, b⟩ := Bool.and_eq_true_iff.mp hk
      split at fin
      · rename_i j hj
        obtain ⟨⟨z, e1, e2⟩, e3⟩ := firstD_spec hj
        have dp := rdD_dp rh 8 v x _ rx h1
        obtain ⟨p, rfl⟩ : ∃ p, v = V.ref p := by cases dp; exact ⟨_, rfl⟩
        exact ⟨p, w1, d, ds, j, z, rfl, rfl, dp, rdD_dp rh 8 w1 _ d r1 h2, a, b, e1, e2, e3, FinG.out (R := relV C M0) fin rh (.dat (.int _))⟩
      · exact fin.elim
    · exact fin.elim
  · exact fin.elim
end
end Sk

/-! Sk, part 32: constants of the module that hold tuples; defs with defaults. -/
namespace Sk
open PySem PySem.Spec PyProof.Rows L2 GxR
def dVal (x : Va) : CE := fun _ st => .ok x st
@[simp] theorem eVal {ev : Ev} {st : Sto} (x : Va) : dVal x ev st = .ok x st := rfl
/-- at any state the value v is x -/
def KV (K : PySem.W.Frag) (v : V) (x : Va) : Prop := ∀ (C : Cfg) (H : Hp) (M : Addr → Prop) (m : List Addr), C.K = K → RV C H M m v x
def KVs (K : PySem.W.Frag) (v : List V) (x : List Va) : Prop := ∀ (C : Cfg) (H : Hp) (M : Addr → Prop) (m : List Addr), C.K = K → RVs C H M m v x
section
variable {K : PySem.W.Frag}
theorem kv_int (i : Int) : KV K (.int i) (.dat (.int i)) := fun _ _ _ _ _ => .dat (.int i)
theorem kv_str (i : Str) : KV K (.str i) (.dat (.str i)) := fun _ _ _ _ _ => .dat (.str i)
theorem kvs_nil : KVs K [] [] := fun _ _ _ _ _ => .nil
theorem kvs_cons {v : V} {x : Va} {vs : List V} {xs : List Va} (h : KV K v x) (r : KVs K vs xs) : KVs K (v :: vs) (x :: xs) := fun C H M m e => .cons (h C H M m e) (r C H M m e)
theorem kv_tup {a : Addr} {g : List Value} {ol : Option Addr} {ga : Array Value} {nn : Nat} {os : Array (Option Value)} {vs : List V} {xs : List Va} (h : K.lookup a = some ⟨.type "tuple", ol, .seq ga nn, os⟩) (hg : ga.toList = g) (hv : Vals vs g) (hl : g.length ≤ 1000) (r : KVs K vs xs) : KV K (.ref a) (.seq true xs) := fun C H M m e => by
  refine .tup (.inr ⟨_, ga, nn, by rw [e]; exact h, rfl, rfl, ?_, by rw [hg]; exact hv⟩) (r C H M m e)
  rw [← Array.length_toList, hg]
  exact Nat.le_trans hl (by rw [sizeLine_eq]; decide)
end
section
variable {X : Cx} {C : Cfg} {W : WX} {pos : Pos}
theorem fe_gva {x : Str} {a : Addr} {y : Va} (hg : Gl X x) (hm : X.mg x = some (.ref a)) (hq : KV C.K (.ref a) y) (hd : (x == ("__debug__" : Str)) = false := by decide) : PE X (.Name x pos) (tE C W (dVal y)) :=
  PE.imp (pe_glob (v := .ref a) hg hm rfl hd) fun s H Q ⟨M0, m, ev, st, rh, re, fin⟩ => FinG.out fin rh (hq C H (Mx M0 m) m rfl)
end
section
variable {P : Program} {w : World} {K : PySem.W.Frag} {mg : Str → Option Value} {base : Heap}
/-- a def with defaults -/
theorem fn_okD {C : Cfg} {x qual : Str} {params : Arguments} {body : List Stmt} {scope : Scope} {dvs : List V} {kws : List (Str × V)} {f : Addr} {fd : FuncData} {N ps : List Str} {k n p : Nat} {c : CS} (F : FunD K x qual params body scope dvs kws f fd) (S : FnScope N ps scope) (hn : N.length = n) (hp : ps.length = p)
    (hbody : ∀ (cdv : Value) (A : Around) (outer : List Env) (s : Shared) (H : Hp) (E : XK), fd.code = cdv → Room k (A.deeper (envOfC qual scope s.heap.objs.size f cdv)) →
      PSs (cxOf (L2.CX P w) P w K mg base N qual scope f cdv A outer s H E) body (tS C (fun c d _ H => E c d H) c)) : FnOk P w K mg base (L2.CX P w) (k + 1) f fd ps (spF C p (mkFn n c)) := by
  subst hn
  subst hp
  obtain ⟨oc, od, dV, kV, doc, pm, an, cdv, ct, osl, rfl, lk, hcd, _, _⟩ := F.ex
  refine fn_of lk hcd S (fun vs H Q E h => h.1) fun A outer s H vs Q E hr h => ⟨_, hbody cdv A outer s H E rfl hr, ?_⟩
  obtain ⟨_, M0, m, args, st, rh, rv, fin⟩ := h
  refine ⟨M0, m, mkEv N.length args, st, rh, RE.start rv, ?_⟩
  unfold mkFn at fin
  cases e : c (mkEv N.length args) st with
  | bad => rw [e] at fin; exact fin.elim
  | err x st1 =>
    rw [e] at fin
    exact fun s c d m' H' g rh q => fin c d m' H' g rh q
  | ok f st1 =>
    rw [e] at fin
    cases f with
    | nx ev => exact fun s m' H' g rh re => fin .non m' H' g rh (.dat .non)
    | rt x => exact fun v m' H' g rh re => fin v m' H' g rh re
    | bk ev => exact fin.elim
    | ct ev => exact fin.elim
end
end Sk

/-! Sk, part 33: more plain words: dice, calls, generator expressions. -/
namespace Sk
open PySem PySem.Spec PyProof.Rows L2 GxR
def fuel : Nat := 100000
/-- a while whose test changes nothing -/
theorem whileS_p {c : CB} {b : CS} (I : Ev → Sto → Nat → Prop) (D : Ev → Sto → Prop)
    (step : ∀ ev st n, I ev st n → (c ev st = .ok false st ∧ D ev st) ∨ (c ev st = .ok true st ∧ ∃ ev' st2 n', b ev st = .ok (.nx ev') st2 ∧ n' < n ∧ I ev' st2 n')) (f n : Nat) (ev : Ev) (st : Sto) (h : n < f) (hi : I ev st n) : ∃ ev' st', whileS c b f ev st = .ok (.nx ev') st' ∧ D ev' st' :=
  whileS_inv I D (fun ev st n hi => by
    rcases step ev st n hi with ⟨a, d⟩ | ⟨a, ev', st2, n', e, l, i⟩
    · exact .inl ⟨st, a, d⟩
    · exact .inr ⟨ev', st, st2, n', a, .inl e, l, i⟩) f n ev st h hi
/-! ### step by step -/
def Goes (c : CS) (ev : Ev) (st : Sto) (P : Ev → Sto → Prop) : Prop := ∃ ev' st', c ev st = .ok (.nx ev') st' ∧ P ev' st'
section
variable {p q c : CS} {ev ev1 : Ev} {st st1 : Sto} {P P1 : Ev → Sto → Prop}
theorem Goes.seq (h : p ev st = .ok (.nx ev1) st1) (h2 : Goes q ev1 st1 P) : Goes (dSeq p q) ev st P := by
  obtain ⟨a, b, e, z⟩ := h2
  exact ⟨a, b, seq_nx h e, z⟩
theorem Goes.seqG (h : Goes p ev st P1) (h2 : ∀ ev1 st1, P1 ev1 st1 → Goes q ev1 st1 P) : Goes (dSeq p q) ev st P := by
  obtain ⟨a, b, e, z⟩ := h
  exact .seq e (h2 a b z)
theorem Goes.keep (h : c ev st = .ok (.nx ev) st) (hp : P ev st) : Goes c ev st P := ⟨ev, st, h, hp⟩
theorem Goes.of (h : c ev st = .ok (.nx ev1) st1) (hp : P ev1 st1) : Goes c ev st P := ⟨ev1, st1, h, hp⟩
end
/-! ### dice -/
def Dic (D : Nat) (st : Sto) : Prop := D ≤ st.length ∧ ∀ j, j < D → ∃ a b c, st[j]? = some (some (diceO a b c))
/-- the store grew; what stood behind the dice stands -/
def Kp (D : Nat) (st st' : Sto) : Prop := st.length ≤ st'.length ∧ ∀ j, D ≤ j → j < st.length → st'[j]? = st[j]?
theorem Kp.refl (D : Nat) (st : Sto) : Kp D st st := ⟨Nat.le_refl _, fun _ _ _ => rfl⟩
theorem Kp.trans {D : Nat} {s1 s2 s3 : Sto} (a : Kp D s1 s2) (b : Kp D s2 s3) : Kp D s1 s3 := ⟨Nat.le_trans a.1 b.1, fun j h1 h2 => (b.2 j h1 (Nat.lt_of_lt_of_le h2 a.1)).trans (a.2 j h1 h2)⟩
theorem Kp.push (D : Nat) (st : Sto) (o : Option Ob) : Kp D st (st ++ [o]) := ⟨by simp, fun j _ h => List.getElem?_append_left h⟩
theorem Dic.push {D : Nat} {st : Sto} (h : Dic D st) (o : Option Ob) : Dic D (st ++ [o]) := ⟨by have := h.1; simp; omega, fun j hj => by
  rw [List.getElem?_append_left (Nat.lt_of_lt_of_le hj h.1)]
  exact h.2 j hj⟩
theorem Dic.set {D : Nat} {st : Sto} (h : Dic D st) {n : Nat} (hn : D ≤ n) (o : Option Ob) : Dic D (st.set n o) := ⟨by simpa using h.1, fun j hj => by
  rw [List.getElem?_set_ne (by omega)]
  exact h.2 j hj⟩
theorem roll_dic {D n : Nat} {st : Sto} {m : Int} (h : Dic D st) (hn : n < D) (h0 : 0 < m) (h1 : m ≤ 1000000000) :
    ∃ r st', 0 ≤ r ∧ r < m ∧ callO F__law_roll 2 [.ref n, .dat (.int m)] st = .ok (.dat (.int r)) st' ∧ Dic D st' ∧ Kp D st st' := by
  obtain ⟨a, b, c, e⟩ := h.2 n hn
  obtain ⟨r, a', b', c', p1, p2, e1⟩ := roll_eq (st := st) (n := n) e h0 h1
  refine ⟨r, _, p1, p2, by simpa [callO] using e1, ⟨by simpa using h.1, fun j hj => ?_⟩, by simp, fun j hj _ => ?_⟩
  · by_cases q : j = n
    · subst q
      exact ⟨a', b', c', List.getElem?_set_self (Nat.lt_of_lt_of_le hj h.1)⟩
    · rw [List.getElem?_set_ne (by omega)]
      exact h.2 j hj
  · rw [List.getElem?_set_ne (by omega)]
/-- the law's loop over the rounds -/
theorem law_for {N most : Nat} {body : CS} {ns : List Int} {ev : Ev} (hm : 1 ≤ most) (hm2 : most ≤ 10000000) (hN : 2 ≤ N) (hev : ev.length = N) (h0 : ev[0]? = some (some (scriptV ns)))
    (hb : ∀ (D n : Nat) (ev : Ev) (st : Sto), Dic D st → n < D → ev.length = N → ev[1]? = some (some (.ref n)) → ∃ ev' st', (body ev st = .ok (.nx ev') st' ∨ body ev st = .ok (.ct ev') st') ∧ ev'.length = N ∧ Dic D st') :
    ∃ ev' st' D, dFor (dIter (dCallO F__law_rounds 2 (dCons (dVar 0) (dCons (dC (.int most)) dNil)))) (gN 1) body ev [] = .ok (.nx ev') st' ∧ ev'.length = N ∧ Dic D st' := by
  obtain ⟨D, hD, d1, d2, eR⟩ := rounds_eq ns hm hm2
  have hdic : Dic D.length D := ⟨Nat.le_refl _, fun j hj => by
    obtain ⟨a, b, c, e⟩ := hD D[j] (List.getElem_mem hj)
    exact ⟨a, b, c, by rw [List.getElem?_eq_getElem hj, e]⟩⟩
  have hi : ∀ xs : List Nat, (∀ x ∈ xs, x < D.length) → ∃ ev' st', forS none (dTurn (gN 1) body) (xs.map Va.ref) ev D = .ok (.nx ev') st' ∧ ev'.length = N ∧ Dic D.length st' := by
    intro xs hx
    obtain ⟨ev', st', e, h1, h2⟩ := forS_inv (b := dTurn (gN 1) body) (h := Va.ref) (fun _ ev st => ev.length = N ∧ Dic D.length st) (xs := xs) (k := 0) (ev := ev) (st := D) ⟨hev, hdic⟩ fun i a ev st ha hI => by
      obtain ⟨l1, l2⟩ := hI
      obtain ⟨ev', st', e, h1, h2⟩ := hb D.length a (ev.set 1 (some (.ref a))) st l2 (hx a (List.mem_of_getElem? ha)) (by simpa using l1) (by rw [List.getElem?_set_self (by omega)])
      exact ⟨ev', st', by simpa [dTurn] using e, h1, h2⟩
    exact ⟨ev', st', e, h1, h2⟩
  obtain ⟨ev', st', e, h1, h2⟩ := hi (List.range D.length) (by simp)
  refine ⟨ev', st', D.length, ?_, h1, h2⟩
  have e2 : callO F__law_rounds 2 [scriptV ns, .dat (.int most)] [] = .ok (.seq false ((List.range D.length).map .ref)) D := by simpa [callO] using eR
  simp only [eFor, eIter, eCallO, eCons, eVar, h0, Rs.bind_ok, eC, eNil, e2, itemsV, seqOf_seq, lockOf_seq]
  exact e
/-- a whole law: the rounds, then the end -/
theorem law_all {N most : Nat} {body fin : CS} {ns : List Int} (hm : 1 ≤ most) (hm2 : most ≤ 10000000) (hN : 2 ≤ N)
    (hb : ∀ (D n : Nat) (ev : Ev) (st : Sto), Dic D st → n < D → ev.length = N → ev[1]? = some (some (.ref n)) → Goes body ev st fun ev' st' => ev'.length = N ∧ Dic D st')
    (hf : ∀ (ev : Ev) (st : Sto), ev.length = N → ∃ st', fin ev st = .ok (.rt (.dat (.bool true))) st') :
    ∃ st, mkFn N (dSeq (dFor (dIter (dCallO F__law_rounds 2 (dCons (dVar 0) (dCons (dC (.int most)) dNil)))) (gN 1) body) fin) [scriptV ns] [] = .ok (.dat (.bool true)) st := by
  obtain ⟨ev', st', D, e, l, _⟩ := law_for (N := N) (most := most) (body := body) (ns := ns) (ev := mkEv N [scriptV ns]) hm hm2 hN (by simp [mkEv]; omega) (by simp [mkEv]) fun D n ev st hd hn hlen h1 => by
    obtain ⟨a, b, e, z1, z2⟩ := hb D n ev st hd hn hlen h1
    exact ⟨a, b, .inl e, z1, z2⟩
  obtain ⟨s2, e2⟩ := hf ev' st' l
  exact ⟨s2, by simp only [mkFn, seq_nx e e2, Rs.bind_ok, asRet]⟩
/-! ### calls apart -/
theorem callP_ok {F : Fn} {n : Nat} {xs ys : List Va} {d : PyData} {st s2 : Sto} (hn : xs.length = n) (ho : mapO (outV 8 st) xs = some ys) (hF : F ys [] = .ok (.dat d) s2) (hp : (pureVs xs || flatD d) = true) : callP F n xs st = .ok (.dat d) st := by
  have : flatV (.dat d) = flatD d := by simp [flatV]
  simp [callP, hn, ho, afterP, hF, this]
  intro h
  simpa [h] using hp
theorem callP_err {F : Fn} {n : Nat} {xs ys : List Va} {e : Nat} {st s2 : Sto} (hn : xs.length = n) (ho : mapO (outV 8 st) xs = some ys) (hF : F ys [] = .err ⟨e, none⟩ s2) : callP F n xs st = .err ⟨e, none⟩ st := by
  simp [callP, hn, ho, afterP, hF, flatE]
theorem callP_e1 {F : Fn} {a : PyData} {e : Nat} {s2 st : Sto} (h : F [.dat a] [] = .err ⟨e, none⟩ s2) : callP F 1 [.dat a] st = .err ⟨e, none⟩ st := by simp [callP, mapO, pureVs, pureV, afterP, h]
theorem callP_e2 {F : Fn} {a b : PyData} {e : Nat} {s2 st : Sto} (h : F [.dat a, .dat b] [] = .err ⟨e, none⟩ s2) : callP F 2 [.dat a, .dat b] st = .err ⟨e, none⟩ st := by simp [callP, mapO, pureVs, pureV, afterP, h]
theorem callP_e3 {F : Fn} {a b c : PyData} {e : Nat} {s2 st : Sto} (h : F [.dat a, .dat b, .dat c] [] = .err ⟨e, none⟩ s2) : callP F 3 [.dat a, .dat b, .dat c] st = .err ⟨e, none⟩ st := by simp [callP, mapO, pureVs, pureV, afterP, h]
theorem mapO_dats {k : Nat} {st : Sto} : ∀ ds : List PyData, mapO (outV k st) (ds.map .dat) = some (ds.map .dat)
  | [] => rfl
  | d :: r => by simp [mapO, mapO_dats r]
theorem outV_ref {k n : Nat} {st : Sto} {ds : List PyData} (h : st[n]? = some (some (.lst (ds.map .dat)))) : outV (k + 1) st (.ref n) = some (.dat (.list ds)) := by
  simp only [outV, h, mapO_dats, Option.map_some, mkL_map]
theorem pure_dats : ∀ ds : List PyData, pureVs (ds.map .dat) = true
  | [] => rfl
  | d :: r => by simp [pureVs, pureV, pure_dats r]
theorem tupleV_ref {α : Type} {f : α → PyData} {xs : List α} {st : Sto} {n : Nat} (h : st[n]? = some (some (.lst (xs.map fun a => .dat (f a))))) : tupleV [.ref n] st = .ok (.dat (.tuple (xs.map f))) st := by
  have e : (xs.map fun a => Va.dat (f a)) = (xs.map f).map .dat := by simp
  simp only [tupleV, seqOf_ref h, e, mkT_map]
/-! ### lists of the store -/
section
variable {st : Sto} {n : Nat} {ys : List Va}
theorem isLst_at (h : st[n]? = some (some (.lst ys))) : isLst st (.ref n) = true := by simp [isLst, seqOf_ref h]
theorem append_at (h : st[n]? = some (some (.lst ys))) (hf : ys.length ≤ 10000000) (x : Va) : lstM appendG (.ref n) [x] st = .ok (.dat .none) (st.set n (some (.lst (ys ++ [x])))) := by
  simp [lstM, h, appendG, few_lit hf]
theorem pop_at {y : Va} (h : st[n]? = some (some (.lst (ys ++ [y])))) : lstM popG (.ref n) [] st = .ok y (st.set n (some (.lst ys))) := by
  simp [lstM, h, popG]
end
theorem mapO_rd {α : Type} {f : α → PyData} {k : Nat} {st : Sto} : ∀ xs : List α, mapO (rdD k st) (xs.map fun a => .dat (f a)) = some (xs.map f)
  | [] => rfl
  | a :: r => by simp [mapO, mapO_rd r]
theorem rdD_ref {α : Type} {f : α → PyData} {xs : List α} {k n : Nat} {st : Sto} (h : st[n]? = some (some (.lst (xs.map fun a => .dat (f a))))) : rdD (k + 1) st (.ref n) = some (.list (xs.map f)) := by
  simp only [rdD, h, mapO_rd, Option.map_some]
theorem eqV_refs {α : Type} [DecidableEq α] {f : α → PyData} {k : Nat} (g : Gd f k) (hk : k ≤ 63) {xs ys : List α} {n : Nat} {st : Sto} (h : st[n]? = some (some (.lst (xs.map fun a => .dat (f a))))) : eqV (.ref n) (.dat (.list (ys.map f))) st = .ok (.dat (.bool (decide (xs = ys)))) st := by
  have := (gd_lst g).eqV (by omega) xs ys st
  simp only [eqV, rdD_dat, rdD_ref h] at this ⊢
  exact this
theorem neV_refs {α : Type} [DecidableEq α] {f : α → PyData} {k : Nat} (g : Gd f k) (hk : k ≤ 63) {xs ys : List α} {n : Nat} {st : Sto} (h : st[n]? = some (some (.lst (xs.map fun a => .dat (f a))))) : neV (.ref n) (.dat (.list (ys.map f))) st = .ok (.dat (.bool (!decide (xs = ys)))) st := by
  have := (gd_lst g).neV (by omega) xs ys st
  simp only [neV, rdD_dat, rdD_ref h] at this ⊢
  exact this
/-! ### generator expressions -/
section
variable {f : Va → Ev → Sto → Rs Va} {ev : Ev} {st : Sto}
theorem genL_all {α : Type} {h : α → Va} {p : α → Bool} : ∀ {xs : List α}, (∀ a ∈ xs, f (h a) ev st = .ok (.dat (.bool (p a))) st) → genL none f eatAll (xs.map h) (.dat (.bool true)) ev st = .ok (.dat (.bool (xs.all p))) st
  | [], _ => by simp [genL]
  | a :: r, hf => by
    have e1 := hf a (by simp)
    have e2 := genL_all (xs := r) fun b hb => hf b (List.mem_cons_of_mem _ hb)
    simp only [List.map_cons, genL, lkOk_none, if_true, e1, Rs.bind_ok]
    cases hp : p a <;> simp [eatAll, hp, e2]
theorem genL_any {α : Type} {h : α → Va} {p : α → Bool} : ∀ {xs : List α}, (∀ a ∈ xs, f (h a) ev st = .ok (.dat (.bool (p a))) st) → genL none f eatAny (xs.map h) (.dat (.bool false)) ev st = .ok (.dat (.bool (xs.any p))) st
  | [], _ => by simp [genL]
  | a :: r, hf => by
    have e1 := hf a (by simp)
    have e2 := genL_any (xs := r) fun b hb => hf b (List.mem_cons_of_mem _ hb)
    simp only [List.map_cons, genL, lkOk_none, if_true, e1, Rs.bind_ok]
    cases hp : p a <;> simp [eatAny, hp, e2]
/-- a sum of at most a thousand million things, none above a thousand million million -/
theorem genL_sum {α : Type} {h : α → Va} {g : α → Int} {B : Int} (hB : 0 ≤ B) : ∀ {xs : List α} {a0 : Int}, (∀ a ∈ xs, f (h a) ev st = .ok (.dat (.int (g a))) st) → (∀ a ∈ xs, -B ≤ g a ∧ g a ≤ B) → (a0 - B * xs.length ≥ -1000000000000000000 ∧ a0 + B * xs.length ≤ 1000000000000000000) →
    genL none f eatSum (xs.map h) (.dat (.int a0)) ev st = .ok (.dat (.int (a0 + (xs.map g).sum))) st
  | [], a0, _, _, _ => by simp [genL]
  | a :: r, a0, hf, hg, hl => by
    have e1 := hf a (by simp)
    obtain ⟨g1, g2⟩ := hg a (by simp)
    have hlen : B * ((a :: r).length : Int) = B * r.length + B := by
      rw [List.length_cons]; push_cast; rw [Int.mul_add, Int.mul_one]
    rw [hlen] at hl
    have hnn : 0 ≤ B * (r.length : Int) := Int.mul_nonneg hB (by omega)
    have e2 := genL_sum hB (xs := r) (a0 := a0 + g a) (fun b hb => hf b (List.mem_cons_of_mem _ hb)) (fun b hb => hg b (List.mem_cons_of_mem _ hb)) (by omega)
    have l1 : long (g a) = true := upto_of (n := 9000000000000000000) (by omega) (by omega)
    have l2 : long (a0 + g a) = true := upto_of (n := 9000000000000000000) (by omega) (by omega)
    simp only [List.map_cons, genL, lkOk_none, if_true, e1, Rs.bind_ok, eatSum, l1, l2, Bool.and_self, e2, List.sum_cons]
    rw [Int.add_assoc]
end
/-! ### ranges -/
theorem rangeV_1 {n : Nat} {st : Sto} (h : n ≤ 1000000) : rangeV [.dat (.int (n : Int))] st = .ok ((List.range n).map fun i : Nat => Va.dat (.int (i : Int)), none) st := by
  have : Sk.inR (n : Int) = true := upto_of (n := 4000000000000000000) (by omega) (by omega)
  simp [rangeV, this, rangeL]
theorem rangeV_1i {n : Int} {st : Sto} (h : n ≤ 1000000) (h2 : -1000000 ≤ n) : rangeV [.dat (.int n)] st = .ok ((List.range n.toNat).map fun i : Nat => Va.dat (.int (i : Int)), none) st := by
  have : Sk.inR n = true := upto_of (n := 4000000000000000000) (by omega) (by omega)
  simp [rangeV, this, rangeL]
theorem rangeV_2 {a b : Int} {st : Sto} (h1 : -1000000 ≤ a) (h2 : a ≤ 1000000) (h3 : -1000000 ≤ b) (h4 : b ≤ 1000000) : rangeV [.dat (.int a), .dat (.int b)] st = .ok ((List.range (b - a).toNat).map fun i : Nat => Va.dat (.int (a + (i : Int))), none) st := by
  have e1 : Sk.inR a = true := upto_of (n := 4000000000000000000) (by omega) (by omega)
  have e2 : Sk.inR b = true := upto_of (n := 4000000000000000000) (by omega) (by omega)
  simp [rangeV, e1, e2, rangeL]
theorem callO_eq {F : Fn} {n : Nat} {xs : List Va} {st : Sto} (h : xs.length = n) : callO F n xs st = F xs st := by simp [callO, h]
theorem mkF_eq {k : Nat} {c : CS} {args : List Va} {st : Sto} : mkFn k c args st = (c (mkEv k args) st).bind asRet := rfl
/-! ### sums, bounds, sorted of ints -/
section
variable {xs : List Int} (st : Sto)
theorem iterInts_t : iterInts st (.dat (.tuple (xs.map .int))) = some xs := by
  simp only [iterInts, seqOf_tuple, List.map_map, Option.bind_some]
  exact intsOf_map xs
theorem iterInts_l : iterInts st (.dat (.list (xs.map .int))) = some xs := by
  simp only [iterInts, seqOf_list, List.map_map, Option.bind_some]
  exact intsOf_map xs
theorem maxF_t (h : xs ≠ []) : maxF [.dat (.tuple (xs.map .int))] st = .ok (.dat (.int (mostI xs))) st := by
  cases xs with
  | nil => exact absurd rfl h
  | cons a r => simp only [maxF, iterInts_t]; rfl
theorem maxF_l (h : xs ≠ []) : maxF [.dat (.list (xs.map .int))] st = .ok (.dat (.int (mostI xs))) st := by
  cases xs with
  | nil => exact absurd rfl h
  | cons a r => simp only [maxF, iterInts_l]; rfl
theorem minF_t (h : xs ≠ []) : minF [.dat (.tuple (xs.map .int))] st = .ok (.dat (.int (leastI xs))) st := by
  cases xs with
  | nil => exact absurd rfl h
  | cons a r => simp only [minF, iterInts_t]; rfl
theorem minF_l (h : xs ≠ []) : minF [.dat (.list (xs.map .int))] st = .ok (.dat (.int (leastI xs))) st := by
  cases xs with
  | nil => exact absurd rfl h
  | cons a r => simp only [minF, iterInts_l]; rfl
theorem sumF_t : sumF [.dat (.tuple (xs.map .int))] st = .ok (.dat (.int xs.sum)) st := by
  simp only [sumF, iterInts_t]; rfl
theorem sumF_l : sumF [.dat (.list (xs.map .int))] st = .ok (.dat (.int xs.sum)) st := by
  simp only [sumF, iterInts_l]; rfl
theorem sortF_t : sortF asF [.dat (.tuple (xs.map .int))] st = .ok (.dat (.list ((sortI xs).map .int))) st := by
  simp only [sortF, iterInts_t, asF]
  rw [mkL_fun]
theorem sortF_l : sortF asF [.dat (.list (xs.map .int))] st = .ok (.dat (.list ((sortI xs).map .int))) st := by
  simp only [sortF, iterInts_l, asF]
  rw [mkL_fun]
end
@[simp] theorem listF_t (xs : List PyData) (st : Sto) : listF [.dat (.tuple xs)] st = .ok (.dat (.list xs)) st := by simp [listF]
@[simp] theorem listF_l (xs : List PyData) (st : Sto) : listF [.dat (.list xs)] st = .ok (.dat (.list xs)) st := by simp [listF]
theorem addV_t {xs ys : List PyData} (h : xs.length + ys.length ≤ 10000000) (st : Sto) : addV (.dat (.tuple xs)) (.dat (.tuple ys)) st = .ok (.dat (.tuple (xs ++ ys))) st := by simp [addV, few_lit h]
theorem addV_l {xs ys : List PyData} (h : xs.length + ys.length ≤ 10000000) (st : Sto) : addV (.dat (.list xs)) (.dat (.list ys)) st = .ok (.dat (.list (xs ++ ys))) st := by simp [addV, few_lit h]
/-! ### enumerate -/
theorem enumL_map {α : Type} (f : α → PyData) : ∀ (k : Nat) (xs : List α), enumL k (xs.map fun a => .dat (f a)) = ((List.range xs.length).zip xs).map fun p => .dat (.tuple [.int ((k + p.1 : Nat) : Int), f p.2])
  | k, [] => rfl
  | k, a :: r => by
    simp only [List.map_cons, enumL, enumL_map f (k + 1) r, List.length_cons, List.range_succ_eq_map, List.zip_cons_cons, List.zip_map_left, List.map_map]
    have e : mkT [Va.dat (.int (k : Int)), .dat (f a)] = .dat (.tuple [.int (k : Int), f a]) := rfl
    rw [e]
    simp [Function.comp_def, Nat.add_assoc, Nat.add_comm 1]
/-- the items of enumerate by place -/
def nums (n : Nat) : List Nat := List.range n
theorem enumV_t {α : Type} (f : α → PyData) (xs : List α) (st : Sto) : enumV [.dat (.tuple (xs.map f))] st = .ok (((List.range xs.length).zip xs).map fun p => .dat (.tuple [.int (p.1 : Int), f p.2]), none) st := by
  have := enumL_map f 0 xs
  simp only [enumV, seqOf_tuple, List.map_map, Function.comp_def, lockOf_dat]
  rw [this]
  simp
theorem enumV_l {α : Type} (f : α → PyData) (xs : List α) (st : Sto) : enumV [.dat (.list (xs.map f))] st = .ok (((List.range xs.length).zip xs).map fun p => .dat (.tuple [.int (p.1 : Int), f p.2]), none) st := by
  have := enumL_map f 0 xs
  simp only [enumV, seqOf_list, List.map_map, Function.comp_def, lockOf_dat]
  rw [this]
  simp
theorem zip_at {α : Type} {xs : List α} {i : Nat} {p : Nat × α} (h : ((List.range xs.length).zip xs)[i]? = some p) : p.1 = i ∧ xs[i]? = some p.2 := by
  rw [List.getElem?_zip_eq_some] at h
  obtain ⟨h1, h2⟩ := h
  have hl := (List.getElem?_eq_some_iff.mp h2).1
  rw [List.getElem?_range hl] at h1
  exact ⟨(Option.some.inj h1).symm, h2⟩
theorem zip_len {α : Type} (xs : List α) : ((List.range xs.length).zip xs).length = xs.length := by simp
end Sk

set_option maxHeartbeats 1000000
/-! Sk, part 34: rows of readings: what all laws of series share. -/
namespace Sk
open PySem PySem.Spec PyProof.Rows L2 GxR
def c_is_whole : CS :=
    (dRet (dAnd (dUn (isiV "int") (dVar 0)) (dAnd (dUn notV (dUn (isiV "bool") (dVar 0))) (dChain leV leV (dVar 1) (dVar 0) (dVar 2)))))
def F_is_whole : Fn := mkFn 3 c_is_whole
def c_check_row : CS :=
    (dIfS (dOrT (dNotT (dTest (dUn (isiV "tuple") (dVar 0)))) (dOrT (dTest (dBin gtV (dCallB lenV (dCons (dVar 0) dNil)) (dC (.int 400)))) (dNotT (dTest (dGen eatAll (.dat (.bool true)) (dIter (dVar 0)) [1] (gN 1) (dCallP F_is_whole 3 (dCons (dVar 1) (dCons (dUn negV (dC (.int 1000000))) (dCons (dC (.int 1000000)) dNil))))))))) (dRaise 2) dSkip)
def F_check_row : Fn := mkFn 2 c_check_row
def wt_place_for1 : CB :=
    (dTest (dBin ltV (dVar 2) (dVar 3)))
def wb_place_for1 : CS :=
    (dSeq (dAsg (dBin divV (dBin addV (dVar 2) (dVar 3)) (dC (.int 2))) (gN 4))
    (dIfS (dTest (dBin ltV (dBin ixV (dVar 0) (dVar 4)) (dVar 1))) (dAsg (dBin addV (dVar 4) (dC (.int 1))) (gN 2)) (dAsg (dVar 4) (gN 3))))
def c_place_for : CS :=
    (dSeq (dPar 2 3 (dCons (dC (.int 0)) (dCons (dCallB lenV (dCons (dVar 0) dNil)) dNil)))
    (dSeq (whileS wt_place_for1 wb_place_for1 fuel)
    (dRet (dVar 2))))
def F_place_for : Fn := mkFn 5 c_place_for
def c__law_row : CS :=
    (dSeq (dAsg (dBin ixV (dLst (dCons (dC (.int 2)) (dCons (dC (.int 4)) (dCons (dC (.int 12)) (dCons (dC (.int 2000001)) dNil))))) (dCallO F__law_roll 2 (dCons (dVar 0) (dCons (dC (.int 4)) dNil)))) (gN 2))
    (dRet (dCallB tupleV (dCons (dComp asF (dRange (dCons (dCallO F__law_roll 2 (dCons (dVar 0) (dCons (dBin addV (dVar 1) (dC (.int 1))) dNil))) dNil)) [3] (gN 3) dYes (dBin subV (dCallO F__law_roll 2 (dCons (dVar 0) (dCons (dVar 2) dNil))) (dBin divV (dVar 2) (dC (.int 2))))) dNil))))
def F__law_row : Fn := mkFn 4 c__law_row
/-! ### is_whole, check_row -/
theorem whole_i (x lo hi : Int) : F_is_whole [.dat (.int x), .dat (.int lo), .dat (.int hi)] [] = .ok (.dat (.bool (decide (lo ≤ x) && decide (x ≤ hi)))) [] := by
  by_cases h : lo ≤ x <;> simp [F_is_whole, mkFn, c_is_whole, mkEv, asRet, isiV, tyName, subTy, oB, h]
theorem whole_b (x : Bool) (lo hi : Int) : F_is_whole [.dat (.bool x), .dat (.int lo), .dat (.int hi)] [] = .ok (.dat (.bool false)) [] := by
  simp [F_is_whole, mkFn, c_is_whole, mkEv, asRet, isiV, tyName, subTy, oB]
theorem whole_n (lo hi : Int) : F_is_whole [.dat .none, .dat (.int lo), .dat (.int hi)] [] = .ok (.dat (.bool false)) [] := by
  simp [F_is_whole, mkFn, c_is_whole, mkEv, asRet, isiV, tyName, subTy, oB]
/-- an int or None -/
def oi : Option Int → PyData
  | some i => .int i
  | none => .none
def inO (lo hi : Int) : Option Int → Bool
  | some i => decide (lo ≤ i) && decide (i ≤ hi)
  | none => false
theorem whole_o (x : Option Int) (lo hi : Int) : F_is_whole [.dat (oi x), .dat (.int lo), .dat (.int hi)] [] = .ok (.dat (.bool (inO lo hi x))) [] := by
  cases x with
  | none => exact whole_n lo hi
  | some i => exact whole_i i lo hi
theorem row_gen (xs : List (Option Int)) (o : Option Va) : genL none (genTurn (gN 1) (dCallP F_is_whole 3 (dCons (dVar 1) (dCons (dUn negV (dC (.int 1000000))) (dCons (dC (.int 1000000)) dNil))))) eatAll (xs.map fun i => .dat (oi i)) (.dat (.bool true)) [o, none] [] = .ok (.dat (.bool (xs.all (inO (-1000000) 1000000)))) [] :=
  genL_all fun a _ => by
    have e : negV (.dat (.int 1000000)) [] = .ok (.dat (.int (-1000000))) [] := rfl
    simp [genTurn, e, callP_3 (whole_o a (-1000000) 1000000)]
def rowD (row : List Int) : PyData := .tuple (row.map .int)
theorem row_oi (row : List Int) : (row.map PyData.int) = (row.map some).map oi := by simp [oi]
theorem checkRow_o {xs : List (Option Int)} (hl : xs.length ≤ 400) : F_check_row [.dat (.tuple (xs.map oi))] [] = if xs.all (inO (-1000000) 1000000) = true then .ok (.dat .none) [] else .err ⟨2, none⟩ [] := by
  have e1 : isiV "tuple" (.dat (.tuple (xs.map oi))) [] = .ok (.dat (.bool true)) [] := rfl
  have e2 : ¬ (400 : Int) < (xs.length : Int) := by omega
  have e3 := row_gen xs (some (.dat (.tuple (xs.map oi))))
  simp only [F_check_row, mkFn, c_check_row, mkEv, List.map_cons, List.map_nil, List.length_cons, List.length_nil, eIfS, eOrT, eNotT, eTest, eUn, eVar, List.getElem?_cons_zero, Rs.bind_ok, e1, asB_b, eBin, eCallB, eCons, eNil, lenV_t, eC, gtV_i, eGen, eIter, itemsV_t, wipeE,
    List.length_map, List.map_map, List.singleton_append, List.replicate, Nat.reduceSub, Nat.reduceAdd, List.nil_append, List.cons_append, List.set_cons_succ, List.set_cons_zero, Function.comp_def, e3, e2]
  cases xs.all (inO (-1000000) 1000000) <;> simp [asRet]
theorem checkRow_ok {row : List Int} (hl : row.length ≤ 400) (hb : ∀ x ∈ row, -1000000 ≤ x ∧ x ≤ 1000000) : F_check_row [.dat (.tuple (row.map .int))] [] = .ok (.dat .none) [] := by
  have := checkRow_o (xs := row.map some) (by simpa using hl)
  rw [← row_oi] at this
  rw [this, if_pos]
  simp only [List.all_map, List.all_eq_true, Function.comp_def, inO, Bool.and_eq_true, decide_eq_true_eq]
  exact hb
theorem checkRow_none {row : List Int} (hl : row.length ≤ 399) : F_check_row [.dat (.tuple (row.map .int ++ [.none]))] [] = .err ⟨2, none⟩ [] := by
  have := checkRow_o (xs := row.map some ++ [none]) (by simp; omega)
  rw [List.map_append, ← row_oi] at this
  rw [show row.map PyData.int ++ [.none] = row.map PyData.int ++ [none].map oi from rfl, this, if_neg]
  simp [inO]
theorem checkRow_list (ds : List PyData) : F_check_row [.dat (.list ds)] [] = .err ⟨2, none⟩ [] := by
  have e1 : isiV "tuple" (.dat (.list ds)) [] = .ok (.dat (.bool false)) [] := rfl
  simp [F_check_row, mkFn, c_check_row, mkEv, e1]
/-! ### the place of a number in a rising row -/
theorem place_eq {xs : List Int} {x : Int} (hs : xs.Pairwise (· ≤ ·)) (hl : xs.length ≤ 10000) : F_place_for [.dat (.list (xs.map .int)), .dat (.int x)] [] = .ok (.dat (.int ((xs.filter fun y => decide (y < x)).length : Nat))) [] := by
  have mono : ∀ (i j : Nat) (a b : Int), i ≤ j → xs[i]? = some a → xs[j]? = some b → a ≤ b := by
    intro i j a b hij ha hb
    obtain ⟨h1, e1⟩ := List.getElem?_eq_some_iff.mp ha
    obtain ⟨h2, e2⟩ := List.getElem?_eq_some_iff.mp hb
    rcases Nat.lt_or_eq_of_le hij with h | h
    · have := List.pairwise_iff_getElem.mp hs i j h1 h2 h
      omega
    · subst h
      omega
  have key := whileS_inv (c := wt_place_for1) (b := wb_place_for1)
    (fun ev st n => st = [] ∧ ∃ (lo hi : Nat) (o : Option Va), n = hi - lo ∧ lo ≤ hi ∧ hi ≤ xs.length ∧ ev = [some (.dat (.list (xs.map .int))), some (.dat (.int x)), some (.dat (.int lo)), some (.dat (.int hi)), o] ∧ (∀ j y, j < lo → xs[j]? = some y → y < x) ∧ ∀ j y, hi ≤ j → xs[j]? = some y → x ≤ y)
    (fun ev st => st = [] ∧ ∃ (lo : Nat) (o o2 : Option Va), lo ≤ xs.length ∧ ev = [some (.dat (.list (xs.map .int))), some (.dat (.int x)), some (.dat (.int lo)), o2, o] ∧ (∀ j y, j < lo → xs[j]? = some y → y < x) ∧ ∀ j y, lo ≤ j → xs[j]? = some y → x ≤ y)
    (fun ev st n ⟨h0, lo, hi, o, hn, h1, h2, hev, hlo, hhi⟩ => by
      subst h0 hev
      by_cases hlt : lo < hi
      · refine .inr ?_
        obtain ⟨md, hmd⟩ : ∃ md : Nat, md = (lo + hi) / 2 := ⟨_, rfl⟩
        have hm : ((lo : Int) + (hi : Int)) / 2 = (md : Int) := by omega
        have hml : md < xs.length := by omega
        obtain ⟨y, hy⟩ : ∃ y, xs[md]? = some y := ⟨_, List.getElem?_eq_getElem hml⟩
        have hix := ixV_l (f := PyData.int) (st := []) (atI_pos hy rfl)
        by_cases hyx : y < x
        · refine ⟨[some (.dat (.list (xs.map .int))), some (.dat (.int x)), some (.dat (.int ((md + 1 : Nat) : Int))), some (.dat (.int hi)), some (.dat (.int (md : Int)))], [], [], hi - (md + 1), by simp [wt_place_for1, hlt], .inl ?_, by omega, rfl, _, hi, _, rfl, by omega, h2, rfl, fun j z hj hz => ?_, hhi⟩
          · simp [wb_place_for1, divV_i, hm, hix, hyx]
          · exact Int.lt_of_le_of_lt (mono j _ z y (by omega) hz hy) hyx
        · refine ⟨[some (.dat (.list (xs.map .int))), some (.dat (.int x)), some (.dat (.int lo)), some (.dat (.int (md : Int))), some (.dat (.int (md : Int)))], [], [], md - lo, by simp [wt_place_for1, hlt], .inl ?_, by omega, rfl, lo, _, _, rfl, by omega, by omega, rfl, hlo, fun j z hj hz => ?_⟩
          · simp [wb_place_for1, divV_i, hm, hix, hyx]
          · exact Int.le_trans (by omega) (mono _ j y z hj hy hz)
      · refine .inl ⟨[], by simp [wt_place_for1, hlt], rfl, lo, _, _, by omega, rfl, hlo, fun j y hj => hhi j y (by omega)⟩) fuel xs.length
      [some (.dat (.list (xs.map .int))), some (.dat (.int x)), some (.dat (.int (0 : Nat))), some (.dat (.int xs.length)), none] [] (by unfold fuel; omega) ⟨rfl, 0, xs.length, none, by omega, by omega, by omega, rfl, fun j y hj => by omega, fun j y hj hy => by
        have := (List.getElem?_eq_some_iff.mp hy).1
        omega⟩
  obtain ⟨ev', st', e, h0, lo, o, o2, h1, hev, hlo, hhi⟩ := key
  subst h0 hev
  have hf : (xs.filter fun y => decide (y < x)).length = lo := by
    have e1 : xs = xs.take lo ++ xs.drop lo := (List.take_append_drop lo xs).symm
    have e2 : (xs.take lo).filter (fun y => decide (y < x)) = xs.take lo := by
      rw [List.filter_eq_self]
      intro y hy
      obtain ⟨j, hj, ey⟩ := List.getElem_of_mem hy
      have hj' : j < lo ∧ j < xs.length := by rw [List.length_take] at hj; omega
      simp
      exact hlo j y hj'.1 (by rw [← ey, List.getElem_take, List.getElem?_eq_getElem hj'.2])
    have e3 : (xs.drop lo).filter (fun y => decide (y < x)) = [] := by
      rw [List.filter_eq_nil_iff]
      intro y hy
      obtain ⟨j, hj, ey⟩ := List.getElem_of_mem hy
      have hj' : lo + j < xs.length := by rw [List.length_drop] at hj; omega
      have := hhi (lo + j) y (by omega) (by rw [← ey, List.getElem_drop, List.getElem?_eq_getElem hj'])
      simp
      omega
    rw [e1, List.filter_append, e2, e3]
    simp
    omega
  rw [hf]
  simp [F_place_for, mkFn, c_place_for, mkEv] 
  simp at e
  simp [e, asRet]
/-! ### the drawn row -/
theorem row_draw {D n : Nat} {st : Sto} (h : Dic D st) (hn : n < D) {most : Nat} (hm : most ≤ 1000) : ∃ (row : List Int) (st' : Sto), callO F__law_row 2 [.ref n, .dat (.int most)] st = .ok (.dat (.tuple (row.map .int))) st' ∧ row.length ≤ most ∧ (∀ x ∈ row, -1000000 ≤ x ∧ x ≤ 1000000) ∧ Dic D st' ∧ Kp D st st' := by
  obtain ⟨r, st1, p1, p2, e1, d1, k1⟩ := roll_dic (m := 4) h hn (by omega) (by omega)
  obtain ⟨hi, eh, hi1, hi2⟩ : ∃ hi : Int, ixV (.dat (.list [.int 2, .int 4, .int 12, .int 2000001])) (.dat (.int r)) st1 = .ok (.dat (.int hi)) st1 ∧ 2 ≤ hi ∧ hi ≤ 2000001 := by
    have : r = 0 ∨ r = 1 ∨ r = 2 ∨ r = 3 := by omega
    rcases this with z | z | z | z <;> subst z
    · exact ⟨2, rfl, by omega, by omega⟩
    · exact ⟨4, rfl, by omega, by omega⟩
    · exact ⟨12, rfl, by omega, by omega⟩
    · exact ⟨2000001, rfl, by omega, by omega⟩
  obtain ⟨c, st2, q1, q2, e2, d2, k2⟩ := roll_dic (m := (most : Int) + 1) d1 hn (by omega) (by omega)
  have hc : ∃ cn : Nat, c = (cn : Int) := ⟨c.toNat, by omega⟩
  obtain ⟨cn, rfl⟩ := hc
  obtain ⟨ys, st3, e3, l3, r3, d3, k3⟩ := compL_draw (f := compTurn (gN 3) dYes (dBin subV (dCallO F__law_roll 2 (dCons (dVar 0) (dCons (dVar 2) dNil))) (dBin divV (dVar 2) (dC (.int 2))))) (ev := [some (.ref n), some (.dat (.int most)), some (.dat (.int hi)), none]) (h := fun i : Nat => Va.dat (.int (i : Int))) (G := fun i : Int => Va.dat (.int i)) (P := fun s => Dic D s ∧ Kp D st2 s)
    (R := fun i => -1000000 ≤ i ∧ i ≤ 1000000) (xs := List.range cn) (st := st2) (fun a _ s hs => by
      obtain ⟨z, s', z1, z2, ez, dz, kz⟩ := roll_dic (m := hi) hs.1 hn (by omega) (by omega)
      refine ⟨z - hi / 2, s', ?_, ⟨dz, hs.2.trans kz⟩, by omega, by omega⟩
      simp [compTurn, ez, divV_i]) ⟨d2, Kp.refl _ _⟩
  refine ⟨ys, st3, ?_, by simp at l3; omega, r3, d3, (k1.trans k2).trans k3⟩
  have hl : mkL [Va.dat (.int 2), .dat (.int 4), .dat (.int 12), .dat (.int 2000001)] = .dat (.list [.int 2, .int 4, .int 12, .int 2000001]) := rfl
  have hr := rangeV_1 (n := cn) (st := st2) (by omega)
  have hf : few cn = true := by unfold few; simp; omega
  have hmk : mkL (ys.map fun i : Int => Va.dat (.int i)) = .dat (.list (ys.map .int)) := mkL_fun _ _
  simp only [List.length_map, List.length_range] at l3
  refine (callO_eq (n := 2) rfl).trans ?_
  simp [F__law_row, mkFn, c__law_row, mkEv, e1, hl, eh, e2, hr, hf, wipeE, e3, asF, hmk, asRet]
end Sk

set_option maxHeartbeats 1000000
/-! Sk, part 35: what a row begins and ends with; where a part stands. -/
namespace Sk
open PySem PySem.Spec PyProof.Rows L2 GxR
def wt_borders1 : CB :=
    (dAndT (dTest (dBin gtV (dVar 2) (dC (.int 0)))) (dTest (dBin neV (dBin ixV (dVar 0) (dVar 3)) (dBin ixV (dVar 0) (dVar 2)))))
def wb_borders1 : CS :=
    (dAsg (dBin ixV (dVar 1) (dBin subV (dVar 2) (dC (.int 1)))) (gN 2))
def fb_borders1 : CS :=
    (dSeq (whileS wt_borders1 wb_borders1 fuel)
    (dSeq (dIfS (dTest (dBin eqV (dBin ixV (dVar 0) (dVar 3)) (dBin ixV (dVar 0) (dVar 2)))) (dAug 2 addI (dC (.int 1))) dSkip)
    (dAsg (dVar 2) (gSb (dVar 1) (dVar 3)))))
def c_borders : CS :=
    (dSeq (dDo (dCallP F_check_row 1 (dCons (dVar 0) dNil)))
    (dSeq (dPar 1 2 (dCons (dBin (mulY newL) (dLst (dCons (dC (.int 0)) dNil)) (dCallB lenV (dCons (dVar 0) dNil))) (dCons (dC (.int 0)) dNil)))
    (dSeq (dFor (dRange (dCons (dC (.int 1)) (dCons (dCallB lenV (dCons (dVar 0) dNil)) dNil))) (gN 3) fb_borders1)
    (dRet (dCallB tupleV (dCons (dVar 1) dNil))))))
def F_borders : Fn := mkFn 4 c_borders
def wt_places_of1 : CB :=
    (dAndT (dTest (dBin gtV (dVar 3) (dC (.int 0)))) (dOrT (dTest (dBin eqV (dVar 3) (dCallB lenV (dCons (dVar 1) dNil)))) (dTest (dBin neV (dVar 6) (dBin ixV (dVar 1) (dVar 3))))))
def wb_places_of1 : CS :=
    (dAsg (dBin ixV (dVar 2) (dBin subV (dVar 3) (dC (.int 1)))) (gN 3))
def fb_places_of1 : CS :=
    (dSeq (whileS wt_places_of1 wb_places_of1 fuel)
    (dSeq (dIfS (dTest (dBin eqV (dVar 6) (dBin ixV (dVar 1) (dVar 3)))) (dAug 3 addI (dC (.int 1))) dSkip)
    (dIfS (dTest (dBin eqV (dVar 3) (dCallB lenV (dCons (dVar 1) dNil)))) (dDo (dMt (lstM appendG) (dVar 4) (dCons (dBin addV (dBin subV (dVar 5) (dVar 3)) (dC (.int 1))) dNil))) dSkip)))
def c_places_of : CS :=
    (dSeq (dDo (dCallP F_check_row 1 (dCons (dVar 0) dNil)))
    (dSeq (dIfS (dTest (dBin eqV (dVar 1) (dTup dNil))) (dRet (dUn (rgT asT) (dBin addV (dCallB lenV (dCons (dVar 0) dNil)) (dC (.int 1))))) dSkip)
    (dSeq (dPar3 2 3 4 (dCons (dCallP F_borders 1 (dCons (dVar 1) dNil)) (dCons (dC (.int 0)) (dCons (dLstM dNil) dNil))))
    (dSeq (dFor (dEnum (dCons (dVar 0) dNil)) (gTp 2 (gsCons (gN 5) (gsCons (gN 6) gsNil))) fb_places_of1)
    (dRet (dCallB tupleV (dCons (dVar 4) dNil)))))))
def F_places_of : Fn := mkFn 7 c_places_of
def vl (row : List Int) (j : Nat) : Int := row.getD j 0
section
variable {row : List Int}
theorem vl_at {j : Nat} {x : Int} (h : row[j]? = some x) : vl row j = x := by simp [vl, List.getD_eq_getElem?_getD, h]
theorem at_vl {j : Nat} (h : j < row.length) : row[j]? = some (vl row j) := by simp [vl, List.getD_eq_getElem?_getD, h]
theorem vl_take {t i : Nat} (h : i < t) : vl (row.take t) i = vl row i := by simp [vl, List.getD_eq_getElem?_getD, List.getElem?_take, h]
theorem vl_drop {n i : Nat} : vl (row.drop n) i = vl row (n + i) := by simp [vl, List.getD_eq_getElem?_getD]
theorem vl_ext {a b : List Int} (h : a.length = b.length) (e : ∀ i, i < a.length → vl a i = vl b i) : a = b := by
  apply List.ext_getElem? 
  intro i
  by_cases hi : i < a.length
  · rw [at_vl hi, at_vl (by omega), e i hi]
  · rw [List.getElem?_eq_none (by omega), List.getElem?_eq_none (by omega)]
end
/-- the first t are the last t of the first n -/
def Brd (row : List Int) (n t : Nat) : Prop := ∀ i, i < t → vl row i = vl row (n - t + i)
/-- the greatest below n that is one -/
def gr (p : Nat → Bool) : Nat → Nat
  | 0 => 0
  | k + 1 => if p k = true then k else gr p k
theorem gr_spec {p : Nat → Bool} : ∀ {n t : Nat}, t < n → p t = true → p (gr p n) = true ∧ gr p n < n ∧ t ≤ gr p n
  | n + 1, t, h, ht => by
    unfold gr
    by_cases e : p n = true
    · rw [if_pos e]; exact ⟨e, by omega, by omega⟩
    · rw [if_neg e]
      have hne : t ≠ n := fun z => e (z ▸ ht)
      obtain ⟨a, b, c⟩ := gr_spec (p := p) (n := n) (t := t) (by omega) ht
      exact ⟨a, by omega, c⟩
instance (row : List Int) (n t : Nat) : Decidable (Brd row n t) := inferInstanceAs (Decidable (∀ i, i < t → _))
def mb (row : List Int) (n : Nat) : Nat := gr (fun t => decide (Brd row n t)) n
section
variable {row : List Int}
theorem brd_zero (n : Nat) : Brd row n 0 := fun i h => by omega
theorem mb_spec {n : Nat} (h : 0 < n) : Brd row n (mb row n) ∧ mb row n < n ∧ ∀ t, t < n → Brd row n t → t ≤ mb row n := by
  have h0 := gr_spec (p := fun t => decide (Brd row n t)) h (decide_eq_true (brd_zero n))
  refine ⟨of_decide_eq_true h0.1, h0.2.1, fun t ht hb => (gr_spec (p := fun t => decide (Brd row n t)) ht (decide_eq_true hb)).2.2⟩
theorem mb_eq {n t : Nat} (h : t < n) (hb : Brd row n t) (hm : ∀ u, u < n → Brd row n u → u ≤ t) : mb row n = t := by
  obtain ⟨a, b, c⟩ := mb_spec (row := row) (n := n) (by omega)
  have := c t h hb
  have := hm _ b a
  omega
theorem brd_in {n s t : Nat} (h1 : Brd row n s) (h2 : Brd row s t) (ht : t ≤ s) (hs : s ≤ n) : Brd row n t := fun i hi => by
  rw [h2 i hi, h1 (s - t + i) (by omega)]
  congr 1
  omega
theorem brd_out {n s t : Nat} (h1 : Brd row n s) (h2 : Brd row n t) (ht : t ≤ s) (hs : s ≤ n) : Brd row s t := fun i hi => by
  rw [h2 i hi, h1 (s - t + i) (by omega)]
  congr 1
  omega
theorem brd_succ {n t : Nat} (h : t ≤ n) : Brd row (n + 1) (t + 1) ↔ Brd row n t ∧ vl row t = vl row n := by
  constructor
  · intro hb
    refine ⟨fun i hi => ?_, ?_⟩
    · rw [hb i (by omega)]; congr 1; omega
    · rw [hb t (by omega)]; congr 1; omega
  · rintro ⟨a, b⟩ i hi
    by_cases e : i = t
    · subst e; rw [b]; congr 1; omega
    · rw [a i (by omega)]; congr 1; omega
theorem brd_list {n t : Nat} (h : t ≤ n) (hn : n ≤ row.length) : (row.take n).take t = (row.take n).drop (n - t) ↔ Brd row n t := by
  constructor
  · intro e i hi
    have := congrArg (fun l => vl l i) e
    simp only [vl_drop] at this
    rw [vl_take hi, vl_take (by omega), vl_take (by omega)] at this
    exact this
  · intro hb
    apply vl_ext
    · simp; omega
    · intro i hi
      have hi : i < t := by simp at hi; omega
      rw [vl_take hi, vl_drop, vl_take (by omega), vl_take (by omega)]
      exact hb i hi
end
/-! ### borders -/
abbrev natV (xs : List Nat) : List Va := xs.map fun j : Nat => .dat (.int (j : Int))
theorem gd_nat : Gd (fun j : Nat => PyData.int (j : Int)) 0 := ⟨fun _ => by simp [PyData.depth], fun _ => rfl, fun a b => by simp [PyData.eqv]; omega⟩
/-- the table behind the first k -/
def btab (row : List Int) (k : Nat) : List Nat := (List.range row.length).map fun i => if i < k then mb row (i + 1) else 0
theorem btab_at {row : List Int} {k i : Nat} (hi : i < row.length) (hk : i < k) : (btab row k)[i]? = some (mb row (i + 1)) := by
  simp [btab, hi, hk]
theorem btab_set {row : List Int} {k : Nat} (hk : k < row.length) : (btab row k).set k (mb row (k + 1)) = btab row (k + 1) := by
  apply List.ext_getElem?
  intro i
  by_cases hi : i < row.length
  · by_cases e : k = i
    · subst e
      rw [List.getElem?_set_self (by simp [btab]; exact hk)]
      simp [btab, hk]
    · rw [List.getElem?_set_ne e]
      simp only [btab, List.getElem?_map, List.getElem?_range hi, Option.map_some]
      by_cases h1 : i < k
      · rw [if_pos h1, if_pos (by omega)]
      · rw [if_neg h1, if_neg (by omega)]
  · rw [List.getElem?_eq_none (by simp [btab]; omega), List.getElem?_eq_none (by simp [btab]; omega)]
section
variable {row : List Int} (hl : row.length ≤ 400) (hb : ∀ x ∈ row, -1000000 ≤ x ∧ x ≤ 1000000)
omit hb in
theorem bord_while (hl : row.length ≤ 400) {k h : Nat} {T : List Nat} (hk : k < row.length) (h1 : 1 ≤ k) (hT : T = btab row k) (hh : h < k) (hB : Brd row k h) (hM : ∀ t, t < k → Brd row k t → vl row t = vl row k → t ≤ h) :
    ∃ g, g < k ∧ Brd row k g ∧ (∀ t, t < k → Brd row k t → vl row t = vl row k → t ≤ g) ∧ (g = 0 ∨ vl row k = vl row g) ∧
      whileS wt_borders1 wb_borders1 fuel [some (.dat (.tuple (row.map .int))), some (.ref 0), some (.dat (.int (h : Int))), some (.dat (.int (k : Int)))] [some (.lst (natV T))] =
        .ok (.nx [some (.dat (.tuple (row.map .int))), some (.ref 0), some (.dat (.int (g : Int))), some (.dat (.int (k : Int)))]) [some (.lst (natV T))] := by
  have key := whileS_p (c := wt_borders1) (b := wb_borders1)
    (fun ev st n => ∃ g : Nat, n = g ∧ g < k ∧ Brd row k g ∧ (∀ t, t < k → Brd row k t → vl row t = vl row k → t ≤ g) ∧ ev = [some (.dat (.tuple (row.map .int))), some (.ref 0), some (.dat (.int (g : Int))), some (.dat (.int (k : Int)))] ∧ st = [some (.lst (natV T))])
    (fun ev st => ∃ g : Nat, g < k ∧ Brd row k g ∧ (∀ t, t < k → Brd row k t → vl row t = vl row k → t ≤ g) ∧ (g = 0 ∨ vl row k = vl row g) ∧ ev = [some (.dat (.tuple (row.map .int))), some (.ref 0), some (.dat (.int (g : Int))), some (.dat (.int (k : Int)))] ∧ st = [some (.lst (natV T))])
    (fun ev st n ⟨g, hn, g1, g2, g3, hev, hst⟩ => by
      subst hev hst
      have i1 := fun st => ixV_t (f := PyData.int) (st := st) (atI_pos (at_vl hk) rfl)
      have i2 := fun st => ixV_t (f := PyData.int) (st := st) (atI_pos (at_vl (row := row) (j := g) (by omega)) rfl)
      by_cases hg : 0 < g
      · have c0 : (0 : Int) < (g : Int) := by omega
        have c1 : g ≠ 0 := by omega
        by_cases hv : vl row k = vl row g
        · exact .inl ⟨by simp [wt_borders1, c0, c1, hg, i1, i2, hv], g, g1, g2, g3, .inr hv, rfl, rfl⟩
        · obtain ⟨m1, m2, m3⟩ := mb_spec (row := row) hg
          have i3 := ixV_r (n := 0) (st := [some (.lst (natV T))]) (i := (g : Int) - 1) (a := .dat (.int (mb row g : Int))) rfl (atI_pos (n := g - 1) (by
            rw [natV, List.getElem?_map, hT, btab_at (by omega) (by omega), show g - 1 + 1 = g by omega]; rfl) (by omega))
          refine .inr ⟨by simp [wt_borders1, c0, c1, hg, i1, i2, hv], _, _, mb row g, ?_, by omega, mb row g, rfl, by omega, brd_in g2 m1 (by omega) (by omega), fun t t1 t2 t3 => ?_, rfl, rfl⟩
          · simp [wb_borders1, i3]
          · have := g3 t t1 t2 t3
            have hne : t ≠ g := fun z => hv (by rw [← z, t3])
            exact m3 t (by omega) (brd_out g2 t2 (by omega) (by omega))
      · have c0 : g = 0 := by omega
        subst c0
        exact .inl ⟨by simp [wt_borders1], 0, g1, g2, g3, .inl (by omega), rfl, rfl⟩) fuel h _ _ (by unfold fuel; omega) ⟨h, rfl, hh, hB, hM, rfl, rfl⟩
  obtain ⟨ev', st', e, g, a, b, c, d, rfl, rfl⟩ := key
  exact ⟨g, a, b, c, d, e⟩
include hl hb
theorem borders_eq : ∃ st, F_borders [.dat (.tuple (row.map .int))] [] = .ok (.dat (.tuple ((btab row row.length).map fun j : Nat => .int (j : Int)))) st := by
  have e0 := callP_1 (st := []) (checkRow_ok hl hb)
  have key := forS_inv (b := dTurn (gN 3) fb_borders1) (h := fun i : Nat => Va.dat (.int (1 + (i : Int))))
    (fun k ev st => ∃ o T, ev = [some (.dat (.tuple (row.map .int))), some (.ref 0), some (.dat (.int (mb row k : Nat))), o] ∧ st = [some (.lst (natV T))] ∧ T = btab row k)
    (xs := List.range (row.length - 1)) (k := 1) (ev := [some (.dat (.tuple (row.map .int))), some (.ref 0), some (.dat (.int 0)), none]) (st := [some (.lst (natV (btab row 1)))])
    ⟨none, _, by
      have : mb row 1 = 0 := by simp [mb, gr]
      rw [this]; rfl, rfl, rfl⟩ fun i a ev st ha hI => by
      obtain ⟨o, T, rfl, rfl, hT⟩ := hI
      have hil : i < row.length - 1 := by have := (List.getElem?_eq_some_iff.mp ha).1; simpa using this
      have : a = i := by rw [List.getElem?_range hil] at ha; exact (Option.some.inj ha).symm
      subst this
      obtain ⟨k, hk⟩ : ∃ k, k = 1 + a := ⟨_, rfl⟩
      rw [← hk] at hT ⊢
      have hkl : k < row.length := by omega
      obtain ⟨m1, m2, m3⟩ := mb_spec (row := row) (n := k) (by omega)
      obtain ⟨g, g1, g2, g3, g4, ew⟩ := bord_while hl hkl (by omega) hT m2 m1 (fun t t1 t2 _ => m3 t t1 t2)
      have i1 := fun st => ixV_t (f := PyData.int) (st := st) (atI_pos (at_vl hkl) rfl)
      have i2 := fun st => ixV_t (f := PyData.int) (st := st) (atI_pos (at_vl (row := row) (j := g) (by omega)) rfl)
      have hki : 1 + (a : Int) = (k : Int) := by omega
      have hTl : T.length = row.length := by rw [hT]; simp [btab]
      have hset : ∀ z : Nat, z = mb row (k + 1) → setV (.ref 0) (.dat (.int (k : Int))) (.dat (.int (z : Int))) [some (.lst (natV T))] = .ok () [some (.lst (natV (btab row (k + 1))))] := fun z hz => by
        have := setV_r (n := 0) (st := [some (.lst (natV T))]) (i := (k : Int)) (j := k) (a := .dat (.int (z : Int))) (xs := natV T) rfl (ixN_pos rfl (by simp [hTl]; exact hkl))
        rw [this, ← btab_set hkl, ← hT, ← hz]
        simp [natV, List.map_set]
      generalize hN : natV (btab row (k + 1)) = NN at hset
      by_cases hv : vl row k = vl row g
      · have hm : mb row (k + 1) = g + 1 := mb_eq (by omega) ((brd_succ (by omega)).mpr ⟨g2, hv.symm⟩) fun u u1 u2 => by
          cases u with
          | zero => omega
          | succ t =>
            obtain ⟨b1, b2⟩ := (brd_succ (by omega)).mp u2
            by_cases ht : t < k
            · have := g3 t ht b1 b2; omega
            · omega
        refine ⟨_, _, .inl ?_, some (.dat (.int (k : Int))), btab row (k + 1), rfl, rfl, rfl⟩
        rw [hN, hm]
        have hs2 := hset (g + 1) hm.symm
        simp only [Int.natCast_add, Int.cast_ofNat_Int] at hs2
        simp only [eTurn, eN, List.set_cons_succ, List.set_cons_zero, Rs.bind_ok, hki]
        refine seq_nx ew ?_
        simp [i1, i2, hv, hs2]
      · have hg0 : g = 0 := by rcases g4 with z | z; exact z; exact absurd z hv
        have hm : mb row (k + 1) = 0 := mb_eq (by omega) (brd_zero _) fun u u1 u2 => by
          cases u with
          | zero => omega
          | succ t =>
            obtain ⟨b1, b2⟩ := (brd_succ (by omega)).mp u2
            by_cases ht : t < k
            · have := g3 t ht b1 b2
              have : t = g := by omega
              rw [this] at b2
              exact absurd b2.symm hv
            · omega
        refine ⟨_, _, .inl ?_, some (.dat (.int (k : Int))), btab row (k + 1), rfl, rfl, rfl⟩
        rw [hN, hm]
        have hs2 := hset g (by omega)
        simp only [eTurn, eN, List.set_cons_succ, List.set_cons_zero, Rs.bind_ok, hki]
        refine seq_nx ew ?_
        subst hg0
        simp at i2 hs2
        simp [i1, i2, hv, hs2]
  obtain ⟨ev', st', e, o, T, rfl, rfl, hT⟩ := key
  simp only [List.length_range] at e hT
  have hlen : 1 + (row.length - 1) = row.length ∨ row.length = 0 := by omega
  have hTT : T = btab row row.length := by
    rw [hT]
    rcases hlen with z | z
    · rw [z]
    · have : row = [] := List.length_eq_zero_iff.mp z
      subst this
      rfl
  rw [← hTT]
  have hm0 : mulY newL (.dat (.list [.int 0])) (.dat (.int (row.length : Int))) [] = .ok (.ref 0) [some (.lst (natV (btab row 1)))] := by
    have u : upto 1000000 (row.length : Int) = true := upto_of (by omega) (by omega)
    have f : few (1 * row.length) = true := few_lit (by omega)
    have hb1 : btab row 1 = List.replicate row.length 0 := by
      apply List.ext_getElem?
      intro i
      by_cases hi : i < row.length
      · simp only [btab, List.getElem?_map, List.getElem?_range hi, Option.map_some, List.getElem?_replicate, hi, if_true]
        by_cases h0 : i < 1
        · have : i = 0 := by omega
          subst this
          simp [mb, gr]
        · simp [h0]
      · rw [List.getElem?_eq_none (by simp [btab]; omega), List.getElem?_eq_none (by simpa using hi)]
    have hm : ∀ n : Nat, manyL n [Va.dat (.int 0)] = natV (List.replicate n 0) := fun n => by
      induction n with
      | zero => rfl
      | succ n ih => simp [manyL, List.replicate_succ] at ih ⊢
    simp only [mulY, mulS, List.length_singleton, Int.toNat_natCast, u, f, Bool.and_self, if_true, List.map_cons, List.map_nil, hm, hb1, newL, List.length_nil, List.nil_append]
  have rg := rangeV_2 (a := 1) (b := (row.length : Int)) (st := [some (.lst (natV (btab row 1)))]) (by omega) (by omega) (by omega) (by omega)
  have hr : ((row.length : Int) - 1).toNat = row.length - 1 := by omega
  rw [hr] at rg
  refine ⟨[some (.lst (natV T))], ?_⟩
  have eT := tupleV_ref (f := fun j : Nat => PyData.int (j : Int)) (xs := T) (n := 0) (st := [some (.lst (natV T))]) rfl
  have mk0 : mkL [Va.dat (.int 0)] = .dat (.list [.int 0]) := rfl
  generalize natV (btab row 1) = N1 at *
  generalize hN : natV T = NT at *
  simp [F_borders, mkFn, c_borders, mkEv, e0, mk0, hm0, rg, e, eT, asRet]
end
end Sk

set_option maxHeartbeats 1000000
/-! Sk, part 36: the places of a part in a row. -/
namespace Sk
open PySem PySem.Spec PyProof.Rows L2 GxR
/-- the first t of the part are the last t of the first k of the row -/
def Mt (row part : List Int) (k t : Nat) : Prop := t ≤ k ∧ ∀ i, i < t → vl part i = vl row (k - t + i)
instance (row part : List Int) (k t : Nat) : Decidable (Mt row part k t) := inferInstanceAs (Decidable (_ ∧ ∀ i, i < t → _))
def mm (row part : List Int) (k : Nat) : Nat := gr (fun t => decide (Mt row part k t)) (part.length + 1)
section
variable {row part : List Int}
theorem mt_zero (k : Nat) : Mt row part k 0 := ⟨by omega, fun i h => by omega⟩
theorem mm_spec (k : Nat) : Mt row part k (mm row part k) ∧ mm row part k ≤ part.length ∧ ∀ t, t ≤ part.length → Mt row part k t → t ≤ mm row part k := by
  have h0 := gr_spec (p := fun t => decide (Mt row part k t)) (n := part.length + 1) (t := 0) (by omega) (decide_eq_true (mt_zero k))
  refine ⟨of_decide_eq_true h0.1, by have := h0.2.1; unfold mm; omega, fun t ht hb => (gr_spec (p := fun t => decide (Mt row part k t)) (show t < part.length + 1 by omega) (decide_eq_true hb)).2.2⟩
theorem mm_eq {k t : Nat} (h : t ≤ part.length) (hb : Mt row part k t) (hm : ∀ u, u ≤ part.length → Mt row part k u → u ≤ t) : mm row part k = t := by
  obtain ⟨a, b, c⟩ := mm_spec (row := row) (part := part) k
  have := c t h hb
  have := hm _ b a
  omega
theorem mt_in {k s t : Nat} (h1 : Mt row part k s) (h2 : Brd part s t) (ht : t ≤ s) : Mt row part k t := ⟨by have := h1.1; omega, fun i hi => by
  have := h1.1
  rw [h2 i hi, h1.2 (s - t + i) (by omega)]
  congr 1
  omega⟩
theorem mt_out {k s t : Nat} (h1 : Mt row part k s) (h2 : Mt row part k t) (ht : t ≤ s) : Brd part s t := fun i hi => by
  have := h1.1
  rw [h2.2 i hi, h1.2 (s - t + i) (by omega)]
  congr 1
  omega
theorem mt_succ {k t : Nat} : Mt row part (k + 1) (t + 1) ↔ Mt row part k t ∧ vl part t = vl row k := by
  constructor
  · intro hb
    have h1 := hb.1
    refine ⟨⟨by omega, fun i hi => ?_⟩, ?_⟩
    · rw [hb.2 i (by omega)]; congr 1; omega
    · rw [hb.2 t (by omega)]; congr 1; omega
  · rintro ⟨a, b⟩
    have := a.1
    refine ⟨by omega, fun i hi => ?_⟩
    by_cases e : i = t
    · subst e; rw [b]; congr 1; omega
    · rw [a.2 i (by omega)]; congr 1; omega
theorem mt_list {j : Nat} (h : j + part.length ≤ row.length) : Mt row part (j + part.length) part.length ↔ (row.drop j).take part.length = part := by
  constructor
  · intro hm
    apply vl_ext
    · simp; omega
    · intro i hi
      have hi : i < part.length := by simp at hi; omega
      rw [vl_take hi, vl_drop, hm.2 i hi]
      congr 1
      omega
  · intro e
    refine ⟨by omega, fun i hi => ?_⟩
    have : vl ((row.drop j).take part.length) i = vl part i := congrArg (fun l => vl l i) e
    rw [vl_take hi, vl_drop] at this
    rw [← this]
    congr 1
    omega
theorem mm_full {j : Nat} (h : j + part.length ≤ row.length) : mm row part (j + part.length) = part.length ↔ (row.drop j).take part.length = part := by
  rw [← mt_list h]
  obtain ⟨a, b, c⟩ := mm_spec (row := row) (part := part) (j + part.length)
  constructor
  · intro e; rw [e] at a; exact a
  · intro hm
    have := c part.length (by omega) hm
    omega
/-- the places up to k -/
def plc (row part : List Int) (k : Nat) : List Nat := (List.range (k + 1 - part.length)).filter fun j => decide ((row.drop j).take part.length = part)
theorem plc_step {k : Nat} (h : part.length ≤ k + 1) (hk : k < row.length) : plc row part (k + 1) = plc row part k ++ if mm row part (k + 1) = part.length then [k + 1 - part.length] else [] := by
  unfold plc
  rw [show k + 1 + 1 - part.length = (k + 1 - part.length) + 1 by omega, List.range_succ, List.filter_append]
  congr 1
  have := mm_full (row := row) (part := part) (j := k + 1 - part.length) (by omega)
  rw [show k + 1 - part.length + part.length = k + 1 by omega] at this
  by_cases e : mm row part (k + 1) = part.length
  · rw [if_pos e]
    simp [this.mp e]
  · rw [if_neg e]
    have e2 : ¬ (row.drop (k + 1 - part.length)).take part.length = part := fun z => e (this.mpr z)
    simp [e2]
theorem plc_same {k : Nat} (h : ¬ part.length ≤ k + 1) : plc row part (k + 1) = plc row part k ∧ mm row part (k + 1) ≠ part.length := by
  refine ⟨by unfold plc; rw [show k + 1 + 1 - part.length = 0 by omega, show k + 1 - part.length = 0 by omega], fun e => ?_⟩
  have := (mm_spec (row := row) (part := part) (k + 1)).1.1
  omega
theorem plc_len (k : Nat) : (plc row part k).length ≤ k + 1 := by
  unfold plc
  have := List.length_filter_le (fun j => decide ((row.drop j).take part.length = part)) (List.range (k + 1 - part.length))
  simp at this
  omega
variable (hl : row.length ≤ 400) (hlp : part.length ≤ 400) (hp : 0 < part.length)
include hl hlp hp
theorem plc_while {k h : Nat} {A : Ob} {o2 : Option Va} (hk : k < row.length) (hM0 : Mt row part k h) (hh : h ≤ part.length) (hM : ∀ t, t < part.length → Mt row part k t → vl part t = vl row k → t ≤ h) :
    ∃ g, g < part.length ∧ Mt row part k g ∧ (∀ t, t < part.length → Mt row part k t → vl part t = vl row k → t ≤ g) ∧ (g = 0 ∨ vl part g = vl row k) ∧
      whileS wt_places_of1 wb_places_of1 fuel [o2, some (.dat (.tuple (part.map .int))), some (.dat (.tuple ((btab part part.length).map fun j : Nat => .int (j : Int)))), some (.dat (.int (h : Int))), some (.ref 0), some (.dat (.int (k : Int))), some (.dat (.int (vl row k)))] [some A] =
        .ok (.nx [o2, some (.dat (.tuple (part.map .int))), some (.dat (.tuple ((btab part part.length).map fun j : Nat => .int (j : Int)))), some (.dat (.int (g : Int))), some (.ref 0), some (.dat (.int (k : Int))), some (.dat (.int (vl row k)))]) [some A] := by
  have key := whileS_p (c := wt_places_of1) (b := wb_places_of1)
    (fun ev st n => ∃ g : Nat, n = g ∧ g ≤ part.length ∧ Mt row part k g ∧ (∀ t, t < part.length → Mt row part k t → vl part t = vl row k → t ≤ g) ∧ ev = [o2, some (.dat (.tuple (part.map .int))), some (.dat (.tuple ((btab part part.length).map fun j : Nat => .int (j : Int)))), some (.dat (.int (g : Int))), some (.ref 0), some (.dat (.int (k : Int))), some (.dat (.int (vl row k)))] ∧ st = [some A])
    (fun ev st => ∃ g : Nat, g < part.length ∧ Mt row part k g ∧ (∀ t, t < part.length → Mt row part k t → vl part t = vl row k → t ≤ g) ∧ (g = 0 ∨ vl part g = vl row k) ∧ ev = [o2, some (.dat (.tuple (part.map .int))), some (.dat (.tuple ((btab part part.length).map fun j : Nat => .int (j : Int)))), some (.dat (.int (g : Int))), some (.ref 0), some (.dat (.int (k : Int))), some (.dat (.int (vl row k)))] ∧ st = [some A])
    (fun ev st n ⟨g, hn, g1, g2, g3, hev, hst⟩ => by
      subst hev hst
      by_cases hg : 0 < g
      · have c1 : g ≠ 0 := by omega
        obtain ⟨m1, m2, m3⟩ := mb_spec (row := part) hg
        have i3 := fun st => ixV_t (f := fun j : Nat => PyData.int (j : Int)) (st := st) (xs := btab part part.length) (i := (g : Int) - 1) (a := mb part g) (atI_pos (n := g - 1) (by
            rw [btab_at (by omega) (by omega), show g - 1 + 1 = g by omega]) (by omega))
        have back : (g = part.length ∨ ¬ vl row k = vl part g) → ∃ ev' st2 n', wb_places_of1 [o2, some (.dat (.tuple (part.map .int))), some (.dat (.tuple ((btab part part.length).map fun j : Nat => .int (j : Int)))), some (.dat (.int (g : Int))), some (.ref 0), some (.dat (.int (k : Int))), some (.dat (.int (vl row k)))] [some A] = .ok (.nx ev') st2 ∧ n' < n ∧
            ∃ g : Nat, n' = g ∧ g ≤ part.length ∧ Mt row part k g ∧ (∀ t, t < part.length → Mt row part k t → vl part t = vl row k → t ≤ g) ∧ ev' = [o2, some (.dat (.tuple (part.map .int))), some (.dat (.tuple ((btab part part.length).map fun j : Nat => .int (j : Int)))), some (.dat (.int (g : Int))), some (.ref 0), some (.dat (.int (k : Int))), some (.dat (.int (vl row k)))] ∧ st2 = [some A] := fun hc => by
          refine ⟨_, _, mb part g, ?_, by omega, mb part g, rfl, by omega, mt_in g2 m1 (by omega), fun t t1 t2 t3 => ?_, rfl, rfl⟩
          · simp [wb_places_of1, i3]
          · have := g3 t t1 t2 t3
            have hne : t ≠ g := fun z => by
              rcases hc with hc | hc
              · omega
              · exact hc (by rw [← z, t3])
            exact m3 t (by omega) (mt_out g2 t2 (by omega))
        by_cases hgm : g = part.length
        · have hne : part ≠ [] := fun z => by rw [z] at hp; simp at hp
          exact .inr ⟨by simp [wt_places_of1, hg, c1, hgm, hp, hne], back (.inl hgm)⟩
        · have i2 := fun st => ixV_t (f := PyData.int) (st := st) (atI_pos (at_vl (row := part) (j := g) (by omega)) rfl)
          have hgm2 : ¬ (g : Int) = (part.length : Int) := by omega
          by_cases hv : vl row k = vl part g
          · exact .inl ⟨by simp [wt_places_of1, hg, c1, hgm, hgm2, i2, hv], g, by omega, g2, g3, .inr hv.symm, rfl, rfl⟩
          · exact .inr ⟨by simp [wt_places_of1, hg, c1, hgm, hgm2, i2, hv], back (.inr hv)⟩
      · have c0 : g = 0 := by omega
        subst c0
        exact .inl ⟨by simp [wt_places_of1], 0, hp, g2, g3, .inl rfl, rfl, rfl⟩) fuel h _ _ (by unfold fuel; omega) ⟨h, rfl, hh, hM0, hM, rfl, rfl⟩
  obtain ⟨ev', st', e, g, a, b, c, d, rfl, rfl⟩ := key
  exact ⟨g, a, b, c, d, e⟩
variable (hb : ∀ x ∈ row, -1000000 ≤ x ∧ x ≤ 1000000) (hbp : ∀ x ∈ part, -1000000 ≤ x ∧ x ≤ 1000000)
include hb hbp
theorem places_pos : ∃ st, F_places_of [.dat (.tuple (row.map .int)), .dat (.tuple (part.map .int))] [] = .ok (.dat (.tuple ((plc row part row.length).map fun j : Nat => .int (j : Int)))) st := by
  have e0 := callP_1 (st := []) (checkRow_ok hl hb)
  obtain ⟨_, eB⟩ := borders_eq (row := part) hlp hbp
  have e1 := callP_1 (st := []) eB
  have key := forS_inv (b := dTurn (gTp 2 (gsCons (gN 5) (gsCons (gN 6) gsNil))) fb_places_of1) (h := fun p : Nat × Int => Va.dat (.tuple [.int (p.1 : Int), .int p.2]))
    (fun k ev st => ∃ o5 o6, ev = [some (.dat (.tuple (row.map .int))), some (.dat (.tuple (part.map .int))), some (.dat (.tuple ((btab part part.length).map fun j : Nat => .int (j : Int)))), some (.dat (.int (mm row part k : Nat))), some (.ref 0), o5, o6] ∧ st = [some (.lst (natV (plc row part k)))])
    (xs := (List.range row.length).zip row) (k := 0) (ev := [some (.dat (.tuple (row.map .int))), some (.dat (.tuple (part.map .int))), some (.dat (.tuple ((btab part part.length).map fun j : Nat => .int (j : Int)))), some (.dat (.int 0)), some (.ref 0), none, none]) (st := [some (.lst [])])
    ⟨none, none, by
      have : mm row part 0 = 0 := by have := (mm_spec (row := row) (part := part) 0).1.1; omega
      rw [this]; rfl, by
      have : plc row part 0 = [] := by unfold plc; rw [show 0 + 1 - part.length = 0 by omega]; rfl
      rw [this]; rfl⟩ fun i p ev st hp2 hI => by
      obtain ⟨o5, o6, rfl, rfl⟩ := hI
      obtain ⟨z1, z2⟩ := zip_at hp2
      obtain ⟨k, x⟩ := p
      simp only at z1 z2
      subst z1
      simp only [Nat.zero_add]
      have hk : k < row.length := (List.getElem?_eq_some_iff.mp z2).1
      have hx := vl_at z2
      subst hx
      obtain ⟨m1, m2, m3⟩ := mm_spec (row := row) (part := part) k
      obtain ⟨g, g1, g2, g3, g4, ew⟩ := plc_while hl hlp hp (A := .lst (natV (plc row part k))) (o2 := some (.dat (.tuple (row.map .int)))) hk m1 m2 (fun t t1 t2 _ => m3 t (by omega) t2)
      have i2 := fun st => ixV_t (f := PyData.int) (st := st) (atI_pos (at_vl (row := part) (j := g) (by omega)) rfl)
      have hfew : few (plc row part k).length = true := few_lit (by have := plc_len (row := row) (part := part) k; omega)
      -- the next state of held
      obtain ⟨h2, hh2, eI⟩ : ∃ h2 : Nat, h2 = mm row part (k + 1) ∧ dIfS (dTest (dBin eqV (dVar 6) (dBin ixV (dVar 1) (dVar 3)))) (dAug 3 addI (dC (.int 1))) dSkip
          [some (.dat (.tuple (row.map .int))), some (.dat (.tuple (part.map .int))), some (.dat (.tuple ((btab part part.length).map fun j : Nat => .int (j : Int)))), some (.dat (.int (g : Int))), some (.ref 0), some (.dat (.int (k : Int))), some (.dat (.int (vl row k)))] [some (.lst (natV (plc row part k)))] =
          .ok (.nx [some (.dat (.tuple (row.map .int))), some (.dat (.tuple (part.map .int))), some (.dat (.tuple ((btab part part.length).map fun j : Nat => .int (j : Int)))), some (.dat (.int (h2 : Int))), some (.ref 0), some (.dat (.int (k : Int))), some (.dat (.int (vl row k)))]) [some (.lst (natV (plc row part k)))] := by
        by_cases hv : vl row k = vl part g
        · refine ⟨g + 1, (mm_eq (by omega) (mt_succ.mpr ⟨g2, hv.symm⟩) fun u u1 u2 => ?_).symm, by simp [i2, hv]⟩
          cases u with
          | zero => omega
          | succ t =>
            obtain ⟨b1, b2⟩ := mt_succ.mp u2
            have := g3 t (by omega) b1 b2
            omega
        · have hg0 : g = 0 := by rcases g4 with z | z; exact z; exact absurd z.symm hv
          refine ⟨0, (mm_eq (by omega) (mt_zero _) fun u u1 u2 => ?_).symm, ?_⟩
          · cases u with
            | zero => omega
            | succ t =>
              obtain ⟨b1, b2⟩ := mt_succ.mp u2
              have := g3 t (by omega) b1 b2
              have : t = g := by omega
              rw [this] at b2
              exact absurd b2.symm hv
          · subst hg0
            simp at i2
            simp [i2, hv]
      have start : dTurn (gTp 2 (gsCons (gN 5) (gsCons (gN 6) gsNil))) fb_places_of1 (.dat (.tuple [.int (k : Int), .int (vl row k)])) [some (.dat (.tuple (row.map .int))), some (.dat (.tuple (part.map .int))), some (.dat (.tuple ((btab part part.length).map fun j : Nat => .int (j : Int)))), some (.dat (.int (mm row part k : Nat))), some (.ref 0), o5, o6] [some (.lst (natV (plc row part k)))] =
          fb_places_of1 [some (.dat (.tuple (row.map .int))), some (.dat (.tuple (part.map .int))), some (.dat (.tuple ((btab part part.length).map fun j : Nat => .int (j : Int)))), some (.dat (.int (mm row part k : Nat))), some (.ref 0), some (.dat (.int (k : Int))), some (.dat (.int (vl row k)))] [some (.lst (natV (plc row part k)))] := by
        simp
      refine ⟨_, _, .inl ?_, some (.dat (.int (k : Int))), some (.dat (.int (vl row k))), rfl, rfl⟩
      rw [start, ← hh2]
      refine seq_nx ew (seq_nx eI ?_)
      by_cases hfull : h2 = part.length
      · have hle : part.length ≤ k + 1 := by have := (mm_spec (row := row) (part := part) (k + 1)).1.1; omega
        have hst := plc_step (row := row) (part := part) hle hk
        rw [← hh2, if_pos hfull] at hst
        have c1 : (h2 : Int) = (part.length : Int) := by omega
        have c2 : (k : Int) - (part.length : Int) + 1 = ((k + 1 - part.length : Nat) : Int) := by omega
        rw [hst]
        generalize plc row part k = P at *
        generalize hq : k + 1 - part.length = q at *
        simp [c1, isLst, seqOf, lstM, appendG, hfew, c2]
      · have c1 : ¬ (h2 : Int) = (part.length : Int) := by omega
        have hsame : plc row part (k + 1) = plc row part k := by
          by_cases hle : part.length ≤ k + 1
          · have hst := plc_step (row := row) (part := part) hle hk
            rw [← hh2, if_neg hfull] at hst
            simpa using hst
          · exact (plc_same hle).1
        rw [hsame]
        simp [c1]
  obtain ⟨ev', st', e, o5, o6, rfl, rfl⟩ := key
  simp only [zip_len, Nat.zero_add] at e
  have eE := enumV_t PyData.int row [some (.lst [])]
  have eT := tupleV_ref (f := fun j : Nat => PyData.int (j : Int)) (xs := plc row part row.length) (n := 0) (st := [some (.lst (natV (plc row part row.length)))]) rfl
  have eq0 := (gd_tup gd_int).eqV (by omega) part [] []
  simp only [List.map_nil] at eq0
  have hne : part ≠ [] := fun z => by rw [z] at hp; simp at hp
  have tn : mkT [] = .dat (.tuple []) := rfl
  refine ⟨[some (.lst (natV (plc row part row.length)))], ?_⟩
  generalize natV (plc row part row.length) = P at *
  simp [F_places_of, mkFn, c_places_of, mkEv, e0, tn, eq0, hne, e1, newL, dPar3, eE, e, eT, asRet]
omit hp hlp hbp in
theorem places_nil : F_places_of [.dat (.tuple (row.map .int)), .dat (.tuple [])] [] = .ok (.dat (.tuple ((List.range (row.length + 1)).map fun j : Nat => .int (j : Int)))) [] := by
  have e0 := callP_1 (st := []) (checkRow_ok hl hb)
  have eq0 := (gd_tup gd_int).eqV (by omega) [] [] []
  simp only [List.map_nil] at eq0
  have tn : mkT [] = .dat (.tuple []) := rfl
  have u : upto 1000000 ((row.length : Int) + 1) = true := upto_of (by omega) (by omega)
  have hr : rgT asT (.dat (.int ((row.length : Int) + 1))) [] = .ok (.dat (.tuple ((List.range (row.length + 1)).map fun j : Nat => .int (j : Int)))) [] := by
    have c : (0 : Int) ≤ (row.length : Int) + 1 := by omega
    have hm : mkT ((List.range (row.length + 1)).map fun j : Nat => Va.dat (.int (j : Int))) = .dat (.tuple ((List.range (row.length + 1)).map fun j : Nat => .int (j : Int))) := by
      rw [show ((List.range (row.length + 1)).map fun j : Nat => Va.dat (.int (j : Int))) = ((List.range (row.length + 1)).map fun j : Nat => PyData.int (j : Int)).map .dat by simp, mkT_map]
    have hi : intsR ((row.length : Int) + 1) = (List.range (row.length + 1)).map fun j : Nat => (j : Int) := by
      unfold intsR
      rw [show ((row.length : Int) + 1).toNat = row.length + 1 by omega]
    simp only [rgT, c, u, decide_true, Bool.and_self, if_true, hi, List.map_map, asT]
    rw [← hm]
    rfl
  simp [F_places_of, mkFn, c_places_of, mkEv, e0, tn, eq0, hr, asRet]
end
end Sk

/-! Sk, part 37: the head by facts. -/
namespace Sk
open PySem PySem.Spec PyProof.Rows L2 GxR
mutual
def kvB (K : PySem.W.Frag) : Va → Value → Bool
  | .dat (.int i), .int j _ => decide (i = j)
  | .dat (.str x), .str y _ => decide (x = y)
  | .seq true xs, .ref a => (match K.lookup a with
    | some ⟨.type c, _, .seq its _, _⟩ => decide (c = "tuple") && (decide (its.size ≤ 1000) && kvBs K xs its.toList)
    | _ => false)
  | _, _ => false
def kvBs (K : PySem.W.Frag) : List Va → List Value → Bool
  | [], [] => true
  | x :: xs, v :: vs => kvB K x v && kvBs K xs vs
  | _, _ => false
end
mutual
theorem kvB_ok {K : PySem.W.Frag} : ∀ {x : Va} {u : Value}, kvB K x u = true → ∃ v, RelV v u ∧ KV K v x
  | .dat (.int i), .int j t, h => by
    have e : i = j := by simpa [kvB] using h
    exact ⟨.int i, by rw [e]; exact ⟨t, rfl⟩, kv_int i⟩
  | .dat (.str i), .str j t, h => by
    have e : i = j := by simpa [kvB] using h
    exact ⟨.str i, by rw [e]; exact ⟨t, rfl⟩, kv_str i⟩
  | .seq true xs, .ref a, h => by
    simp only [kvB] at h
    split at h
    · rename_i c od its n os hk
      simp only [Bool.and_eq_true, decide_eq_true_eq] at h
      obtain ⟨rfl, h2, h3⟩ := h
      obtain ⟨vs, r, q⟩ := kvBs_ok h3
      refine ⟨.ref a, rfl, kv_tup hk rfl r ?_ q⟩
      simpa using h2
    · cases h
theorem kvBs_ok {K : PySem.W.Frag} : ∀ {xs : List Va} {us : List Value}, kvBs K xs us = true → ∃ vs, Vals vs us ∧ KVs K vs xs
  | [], [], _ => ⟨[], .nil, kvs_nil⟩
  | x :: xs, u :: us, h => by
    simp only [kvBs, Bool.and_eq_true] at h
    obtain ⟨v, r, q⟩ := kvB_ok h.1
    obtain ⟨vs, rs, qs⟩ := kvBs_ok h.2
    exact ⟨v :: vs, .cons r rs, kvs_cons q qs⟩
end
theorem kvB_ref {K : PySem.W.Frag} {x : Va} {a : Addr} (h : kvB K x (.ref a) = true) : KV K (.ref a) x := by
  obtain ⟨v, r, q⟩ := kvB_ok h
  cases v <;> first | (cases r; exact q) | (obtain ⟨_, r⟩ := r; cases r) | cases r
/-- a def's code object -/
theorem code_cT {K : PySem.W.Frag} {p : He.Defn} {x qual : Str} {params : Arguments} {body : List Stmt} {scope : Scope} {dvs : List V} {kws : List (Str × V)} {fd : FuncData} (F : FunD K x qual params body scope dvs kws (He.fAd K p) fd) : fd.code = .ref (He.cT K p).1 := by
  obtain ⟨oc, od, dV, kV, doc, pm, an, cdv, ct, osl, rfl, lk, hcd, _, _⟩ := F.ex
  obtain ⟨c, rfl⟩ := He.codeIn_ref hcd
  have := He.codeOf_eq lk rfl
  show Value.ref c = .ref (He.codeOf K p)
  rw [this]
end Sk

set_option maxHeartbeats 1000000
/-! Sk, part 38: grids: drawn, checked. -/
namespace Sk
open PySem PySem.Spec PyProof.Rows L2 GxR
def c__law_grid : CS :=
    (dSeq (dAsg (dTup (dCons (dBin addV (dC (.int 1)) (dCallO F__law_roll 2 (dCons (dVar 0) (dCons (dVar 1) dNil)))) (dCons (dBin addV (dC (.int 1)) (dCallO F__law_roll 2 (dCons (dVar 0) (dCons (dVar 1) dNil)))) dNil))) (gTp 2 (gsCons (gN 4) (gsCons (gN 5) gsNil))))
    (dRet (dCallB tupleV (dCons (dComp asF (dRange (dCons (dVar 4) dNil)) [7] (gN 7) dYes (dCallB tupleV (dCons (dComp asF (dRange (dCons (dVar 5) dNil)) [6] (gN 6) dYes (dBin addV (dVar 2) (dCallO F__law_roll 2 (dCons (dVar 0) (dCons (dBin subV (dVar 3) (dVar 2)) dNil))))) dNil))) dNil))))
def F__law_grid : Fn := mkFn 8 c__law_grid
def fb_is_grid1 : CS :=
    (dSeq (dIfS (dOrT (dNotT (dTest (dUn (isiV "tuple") (dVar 3)))) (dOrT (dNotT (dTest (dChain leV leV (dC (.int 1)) (dCallB lenV (dCons (dVar 3) dNil)) (dC (.int 40))))) (dTest (dBin neV (dCallB lenV (dCons (dVar 3) dNil)) (dCallB lenV (dCons (dBin ixV (dVar 0) (dC (.int 0))) dNil)))))) (dRet (dC (.bool false))) dSkip)
    (dIfS (dNotT (dTest (dGen eatAll (.dat (.bool true)) (dIter (dVar 3)) [4] (gN 4) (dCallP F_is_whole 3 (dCons (dVar 4) (dCons (dVar 1) (dCons (dVar 2) dNil))))))) (dRet (dC (.bool false))) dSkip))
def c_is_grid : CS :=
    (dSeq (dIfS (dOrT (dNotT (dTest (dUn (isiV "tuple") (dVar 0)))) (dNotT (dTest (dChain leV leV (dC (.int 1)) (dCallB lenV (dCons (dVar 0) dNil)) (dC (.int 40)))))) (dRet (dC (.bool false))) dSkip)
    (dSeq (dFor (dIter (dVar 0)) (gN 3) fb_is_grid1)
    (dRet (dC (.bool true)))))
def F_is_grid : Fn := mkFn 5 c_is_grid
def c_check_grid : CS :=
    (dIfS (dNotT (dTest (dCallP F_is_grid 3 (dCons (dVar 0) (dCons (dVar 1) (dCons (dVar 2) dNil)))))) (dRaise 1) dSkip)
def F_check_grid : Fn := mkFn 3 c_check_grid
/-! ### displays of data -/
section
variable (a b c d e : PyData)
@[simp] theorem mkT0 : mkT [] = .dat (.tuple []) := rfl
@[simp] theorem mkT1 : mkT [.dat a] = .dat (.tuple [a]) := rfl
@[simp] theorem mkT2 : mkT [.dat a, .dat b] = .dat (.tuple [a, b]) := rfl
@[simp] theorem mkT3 : mkT [.dat a, .dat b, .dat c] = .dat (.tuple [a, b, c]) := rfl
@[simp] theorem mkT4 : mkT [.dat a, .dat b, .dat c, .dat d] = .dat (.tuple [a, b, c, d]) := rfl
@[simp] theorem mkT5 : mkT [.dat a, .dat b, .dat c, .dat d, .dat e] = .dat (.tuple [a, b, c, d, e]) := rfl
@[simp] theorem mkL0 : mkL [] = .dat (.list []) := rfl
@[simp] theorem mkL1 : mkL [.dat a] = .dat (.list [a]) := rfl
@[simp] theorem mkL2 : mkL [.dat a, .dat b] = .dat (.list [a, b]) := rfl
@[simp] theorem mkL3 : mkL [.dat a, .dat b, .dat c] = .dat (.list [a, b, c]) := rfl
@[simp] theorem mkL4 : mkL [.dat a, .dat b, .dat c, .dat d] = .dat (.list [a, b, c, d]) := rfl
@[simp] theorem mkL5 : mkL [.dat a, .dat b, .dat c, .dat d, .dat e] = .dat (.list [a, b, c, d, e]) := rfl
end
/-! ### grids as data -/
def gridD (g : List (List Int)) : PyData := .tuple (g.map rowD)
theorem gd_row : Gd rowD 1 := gd_tup gd_int
theorem gd_grid : Gd gridD 2 := gd_tup gd_row
structure Rect (g : List (List Int)) (r c : Nat) : Prop where
  rows : g.length = r
  cols : ∀ row ∈ g, row.length = c
def Bnd (g : List (List Int)) (lo hi : Int) : Prop := ∀ row ∈ g, ∀ x ∈ row, lo ≤ x ∧ x ≤ hi
theorem Rect.at {g : List (List Int)} {r c i : Nat} (h : Rect g r c) (hi : i < r) : ∃ row, g[i]? = some row ∧ row.length = c := by
  have hl : i < g.length := by rw [h.rows]; exact hi
  exact ⟨g[i], List.getElem?_eq_getElem hl, h.cols _ (List.getElem_mem hl)⟩
/-! ### is_grid, check_grid -/
theorem grid_gen (row : List Int) (lo hi : Int) (o0 o3 : Option Va) : genL none (genTurn (gN 4) (dCallP F_is_whole 3 (dCons (dVar 4) (dCons (dVar 1) (dCons (dVar 2) dNil))))) eatAll (row.map fun i => .dat (.int i)) (.dat (.bool true)) [o0, some (.dat (.int lo)), some (.dat (.int hi)), o3, none] [] = .ok (.dat (.bool (row.all fun x => decide (lo ≤ x) && decide (x ≤ hi)))) [] :=
  genL_all fun a _ => by simp [genTurn, callP_3 (whole_i a lo hi)]
theorem isGrid_eq {g : List (List Int)} {r c : Nat} {lo hi : Int} (hr : Rect g r c) (r1 : 1 ≤ r) (r2 : r ≤ 40) (c1 : 1 ≤ c) (c2 : c ≤ 40) : F_is_grid [.dat (gridD g), .dat (.int lo), .dat (.int hi)] [] = .ok (.dat (.bool (g.all fun row => row.all fun x => decide (lo ≤ x) && decide (x ≤ hi)))) [] := by
  obtain ⟨row0, e0, l0⟩ := hr.at (i := 0) (by omega)
  have i0 := fun st => ixV_t (f := rowD) (st := st) (atI_pos e0 rfl)
  have t0 : isiV "tuple" (.dat (gridD g)) [] = .ok (.dat (.bool true)) [] := rfl
  have tr : ∀ row, isiV "tuple" (.dat (rowD row)) [] = .ok (.dat (.bool true)) [] := fun _ => rfl
  have ln : lenV [.dat (gridD g)] [] = .ok (.dat (.int r)) [] := by simp [gridD, hr.rows]
  have lr : ∀ row ∈ g, lenV [.dat (rowD row)] [] = .ok (.dat (.int c)) [] := fun row h => by simp [rowD, hr.cols row h]
  have l00 := lr row0 (List.mem_of_getElem? e0)
  have cc1 : (1 : Int) ≤ c := by omega
  have cc2 : (c : Int) ≤ 40 := by omega
  have rr1 : (1 : Int) ≤ r := by omega
  have rr2 : (r : Int) ≤ 40 := by omega
  have key : ∀ (xs : List (List Int)) (o3 : Option Va), (∀ row ∈ xs, row ∈ g) → (∃ o, (xs.all fun row => row.all fun x => decide (lo ≤ x) && decide (x ≤ hi)) = true ∧ forS none (dTurn (gN 3) fb_is_grid1) (xs.map fun row => .dat (rowD row)) [some (.dat (gridD g)), some (.dat (.int lo)), some (.dat (.int hi)), o3, none] [] = .ok (.nx [some (.dat (gridD g)), some (.dat (.int lo)), some (.dat (.int hi)), o, none]) []) ∨
      ((xs.all fun row => row.all fun x => decide (lo ≤ x) && decide (x ≤ hi)) = false ∧ forS none (dTurn (gN 3) fb_is_grid1) (xs.map fun row => .dat (rowD row)) [some (.dat (gridD g)), some (.dat (.int lo)), some (.dat (.int hi)), o3, none] [] = .ok (.rt (.dat (.bool false))) []) := by
    intro xs
    induction xs with
    | nil => intro o3 _; exact .inl ⟨o3, rfl, by simp [forS]⟩
    | cons row xs ih =>
      intro o3 hm
      have lrow := lr row (hm row (by simp))
      have hgen := grid_gen row lo hi (some (.dat (gridD g))) (some (.dat (rowD row)))
      have turn : dTurn (gN 3) fb_is_grid1 (.dat (rowD row)) [some (.dat (gridD g)), some (.dat (.int lo)), some (.dat (.int hi)), o3, none] [] = if (row.all fun x => decide (lo ≤ x) && decide (x ≤ hi)) = true then .ok (.nx [some (.dat (gridD g)), some (.dat (.int lo)), some (.dat (.int hi)), some (.dat (rowD row)), none]) [] else .ok (.rt (.dat (.bool false))) [] := by
        have it : itemsV (.dat (rowD row)) [] = .ok (row.map fun i => .dat (.int i), none) [] := by simp [rowD]
        have i0' : ∀ st, ixV (.dat (gridD g)) (.dat (.int 0)) st = .ok (.dat (rowD row0)) st := i0
        have tr0 := tr row
        generalize (row.all fun x => decide (lo ≤ x) && decide (x ≤ hi)) = B at *
        generalize gridD g = G at *
        generalize rowD row = R at *
        generalize rowD row0 = R0 at *
        simp [fb_is_grid1, tr0, i0', lrow, l00, cc1, cc2, it, wipeE, hgen]
        cases B <;> simp
      rcases Bool.eq_false_or_eq_true (row.all fun x => decide (lo ≤ x) && decide (x ≤ hi)) with ht | ht
      · rcases ih (some (.dat (rowD row))) (fun z hz => hm z (List.mem_cons_of_mem _ hz)) with ⟨o, a, e⟩ | ⟨a, e⟩
        · refine .inl ⟨o, by simp only [List.all_cons, ht, a, Bool.and_self], ?_⟩
          simp only [List.map_cons, forS, lkOk_none, if_true, turn, ht, e]
        · refine .inr ⟨by simp only [List.all_cons, ht, a, Bool.and_false], ?_⟩
          simp only [List.map_cons, forS, lkOk_none, if_true, turn, ht, e]
      · refine .inr ⟨by simp only [List.all_cons, ht, Bool.false_and], ?_⟩
        simp only [List.map_cons, forS, lkOk_none, if_true, turn, ht, Bool.false_eq_true, if_false]
  have it : itemsV (.dat (gridD g)) [] = .ok (g.map fun row => .dat (rowD row), none) [] := by simp [gridD]
  rcases key g none (fun _ h => h) with ⟨o, a, e⟩ | ⟨a, e⟩
  · rw [a]
    generalize gridD g = G at *
    simp [F_is_grid, mkFn, c_is_grid, mkEv, t0, ln, rr1, rr2, it, e, asRet]
  · rw [a]
    generalize gridD g = G at *
    simp [F_is_grid, mkFn, c_is_grid, mkEv, t0, ln, rr1, rr2, it, e, asRet]
theorem all_bnd {g : List (List Int)} {lo hi : Int} : (g.all fun row => row.all fun x => decide (lo ≤ x) && decide (x ≤ hi)) = true ↔ Bnd g lo hi := by
  simp [Bnd]
theorem checkGrid_ok {g : List (List Int)} {r c : Nat} {lo hi : Int} (hr : Rect g r c) (r1 : 1 ≤ r) (r2 : r ≤ 40) (c1 : 1 ≤ c) (c2 : c ≤ 40) (hb : Bnd g lo hi) : F_check_grid [.dat (gridD g), .dat (.int lo), .dat (.int hi)] [] = .ok (.dat .none) [] := by
  have e := callP_3 (st := []) (isGrid_eq (lo := lo) (hi := hi) hr r1 r2 c1 c2)
  rw [all_bnd.mpr hb] at e
  generalize gridD g = G at *
  simp [F_check_grid, mkFn, c_check_grid, mkEv, e, asRet]
/-! ### drawn grids -/
theorem grid_draw {D n : Nat} {st : Sto} (h : Dic D st) (hn : n < D) {most : Nat} {lo hi : Int} (m1 : 1 ≤ most) (m2 : most ≤ 40) (hlh : lo < hi) (hb : hi - lo ≤ 1000000000) : ∃ (g : List (List Int)) (r c : Nat) (st' : Sto), callO F__law_grid 4 [.ref n, .dat (.int most), .dat (.int lo), .dat (.int hi)] st = .ok (.dat (gridD g)) st' ∧ 1 ≤ r ∧ r ≤ most ∧ 1 ≤ c ∧ c ≤ most ∧ Rect g r c ∧ Bnd g lo (hi - 1) ∧ Dic D st' ∧ Kp D st st' := by
  obtain ⟨r, st1, p1, p2, e1, d1, k1⟩ := roll_dic (m := most) h hn (by omega) (by omega)
  obtain ⟨c, st2, q1, q2, e2, d2, k2⟩ := roll_dic (m := most) d1 hn (by omega) (by omega)
  obtain ⟨rn, hrn⟩ : ∃ rn : Nat, 1 + r = (rn : Int) := ⟨(1 + r).toNat, by omega⟩
  obtain ⟨cn, hcn⟩ : ∃ cn : Nat, 1 + c = (cn : Int) := ⟨(1 + c).toNat, by omega⟩
  have hrc := rangeV_1 (n := cn) (st := st2) (by omega)
  have hrr := fun st => rangeV_1 (n := rn) (st := st) (by omega)
  have hfc : few cn = true := few_lit (by omega)
  have hfr : few rn = true := few_lit (by omega)
  have inner : ∀ (o : Option Va) (s : Sto), Dic D s ∧ Kp D st2 s → ∃ (ys : List Int) (s' : Sto), compL none (Sk.compTurn (gN 6) dYes (dBin addV (dVar 2) (dCallO F__law_roll 2 (dCons (dVar 0) (dCons (dBin subV (dVar 3) (dVar 2)) dNil))))) ((List.range cn).map fun i : Nat => Va.dat (.int (i : Int))) [some (.ref n), some (.dat (.int most)), some (.dat (.int lo)), some (.dat (.int hi)), some (.dat (.int rn)), some (.dat (.int cn)), none, o] s = .ok (ys.map fun i : Int => Va.dat (.int i)) s' ∧ ys.length = cn ∧ (∀ y ∈ ys, lo ≤ y ∧ y ≤ hi - 1) ∧ Dic D s' ∧ Kp D st2 s' := fun o s hs => by
    obtain ⟨ys, s', a, b, c, d⟩ := compL_draw (f := Sk.compTurn (gN 6) dYes (dBin addV (dVar 2) (dCallO F__law_roll 2 (dCons (dVar 0) (dCons (dBin subV (dVar 3) (dVar 2)) dNil))))) (ev := [some (.ref n), some (.dat (.int most)), some (.dat (.int lo)), some (.dat (.int hi)), some (.dat (.int rn)), some (.dat (.int cn)), none, o]) (h := fun i : Nat => Va.dat (.int (i : Int))) (G := fun i : Int => Va.dat (.int i)) (P := fun s => Dic D s ∧ Kp D st2 s)
      (R := fun i => lo ≤ i ∧ i ≤ hi - 1) (xs := List.range cn) (st := s) (fun a _ s hs => by
        obtain ⟨z, s', z1, z2, ez, dz, kz⟩ := roll_dic (m := hi - lo) hs.1 hn (by omega) (by omega)
        refine ⟨lo + z, s', ?_, ⟨dz, hs.2.trans kz⟩, by omega, by omega⟩
        simp [Sk.compTurn, ez]) hs
    exact ⟨ys, s', a, by simpa using b, c, d⟩
  obtain ⟨ys, st3, e3, l3, r3, d3, k3⟩ := compL_draw (f := Sk.compTurn (gN 7) dYes (dCallB tupleV (dCons (dComp asF (dRange (dCons (dVar 5) dNil)) [6] (gN 6) dYes (dBin addV (dVar 2) (dCallO F__law_roll 2 (dCons (dVar 0) (dCons (dBin subV (dVar 3) (dVar 2)) dNil))))) dNil))) (ev := [some (.ref n), some (.dat (.int most)), some (.dat (.int lo)), some (.dat (.int hi)), some (.dat (.int rn)), some (.dat (.int cn)), none, none]) (h := fun i : Nat => Va.dat (.int (i : Int))) (G := fun row : List Int => Va.dat (rowD row)) (P := fun s => Dic D s ∧ Kp D st2 s)
    (R := fun row => row.length = cn ∧ ∀ x ∈ row, lo ≤ x ∧ x ≤ hi - 1) (xs := List.range rn) (st := st2) (fun a _ s hs => by
      obtain ⟨ys, s', ey, ly, ry, dy⟩ := inner (some (.dat (.int (a : Int)))) s hs
      have hmk : mkL (ys.map fun i : Int => Va.dat (.int i)) = .dat (.list (ys.map .int)) := mkL_fun _ _
      have hr2 := rangeV_1 (n := cn) (st := s) (by omega)
      refine ⟨ys, s', ?_, dy, ly, ry⟩
      simp [Sk.compTurn, hr2, hfc, wipeE, ey, asF, hmk, rowD]) ⟨d2, Kp.refl _ _⟩
  refine ⟨ys, rn, cn, st3, ?_, by omega, by omega, by omega, by omega, ⟨by simpa using l3, fun row h => (r3 row h).1⟩, fun row h => (r3 row h).2, d3, (k1.trans k2).trans k3⟩
  have hmk : mkL (ys.map fun row : List Int => Va.dat (rowD row)) = .dat (.list (ys.map rowD)) := mkL_fun _ _
  refine (callO_eq (n := 4) rfl).trans ?_
  have e1' : callO F__law_roll 2 [.ref n, .dat (.int most)] st = .ok (.dat (.int r)) st1 := e1
  have e2' : callO F__law_roll 2 [.ref n, .dat (.int most)] st1 = .ok (.dat (.int c)) st2 := e2
  simp [F__law_grid, mkFn, c__law_grid, mkEv, e1', e2', hrn, hcn, hrr, hfr, wipeE, e3, asF, hmk, asRet, gridD]
end Sk

set_option maxHeartbeats 1000000
/-! Sk, part 39: the table of sums. -/
namespace Sk
open PySem PySem.Spec PyProof.Rows L2 GxR
def fb_sum_table1 : CS :=
    (dSeq (dAug 4 addI (dVar 6))
    (dDo (dMt (lstM appendG) (dVar 3) (dCons (dBin addV (dBin ixV (dBin ixV (dVar 1) (dUn negV (dC (.int 1)))) (dBin addV (dVar 5) (dC (.int 1)))) (dVar 4)) dNil))))
def fb_sum_table2 : CS :=
    (dSeq (dPar 3 4 (dCons (dLstM (dCons (dC (.int 0)) dNil)) (dCons (dC (.int 0)) dNil)))
    (dSeq (dFor (dEnum (dCons (dVar 2) dNil)) (gTp 2 (gsCons (gN 5) (gsCons (gN 6) gsNil))) fb_sum_table1)
    (dDo (dMt (lstM appendG) (dVar 1) (dCons (dVar 3) dNil)))))
def c_sum_table : CS :=
    (dSeq (dDo (dCallP F_check_grid 3 (dCons (dVar 0) (dCons (dUn negV (dC (.int 1000000))) (dCons (dC (.int 1000000)) dNil)))))
    (dSeq (dAsg (dLstM (dCons (dBin (mulY asF) (dLst (dCons (dC (.int 0)) dNil)) (dBin addV (dCallB lenV (dCons (dBin ixV (dVar 0) (dC (.int 0))) dNil)) (dC (.int 1)))) dNil)) (gN 1))
    (dSeq (dFor (dIter (dVar 0)) (gN 2) fb_sum_table2)
    (dRet (dCallB tupleV (dCons (dComp asF (dIter (dVar 1)) [3] (gN 3) dYes (dCallB tupleV (dCons (dVar 3) dNil))) dNil))))))
def F_sum_table : Fn := mkFn 7 c_sum_table
def c_window_sum : CS :=
    (dSeq (dAsg (dVar 1) (gTp 4 (gsCons (gN 2) (gsCons (gN 3) (gsCons (gN 4) (gsCons (gN 5) gsNil))))))
    (dRet (dBin addV (dBin subV (dBin subV (dBin ixV (dBin ixV (dVar 0) (dVar 4)) (dVar 5)) (dBin ixV (dBin ixV (dVar 0) (dVar 2)) (dVar 5))) (dBin ixV (dBin ixV (dVar 0) (dVar 4)) (dVar 3))) (dBin ixV (dBin ixV (dVar 0) (dVar 2)) (dVar 3)))))
def F_window_sum : Fn := mkFn 6 c_window_sum
theorem callP_ref {F : Fn} {n m : Nat} {xs ys : List Va} {ds : List PyData} {st s2 : Sto} (hn : xs.length = n) (ho : mapO (outV 8 st) xs = some ys) (hp : pureVs xs = true) (hF : F ys [] = .ok (.ref m) s2) (hr : s2[m]? = some (some (.lst (ds.map .dat)))) : callP F n xs st = .ok (.dat (.list ds)) st := by
  simp [callP, hn, ho, afterP, hF, outV_ref hr, hp]
theorem compL_keep {α : Type} {l : Lk} {f : Va → Ev → Sto → Rs (Option Va)} {h G : α → Va} {ev : Ev} {st : Sto} (hl : lkOk l st = true) : ∀ {xs : List α}, (∀ a ∈ xs, f (h a) ev st = .ok (some (G a)) st) → compL l f (xs.map h) ev st = .ok (xs.map G) st
  | [], _ => by simp [compL, hl]
  | a :: r, hf => by
    have e1 := hf a (by simp)
    have e2 := compL_keep hl (xs := r) fun b hb => hf b (List.mem_cons_of_mem _ hb)
    simp only [List.map_cons, compL, hl, if_true, e1, Rs.bind_ok, e2, consO]
theorem itemsV_r {st : Sto} {n : Nat} {xs : List Va} (h : st[n]? = some (some (.lst xs))) : itemsV (.ref n) st = .ok (xs, some (n, xs)) st ∧ lkOk (some (n, xs)) st = true := by
  refine ⟨?_, by simp [lkOk, h]⟩
  simp only [itemsV, seqOf_ref h, lockOf]
theorem many_one (x : Va) : ∀ n, manyL n [x] = List.replicate n x
  | 0 => rfl
  | n + 1 => by
    have := many_one x n
    unfold manyL at this ⊢
    rw [List.replicate_succ, List.flatten_cons, this]
    rfl
theorem mulY_one {d : PyData} {n : Nat} (h : n ≤ 1000000) {st : Sto} : mulY asF (.dat (.list [d])) (.dat (.int (n : Int))) st = .ok (.dat (.list (List.replicate n d))) st := by
  have u : upto 1000000 (n : Int) = true := upto_of (by omega) (by omega)
  have hf : few n = true := few_lit (by omega)
  have e : mkL (List.replicate n (Va.dat d)) = .dat (.list (List.replicate n d)) := by
    rw [← List.map_replicate (f := Va.dat), mkL_map]
  simp [mulY, mulS, u, hf, many_one, asF, e]
/-! ### sums ahead -/
def ps (row : List Int) (j : Nat) : Int := (row.take j).sum
def tb (g : List (List Int)) (i j : Nat) : Int := ((g.take i).map (ps · j)).sum
def wsum (g : List (List Int)) (t l b q : Nat) : Int := (((g.drop t).take (b - t)).map fun row => ((row.drop l).take (q - l)).sum).sum
def stab (g : List (List Int)) (r c : Nat) : List (List Int) := (List.range (r + 1)).map fun i => (List.range (c + 1)).map (tb g i)
theorem take_split {α : Type} (xs : List α) {a b : Nat} (h : a ≤ b) : xs.take b = xs.take a ++ (xs.drop a).take (b - a) := by
  obtain ⟨d, rfl⟩ : ∃ d, b = a + d := ⟨b - a, by omega⟩
  rw [List.take_add, show a + d - a = d by omega]
theorem ps_diff (row : List Int) {l q : Nat} (h : l ≤ q) : ps row q - ps row l = ((row.drop l).take (q - l)).sum := by
  unfold ps
  rw [take_split row h, List.sum_append]
  omega
theorem sum_sub {α : Type} (f g : α → Int) (xs : List α) : (xs.map f).sum - (xs.map g).sum = (xs.map fun a => f a - g a).sum := by
  induction xs with
  | nil => rfl
  | cons a r ih => simp only [List.map_cons, List.sum_cons]; omega
theorem tb_diff (g : List (List Int)) {t b : Nat} (h : t ≤ b) (j : Nat) : tb g b j - tb g t j = (((g.drop t).take (b - t)).map (ps · j)).sum := by
  unfold tb
  rw [take_split g h, List.map_append, List.sum_append]
  omega
theorem tb_win (g : List (List Int)) {t l b q : Nat} (h1 : t ≤ b) (h2 : l ≤ q) : tb g b q - tb g t q - tb g b l + tb g t l = wsum g t l b q := by
  have a1 := tb_diff g h1 q
  have a2 := tb_diff g h1 l
  have a3 := sum_sub (ps · q) (ps · l) ((g.drop t).take (b - t))
  have : (((g.drop t).take (b - t)).map fun row => ps row q - ps row l) = ((g.drop t).take (b - t)).map fun row => ((row.drop l).take (q - l)).sum := List.map_congr_left fun row _ => ps_diff row h2
  rw [this] at a3
  unfold wsum
  omega
theorem tb_row {g : List (List Int)} {i : Nat} {row : List Int} (h : g[i]? = some row) (j : Nat) : tb g (i + 1) j = tb g i j + ps row j := by
  have e : (g.take (i + 1)) = g.take i ++ [row] := by rw [List.take_succ, h]; rfl
  unfold tb
  rw [e, List.map_append, List.sum_append]
  simp
theorem tb_col0 (g : List (List Int)) (i : Nat) : tb g i 0 = 0 := by
  unfold tb
  induction g.take i with
  | nil => rfl
  | cons a r ih => simp [ps] at ih ⊢; exact ih
theorem tb_row0 (g : List (List Int)) (j : Nat) : tb g 0 j = 0 := rfl
theorem ps_succ {row : List Int} {j : Nat} {x : Int} (h : row[j]? = some x) : ps row (j + 1) = ps row j + x := by
  unfold ps
  rw [List.take_succ, h]
  simp
/-! ### sum_table -/
def tblV (k : Nat) (c : Nat) : List Va := (List.range (k + 1)).map fun j => if j = 0 then .dat (.list ((List.range (c + 1)).map fun _ => .int 0)) else .ref j
def lnV (g : List (List Int)) (i c : Nat) : List Va := ((List.range (c + 1)).map (tb g i)).map fun x : Int => .dat (.int x)
section
variable {g : List (List Int)} {r c : Nat}
theorem tblV_len (k c : Nat) : (tblV k c).length = k + 1 := by simp [tblV]
theorem tblV_last (k c : Nat) : L2.atI (tblV k c) (-1) = some (if k = 0 then .dat (.list ((List.range (c + 1)).map fun _ => .int 0)) else .ref k) :=
  atI_neg (n := k) (by unfold tblV; rw [List.getElem?_map, List.getElem?_range (by omega)]; rfl) (by rw [tblV_len]; omega) (by omega)
theorem tblV_succ (k c : Nat) : tblV k c ++ [.ref (k + 1)] = tblV (k + 1) c := by
  unfold tblV
  rw [List.range_succ (n := k + 1), List.map_append]
  rfl
/-- the store after k rows -/
def StT (g : List (List Int)) (c k : Nat) (st : Sto) : Prop := k + 1 ≤ st.length ∧ st[0]? = some (some (.lst (tblV k c))) ∧ ∀ i, 1 ≤ i → i ≤ k → st[i]? = some (some (.lst (lnV g i c)))
theorem StT.read {k j : Nat} {st : Sto} (h : StT g c k st) (hj : j ≤ c) : ∃ x, ixV (.ref 0) (.dat (.int (-1))) st = .ok x st ∧ ixV x (.dat (.int (j : Int))) st = .ok (.dat (.int (tb g k j))) st := by
  refine ⟨_, ixV_r h.2.1 (tblV_last k c), ?_⟩
  by_cases hk : k = 0
  · subst hk
    rw [if_pos rfl, tb_row0]
    exact ixV_l (f := fun _ : Nat => PyData.int 0) (atI_pos (n := j) (List.getElem?_range (by omega)) rfl)
  · rw [if_neg hk]
    refine ixV_r (h.2.2 k (by omega) (by omega)) (atI_pos (n := j) ?_ rfl)
    unfold lnV
    rw [List.getElem?_map, List.getElem?_map, List.getElem?_range (by omega)]
    rfl
theorem StT.push {k : Nat} {st : Sto} (h : StT g c k st) (o : Option Ob) : StT g c k (st ++ [o]) := ⟨by have := h.1; simp; omega, by rw [List.getElem?_append_left (by have := h.1; omega)]; exact h.2.1, fun i h1 h2 => by rw [List.getElem?_append_left (by have := h.1; omega)]; exact h.2.2 i h1 h2⟩
theorem lnV_succ (g : List (List Int)) (i j : Nat) : lnV g i j ++ [.dat (.int (tb g i (j + 1)))] = lnV g i (j + 1) := by
  unfold lnV
  rw [List.range_succ (n := j + 1), List.map_append, List.map_append]
  rfl
theorem lnV_len (g : List (List Int)) (i j : Nat) : (lnV g i j).length = j + 1 := by simp [lnV]
theorem sumTable_row {k : Nat} {st0 : Sto} {G : Va} {row : List Int} {o3 o4 o5 o6 : Option Va} (hs : StT g c k st0) (hl : st0.length = k + 1) (hg : g[k]? = some row) (hr : row.length = c) (hc : c ≤ 40) (hk : k ≤ 40) :
    ∃ (q5 q6 : Option Va) (st : Sto), fb_sum_table2 [some G, some (.ref 0), some (.dat (rowD row)), o3, o4, o5, o6] st0 = .ok (.nx [some G, some (.ref 0), some (.dat (rowD row)), some (.ref (k + 1)), some (.dat (.int (ps row c))), q5, q6]) st ∧ st.length = k + 2 ∧ StT g c (k + 1) st := by
  have key := forS_inv (b := dTurn (gTp 2 (gsCons (gN 5) (gsCons (gN 6) gsNil))) fb_sum_table1) (h := fun p : Nat × Int => Va.dat (.tuple [.int (p.1 : Int), .int p.2]))
    (fun j ev st => ∃ o5 o6, ev = [some G, some (.ref 0), some (.dat (rowD row)), some (.ref (k + 1)), some (.dat (.int (ps row j))), o5, o6] ∧ st = st0 ++ [some (.lst (lnV g (k + 1) j))])
    (xs := (List.range row.length).zip row) (k := 0) (ev := [some G, some (.ref 0), some (.dat (rowD row)), some (.ref (k + 1)), some (.dat (.int 0)), o5, o6]) (st := st0 ++ [some (.lst [.dat (.int 0)])])
    ⟨o5, o6, rfl, by
      have : lnV g (k + 1) 0 = [.dat (.int 0)] := by
        have := tb_col0 g (k + 1)
        simp [lnV, this]
      rw [this]⟩ fun i p ev st hp hI => by
      obtain ⟨o5, o6, rfl, rfl⟩ := hI
      obtain ⟨z1, z2⟩ := zip_at hp
      obtain ⟨j, x⟩ := p
      simp only at z1 z2
      subst z1
      simp only [Nat.zero_add]
      have hj : j < row.length := (List.getElem?_eq_some_iff.mp z2).1
      have hrd := (hs.push (some (.lst (lnV g (k + 1) j)))).read (j := j + 1) (by omega)
      obtain ⟨y, r1, r2⟩ := hrd
      have hat : (st0 ++ [some (Ob.lst (lnV g (k + 1) j))])[k + 1]? = some (some (.lst (lnV g (k + 1) j))) := by
        rw [List.getElem?_append_right (by omega)]
        simp [hl]
      have hap := append_at hat (by rw [lnV_len]; omega) (.dat (.int (tb g (k + 1) (j + 1))))
      have hil := isLst_at hat
      have hset : (st0 ++ [some (Ob.lst (lnV g (k + 1) j))]).set (k + 1) (some (.lst (lnV g (k + 1) j ++ [.dat (.int (tb g (k + 1) (j + 1)))]))) = st0 ++ [some (.lst (lnV g (k + 1) (j + 1)))] := by
        rw [lnV_succ, List.set_append_right _ _ (by omega)]
        simp [hl]
      rw [hset] at hap
      have hsum : tb g k (j + 1) + ps row (j + 1) = tb g (k + 1) (j + 1) := (tb_row hg (j + 1)).symm
      have hps := (ps_succ z2).symm
      refine ⟨_, _, .inl ?_, some (.dat (.int (j : Int))), some (.dat (.int x)), rfl, rfl⟩
      generalize st0 ++ [some (.lst (lnV g (k + 1) (j + 1)))] = S1 at *
      generalize st0 ++ [some (.lst (lnV g (k + 1) j))] = S0 at *
      obtain ⟨j1, hj1⟩ : ∃ j1, j1 = j + 1 := ⟨_, rfl⟩
      rw [← hj1] at r2 hsum hps hap
      rw [← hj1]
      have hc1 : ((j : Int) + 1) = (j1 : Int) := by omega
      have hneg : ∀ st, negV (.dat (.int 1)) st = .ok (.dat (.int (-1))) st := fun _ => rfl
      simp [fb_sum_table1, hps, hneg, r1, hc1, r2, hsum, hil, hap]
  obtain ⟨ev', st', e, o5', o6', rfl, rfl⟩ := key
  rw [zip_len, Nat.zero_add, hr] at e
  have eE := fun st => enumV_t PyData.int row st
  simp only [hr] at eE
  have hs2 := hs.push (some (.lst (lnV g (k + 1) c)))
  have hil := isLst_at hs2.2.1
  have hap := append_at hs2.2.1 (by rw [tblV_len]; omega) (.ref (k + 1))
  rw [tblV_succ] at hap
  refine ⟨o5', o6', (st0 ++ [some (Ob.lst (lnV g (k + 1) c))]).set 0 (some (Ob.lst (tblV (k + 1) c))), ?_, ?_, ?_⟩
  · have hl2 := hl
    generalize (st0 ++ [some (Ob.lst (lnV g (k + 1) c))]).set 0 (some (Ob.lst (tblV (k + 1) c))) = S2 at *
    generalize st0 ++ [some (Ob.lst (lnV g (k + 1) c))] = S1 at *
    have eE' : enumV [.dat (rowD row)] (st0 ++ [some (.lst [.dat (.int 0)])]) = _ := eE _
    generalize rowD row = R at *
    simp [fb_sum_table2, newL, hl2, eE', e, hil, hap]
  · simp [hl]
  · refine ⟨by simp [hl], by simp, fun i h1 h2 => ?_⟩
    rw [List.getElem?_set_ne (by omega)]
    by_cases hi : i = k + 1
    · subst hi
      rw [List.getElem?_append_right (by omega)]
      simp [hl]
    · rw [List.getElem?_append_left (by omega)]
      exact hs.2.2 i h1 (by omega)
theorem sumTable_eq (hr : Rect g r c) (r1 : 1 ≤ r) (r2 : r ≤ 40) (c1 : 1 ≤ c) (c2 : c ≤ 40) (hb : Bnd g (-1000000) 1000000) : ∃ st, F_sum_table [.dat (gridD g)] [] = .ok (.dat (gridD (stab g r c))) st := by
  have e0 := callP_3 (st := []) (checkGrid_ok hr r1 r2 c1 c2 hb)
  obtain ⟨row0, e1, l1⟩ := hr.at (i := 0) (by omega)
  have i0 : ∀ st, ixV (.dat (gridD g)) (.dat (.int 0)) st = .ok (.dat (rowD row0)) st := fun st => ixV_t (f := rowD) (st := st) (atI_pos e1 rfl)
  have l0 : ∀ st, lenV [.dat (rowD row0)] st = .ok (.dat (.int c)) st := fun st => by simp [rowD, l1]
  have it : ∀ st, itemsV (.dat (gridD g)) st = .ok (g.map fun row => .dat (rowD row), none) st := fun st => by simp [gridD]
  have hmul : ∀ st, mulY asF (.dat (.list [.int 0])) (.dat (.int ((c : Int) + 1))) st = .ok (.dat (.list ((List.range (c + 1)).map fun _ => .int 0))) st := fun st => by
    have := mulY_one (d := .int 0) (n := c + 1) (st := st) (by omega)
    rw [show ((c + 1 : Nat) : Int) = (c : Int) + 1 by omega] at this
    rw [this, List.map_const', List.length_range]
  have hneg : ∀ st, negV (.dat (.int 1000000)) st = .ok (.dat (.int (-1000000))) st := fun _ => rfl
  have key := forS_inv (b := dTurn (gN 2) fb_sum_table2) (h := fun row : List Int => Va.dat (rowD row))
    (fun k ev st => ∃ o2 o3 o4 o5 o6, ev = [some (.dat (gridD g)), some (.ref 0), o2, o3, o4, o5, o6] ∧ st.length = k + 1 ∧ StT g c k st)
    (xs := g) (k := 0) (ev := [some (.dat (gridD g)), some (.ref 0), none, none, none, none, none]) (st := [some (.lst [.dat (.list ((List.range (c + 1)).map fun _ => .int 0))])])
    ⟨none, none, none, none, none, rfl, rfl, by simp, rfl, fun i h1 h2 => by omega⟩ fun i row ev st hrow hI => by
      obtain ⟨o2, o3, o4, o5, o6, rfl, hl, hs⟩ := hI
      simp only [Nat.zero_add] at hl hs ⊢
      have hil := (List.getElem?_eq_some_iff.mp hrow).1
      have hrr := hr.rows
      obtain ⟨o5', o6', st', e, hl', hs'⟩ := sumTable_row (G := .dat (gridD g)) (o3 := o3) (o4 := o4) (o5 := o5) (o6 := o6) hs hl hrow (hr.cols row (List.mem_of_getElem? hrow)) c2 (by omega)
      exact ⟨_, st', .inl (by simpa using e), _, _, _, _, _, rfl, hl', hs'⟩
  obtain ⟨ev', st', e, o2, o3, o4, o5, o6, rfl, hl, hs⟩ := key
  simp only [Nat.zero_add, hr.rows] at e hl hs
  have itT := itemsV_r hs.2.1
  have eC : compL (some (0, tblV r c)) (Sk.compTurn (gN 3) dYes (dCallB tupleV (dCons (dVar 3) dNil))) (tblV r c) [some (.dat (gridD g)), some (.ref 0), o2, none, o4, o5, o6] st' = .ok ((List.range (r + 1)).map fun i => .dat (rowD ((List.range (c + 1)).map (tb g i)))) st' := by
    unfold tblV
    refine compL_keep (h := fun j => if j = 0 then Va.dat (.list ((List.range (c + 1)).map fun _ => .int 0)) else .ref j) itT.2 fun j hj => ?_
    have hj : j < r + 1 := by simpa using hj
    by_cases h0 : j = 0
    · subst h0
      have : ((List.range (c + 1)).map fun _ => PyData.int 0) = ((List.range (c + 1)).map (tb g 0)).map .int := by
        rw [List.map_map]
        exact List.map_congr_left fun _ _ => rfl
      simp [Sk.compTurn, rowD]
      simpa using this
    · have := tupleV_ref (f := PyData.int) (hs.2.2 j (by omega) (by omega))
      simp [Sk.compTurn, h0, this, rowD]
  have itT' := itT.1
  have hfw : few (tblV r c).length = true := few_lit (by rw [tblV_len]; omega)
  have hmk := mkL_fun (fun i => rowD ((List.range (c + 1)).map (tb g i))) (List.range (r + 1))
  refine ⟨st', ?_⟩
  have hG : gridD (stab g r c) = .tuple ((List.range (r + 1)).map fun i => rowD ((List.range (c + 1)).map (tb g i))) := by
    simp only [gridD, stab, List.map_map, Function.comp_def]
  rw [hG]
  generalize tblV r c = T at *
  generalize gridD g = G at *
  simp [F_sum_table, mkFn, c_sum_table, mkEv, newL, hneg, e0, i0, l0, hmul, it, e, itT', hfw, wipeE, eC, asF, hmk, asRet]
/-! ### window_sum -/
theorem stab_at {i : Nat} (hi : i ≤ r) (st : Sto) : ixV (.dat (gridD (stab g r c))) (.dat (.int (i : Int))) st = .ok (.dat (rowD ((List.range (c + 1)).map (tb g i)))) st :=
  ixV_t (f := rowD) (atI_pos (n := i) (by unfold stab; rw [List.getElem?_map, List.getElem?_range (by omega)]; rfl) rfl)
theorem stab_at2 {i j : Nat} (hj : j ≤ c) (st : Sto) : ixV (.dat (rowD ((List.range (c + 1)).map (tb g i)))) (.dat (.int (j : Int))) st = .ok (.dat (.int (tb g i j))) st :=
  ixV_t (f := PyData.int) (atI_pos (n := j) (by rw [List.getElem?_map, List.getElem?_range (by omega)]; rfl) rfl)
theorem windowSum_eq {t l b q : Nat} (h1 : t ≤ b) (h2 : b ≤ r) (h3 : l ≤ q) (h4 : q ≤ c) : F_window_sum [.dat (gridD (stab g r c)), .dat (.tuple [.int t, .int l, .int b, .int q])] [] = .ok (.dat (.int (wsum g t l b q))) [] := by
  have a1 := stab_at (g := g) (c := c) (i := t) (r := r) (by omega)
  have a2 := stab_at (g := g) (c := c) (i := b) (r := r) (by omega)
  have b1 := stab_at2 (g := g) (c := c) (i := t) (j := l) (by omega)
  have b2 := stab_at2 (g := g) (c := c) (i := t) (j := q) (by omega)
  have b3 := stab_at2 (g := g) (c := c) (i := b) (j := l) (by omega)
  have b4 := stab_at2 (g := g) (c := c) (i := b) (j := q) (by omega)
  rw [← tb_win g h1 h3]
  generalize gridD (stab g r c) = G at *
  generalize rowD ((List.range (c + 1)).map (tb g t)) = Rt at *
  generalize rowD ((List.range (c + 1)).map (tb g b)) = Rb at *
  simp [F_window_sum, mkFn, c_window_sum, mkEv, a1, a2, b1, b2, b3, b4, asRet]
end
end Sk

set_option maxHeartbeats 1000000
/-! Sk, part 40: bounds of lists. -/
namespace Sk
open PySem PySem.Spec PyProof.Rows L2 GxR
/-- m is the least, or the greatest, of a list -/
def Bo (low : Bool) (m : Int) (xs : List Int) : Prop := m ∈ xs ∧ ∀ y ∈ xs, if low = true then m ≤ y else y ≤ m
def bo (low : Bool) (xs : List Int) : Int := if low = true then leastI xs else mostI xs
def pk (low : Bool) (a b : Int) : Int := if low = true then (if b < a then b else a) else (if b > a then b else a)
theorem Bo.eq {low : Bool} {m : Int} {xs : List Int} (h : Bo low m xs) : bo low xs = m := by
  cases low
  · exact mostI_eq h.1 (fun y hy => by simpa using h.2 y hy)
  · exact leastI_eq h.1 (fun y hy => by simpa using h.2 y hy)
theorem Bo.one (low : Bool) (x : Int) : Bo low x [x] := ⟨by simp, fun y hy => by
  have : y = x := by simpa using hy
  subst this
  split <;> omega⟩
theorem Bo.pick {low : Bool} {a b : Int} {xs ys zs : List Int} (h : Bo low a xs) (i : Bo low b ys) (hz : ∀ z, z ∈ zs ↔ z ∈ xs ∨ z ∈ ys) : Bo low (pk low a b) zs := by
  cases low
  · have h1 : ∀ y ∈ xs, y ≤ a := fun y hy => by simpa using h.2 y hy
    have h2 : ∀ y ∈ ys, y ≤ b := fun y hy => by simpa using i.2 y hy
    by_cases c : b > a
    · refine ⟨by simp [pk, c]; exact (hz b).mpr (.inr i.1), fun y hy => ?_⟩
      simp [pk, c]
      rcases (hz y).mp hy with e | e
      · have := h1 y e; omega
      · exact h2 y e
    · refine ⟨by simp [pk, c]; exact (hz a).mpr (.inl h.1), fun y hy => ?_⟩
      simp [pk, c]
      rcases (hz y).mp hy with e | e
      · exact h1 y e
      · have := h2 y e; omega
  · have h1 : ∀ y ∈ xs, a ≤ y := fun y hy => by simpa using h.2 y hy
    have h2 : ∀ y ∈ ys, b ≤ y := fun y hy => by simpa using i.2 y hy
    by_cases c : b < a
    · refine ⟨by simp [pk, c]; exact (hz b).mpr (.inr i.1), fun y hy => ?_⟩
      simp [pk, c]
      rcases (hz y).mp hy with e | e
      · have := h1 y e; omega
      · exact h2 y e
    · refine ⟨by simp [pk, c]; exact (hz a).mpr (.inl h.1), fun y hy => ?_⟩
      simp [pk, c]
      rcases (hz y).mp hy with e | e
      · exact h1 y e
      · have := h2 y e; omega
theorem Bo.of {low : Bool} : ∀ {xs : List Int}, xs ≠ [] → Bo low (bo low xs) xs
  | [], h => absurd rfl h
  | [x], _ => by
    have := (Bo.one low x)
    rw [this.eq]
    exact this
  | x :: y :: r, _ => by
    have := (Bo.one low x).pick (Bo.of (low := low) (xs := y :: r) (by simp)) (zs := x :: y :: r) (by simp)
    rw [this.eq]
    exact this
theorem bo_app {low : Bool} {xs ys : List Int} (h : xs ≠ []) (i : ys ≠ []) : bo low (xs ++ ys) = pk low (bo low xs) (bo low ys) :=
  ((Bo.of h).pick (Bo.of i) (fun z => List.mem_append)).eq
/-! ### two fors -/
theorem comp2L_map {α β : Type} {f : Nat → Va → Ev → Sto → Rs (List Va)} {F : α → List β} {h : α → Va} {G : β → Va} {ev : Ev} {st : Sto} {B : Nat} : ∀ {xs : List α} {n : Nat}, (∀ a ∈ xs, ∀ n, n + (F a).length ≤ B → f n (h a) ev st = .ok ((F a).map G) st) → n + (xs.flatMap F).length ≤ B → comp2L none f (xs.map h) n ev st = .ok ((xs.flatMap F).map G) st
  | [], n, _, _ => by simp [comp2L]
  | a :: r, n, hf, hB => by
    simp only [List.flatMap_cons, List.length_append] at hB
    have e1 := hf a (by simp) n (by omega)
    have e2 := comp2L_map (xs := r) (n := n + (F a).length) (fun b hb => hf b (List.mem_cons_of_mem _ hb)) (by omega)
    simp only [List.map_cons, comp2L, lkOk_none, if_true, e1, Rs.bind_ok, List.length_map, e2, List.flatMap_cons, List.map_append]
/-! ### the first place of a number -/
theorem firstD_int {x : Int} : ∀ {xs : List Int} {m : Nat}, xs[m]? = some x → (∀ j, j < m → xs[j]? ≠ some x) → firstD (.int x) (xs.map .int) = some m
  | [], m, h, _ => by simp at h
  | a :: r, 0, h, _ => by
    have : a = x := by simpa using h
    subst this
    simp [firstD, PyData.eqv]
  | a :: r, m + 1, h, hn => by
    have h0 : a ≠ x := fun z => hn 0 (by omega) (by simp [z])
    have ih := firstD_int (xs := r) (m := m) (by simpa using h) fun j hj z => hn (j + 1) (by omega) (by simpa using z)
    simp [firstD, PyData.eqv, h0, ih]
theorem indexV_int {x : Int} {xs : List Int} {m : Nat} (h : xs[m]? = some x) (hn : ∀ j, j < m → xs[j]? ≠ some x) (st : Sto) : indexV (.dat (.list (xs.map .int))) [.dat (.int x)] st = .ok (.dat (.int (m : Nat))) st := by
  have s1 : SeqAt.shaped (.list (xs.map .int)) = true := (gd_lst gd_int).shaped (by omega) xs
  have s2 : SeqAt.shaped (.int x) = true := gd_int.shaped (by omega) x
  simp [indexV, s1, s2, firstD_int h hn, oI]
end Sk

set_option maxHeartbeats 1000000
/-! Sk, part 41: tuple(reversed(x)), x a tuple. -/
namespace Sk
open PySem PySem.Spec PyProof.Rows L2 GxR RT
theorem rt_nolen : typeLookup (.type "reversed") "__len__" = pure none := by rw [typeLookup_type, builtinLookup_eq_fast]; kernel_rfl
theorem rt_hint : typeLookup (.type "reversed") "__length_hint__" = pure (some (.builtin "reversed.__length_hint__")) := by rw [typeLookup_type, builtinLookup_eq_fast]; kernel_rfl
theorem rt_slot : Slot "reversed" "__length_hint__" "reversed.__length_hint__" := .of (owner := "reversed") (n := "__length_hint__") rt_hint (by decide +kernel) (by decide +kernel) (by decide +kernel) (by first | exact .inl (by decide +kernel) | exact .inr (by decide +kernel)) (by rw [isSubtype_type]; kernel_rfl)
theorem rt_entry : entryFor table "reversed.__length_hint__" = some Builtin.«reversed.__length_hint__» := entryFor_of_tree (by kernel_rfl)
theorem rt_args (a : Value) : argsOk "reversed.__length_hint__" ⟨[a], []⟩ := by
  unfold argsOk; rw [signature?_of (id := "reversed.__length_hint__") (n := ['_', '_', 't', 'n', 'i', 'h', '_', 'h', 't', 'g', 'n', 'e', 'l', '_', '_']) (o := ['d', 'e', 's', 'r', 'e', 'v', 'e', 'r']) (by kernel_rfl) owner_rt]; kernel_rfl
theorem rt_bk : builtinKind "reversed.__length_hint__" = some .method := by decide +kernel
theorem rt_bind (self : Value) : bindSpecial (.builtin "reversed.__length_hint__") self = pure (.builtin "reversed.__length_hint__", [self]) := by
  have hop : withoutEnding? "reversed.__length_hint__" "#opaque" = none := by decide +kernel
  have hdat : withoutEnding? "reversed.__length_hint__" "#data" = none := by decide +kernel
  simp only [bindSpecial, typeOf, builtinType, hop, hdat, rt_bk]; rfl
section
variable {prog : Program} {w : World} {A : Around} {E : Value → Shared → Prop} {s : Shared}
theorem rt_call {it t : Addr} {items : Array Value} {Q : Value → Shared → Prop} (hit : IsRt s.heap it t ((items.size : Int) - 1)) (ht : IsTup s.heap t items) (hsz : items.size ≤ sizeLine)
    (hQ : Q (.int (items.size : Int) (s.toks + 1 + 1)) { s with toks := s.toks + 1 + 1 + 1 }) : wpAny (model prog w) A (call (.builtin "reversed.__length_hint__") [.ref it]) Q E s := by
  obtain ⟨o, ho, hc, hd⟩ := id hit
  rw [sizeLine_eq] at hsz
  refine wpAny_call_entry rt_slot hit.typeIs rt_entry ?_ (rt_args _)
  unfold Builtin.«reversed.__length_hint__»
  refine wpAny_bind (wpAny_of_eq (a := Value.ref it) rfl ?_)
  refine wpAny_bind (wpAny_field ho hd (x := .ref t) rfl ?_)
  try dsimp only
  rw [if_neg (show ¬ (Value.ref t == Value.none) = true by simp)]
  refine wpAny_bind (len_tuple ht (by omega) ?_)
  refine wpAny_bind (wpAny_of_eq (a := some ((items.size : Nat) : Int)) rfl ?_)
  try dsimp only
  refine wpAny_bind (wpAny_field (s := { s with toks := s.toks + 1 + 1 }) ho hd (x := rawInt ((items.size : Int) - 1)) rfl ?_)
  show wpAny _ _ (if (items.size : Int) < (items.size : Int) - 1 + 1 then _ else _) _ _ _
  rw [if_neg (by omega)]
  have e : (items.size : Int) - 1 + 1 = (items.size : Int) := by omega
  rw [e]
  unfold retInt
  refine wpAny_bind (wpAny_mkInt ?_)
  exact wpAny_pure ⟨_, rfl, hQ⟩
theorem rt_lenHint {it t : Addr} {items : Array Value} {Q : Bool → Shared → Prop} (hit : IsRt s.heap it t ((items.size : Int) - 1)) (ht : IsTup s.heap t items) (hsz : items.size ≤ sizeLine)
    (hQ : ∀ b, Q b { s with toks := s.toks + 1 + 1 + 1 }) : wpAny (model prog w) A (Builtin.List.listLengthHint (.ref it)) Q E s := by
  have hT := hit.typeIs
  unfold Builtin.List.listLengthHint
  refine wpAny_bind (wpAny_specialOf hT rt_nolen ?_)
  show wpAny _ A (specialOf (Value.ref it) (Str.ofString "__length_hint__") >>= _) _ _ _
  refine wpAny_bind (wpAny_specialOf hT rt_hint ?_)
  generalize hid : ("reversed.__length_hint__" : String) = id0
  wp_delta
  rw [show splitId id0 = some ("reversed", "__length_hint__") from by subst hid; decide +kernel]
  subst hid
  refine wpAny_bind (wpAny_isInstance (b := true) hT (by rw [isSubtype_type]; kernel_rfl) ?_)
  rw [if_neg (by decide)]
  try dsimp only
  rw [if_neg (by decide +kernel)]
  refine wpAny_bind (wpAny_rule ?_)
  refine wpAny_bind (wpAny_of_eq (rt_bind _) ?_)
  try dsimp only
  refine wpAny_bind (wpAny_attempt (rt_call hit ht hsz ?_))
  try dsimp only
  have hz := hsz
  rw [sizeLine_eq] at hz
  generalize items.size = n at *
  have ha : asInt? (Value.int (n : Int) (s.toks + 1 + 1)) = pure (some (n : Int)) := rfl
  rw [ha, pure_bind]
  dsimp only
  have h1 : Builtin.List.listFitsIndex (n : Int) = true := by
    unfold Builtin.List.listFitsIndex
    simp only [Bool.and_eq_true, decide_eq_true_eq]
    omega
  have h2 : ¬ Builtin.List.listTooLong ((n : Int)).toNat = true := by
    unfold Builtin.List.listTooLong
    simp only [decide_eq_true_eq]
    rw [sizeLine_eq]
    omega
  rw [if_neg (by rw [h1]; decide), if_neg (by omega), if_neg h2]
  exact wpAny_pure (hQ _)
/-- the walk of reversed(tuple) -/
theorem rt_walk (hh : A.handled = none) (I t : Addr) (hne : t ≠ I) (items : Array Value) (hsz : items.size ≤ sizeLine) :
    Walks prog w A I [I, t] [I] items.size (fun i v => items[items.size - 1 - i]? = some v) (fun i h => i ≤ items.size ∧ IsRt h I t ((items.size : Int) - 1 - (i : Int)) ∧ IsTup h t items) where
  sub := fun b hb => by simp at hb; simp [hb]
  frame := fun _ _ _ x hk => ⟨x.1, x.2.1.at fun o e => hk I (by simp) o e, by
    obtain ⟨o, e, z⟩ := x.2.2
    exact ⟨o, hk t (by simp) o e, z⟩⟩
  item := fun i s Q E hi x hQ => by
    have e : (items.size : Int) - 1 - (i : Int) = ((items.size - 1 - i : Nat) : Int) := by omega
    have hit := x.2.1
    rw [e] at hit
    have hx : items[items.size - 1 - i]? = some (items[items.size - 1 - i]'(by omega)) := Array.getElem?_eq_getElem (by omega)
    refine next_rt_item hit x.2.2 hx hsz fun h' hit' hs' => ?_
    have e2 : ((items.size - 1 - i : Nat) : Int) - 1 = (items.size : Int) - 1 - ((i + 1 : Nat) : Int) := by omega
    rw [e2] at hit'
    refine hQ _ h' (s.toks + 1) hx ⟨hi, hit', ?_⟩ fun b o hb eo => hs'.extBut b o (fun h => hb (by simp [h])) eo
    obtain ⟨o, e, z⟩ := x.2.2
    exact ⟨o, (hs'.2 t hne).trans e, z⟩
  done := fun s Q E x hQ => by
    have e : (items.size : Int) - 1 - (items.size : Int) = -1 := by omega
    have hit := x.2.1
    rw [e] at hit
    exact next_rt_end hh hit fun h' he' => hQ h' s.toks fun b o hb eo => he' b o (fun h => hb (by simp [h])) eo
  self := fun _ _ _ _ x hQ => iter_rt x.2.1 hQ
theorem rt_collect {it t : Addr} {items : Array Value} {Q : List Value → Shared → Prop} (hh : A.handled = none) (hit : IsRt s.heap it t ((items.size : Int) - 1)) (ht : IsTup s.heap t items) (hne : t ≠ it) (hn : items.size ≤ sizeLine)
    (hQ : ∀ (h' : Heap) (tk : Nat) (acc : Array Value), (∀ b o, b ≠ it → s.heap.get? b = some o → h'.get? b = some o) → ItemsOf (fun i v => items[items.size - 1 - i]? = some v) acc items.size → Q acc.toList { s with heap := h', toks := tk }) :
    wpAny (model prog w) A (collect (.ref it)) Q E s := by
  have W := (rt_walk (prog := prog) (w := w) (A := A.in1) hh it t hne items hn).toS
  obtain ⟨oi, hoi, _⟩ := id hit
  obtain ⟨ot, hot, zt⟩ := id ht
  have hSi : s.heap.objs.size ≠ it := Nat.ne_of_gt (Heap.lt_size hoi)
  have hSl : s.heap.objs.size ≠ t := Nat.ne_of_gt (Heap.lt_size hot)
  have hSf : s.heap.objs.size ∉ [it, t] := fun z => by
    rcases List.mem_cons.mp z with z | z
    · exact hSi z
    · exact hSl (List.mem_singleton.mp z)
  unfold collect
  refine wpAny_bind (wpAny_runValue (codeAny_builtin F.entry_proto_collect ?_))
  rw [Around.under_plainId F.plain_proto_collect _]
  show wpAny _ A.in1 (newList [] >>= fun l2 => again (.builtin "list.__iadd__" ⟨[l2, .ref it], []⟩)) _ _ s
  refine wpAny_bind (wpAny_newObj_type ?_)
  refine wpAny_pure ⟨plainId_quiet F.plain_list_iadd _, codeAny_builtin F.entry_list_iadd ?_⟩
  rw [Around.under_plainId F.plain_list_iadd _]
  generalize hN : s.heap.push { cls := .type "list", data := .seq ([] : List Value).toArray } = h1
  have hS1 : h1.get? s.heap.objs.size = some { cls := .type "list", data := .seq ([] : List Value).toArray } := hN ▸ Heap.get?_push_size _ rfl
  have k1 : ∀ b o, s.heap.get? b = some o → h1.get? b = some o := fun b o e => hN ▸ Heap.get?_push_of_some _ e
  have hit1 : IsRt h1 it t ((items.size : Int) - 1) := hit.at fun o e => k1 _ o e
  have ht1 : IsTup h1 t items := ⟨ot, k1 _ _ hot, zt⟩
  have hT : ({ s with heap := h1 } : Shared).TypeIs (.ref it) "reversed" := IsRt.typeIs (s := { s with heap := h1 }) hit1
  have hd : Builtin.List.listSameRef (.ref s.heap.objs.size) (.ref it) = false := by simp [Builtin.List.listSameRef, hSi]
  show wpAny _ A.in1 (Builtin.List.listExtendWith (.ref s.heap.objs.size) (.ref it) (.ref s.heap.objs.size)) _ _ { s with heap := h1 }
  unfold Builtin.List.listExtendWith
  refine wpAny_bind (wpAny_typeOf hT ?_)
  rw [if_neg (by rw [hd]; decide)]
  refine wpAny_bind (iter_rt (s := { s with heap := h1 }) hit1 ?_)
  refine wpAny_bind (wpAny_holding ?_)
  refine rt_lenHint (s := { s with heap := h1 }) hit1 ht1 hn fun b => ?_
  have e0 : ((items.size : Nat) : Int) - 1 - ((0 : Nat) : Int) = (items.size : Int) - 1 := by omega
  cases b with
  | false =>
    rw [if_neg (by decide +kernel)]
    refine wpAny_pure ⟨plainId_quiet F.plain_extend_loop _, codeAny_extend_loopS W hn _ hSf _ items.size 0 _ _ _ rfl (Nat.zero_le _) ⟨Nat.zero_le _, by rw [e0]; exact hit1, ht1⟩ hS1 (ItemsOf.nil _) fun s2 acc2 c2 hm hS2 hacc => ?_⟩
    show wpAny _ A (load s.heap.objs.size >>= _) _ _ s2
    refine wpAny_bind (wpAny_load hS2 ?_)
    refine wpAny_pure ?_
    rw [Moved.eq_with hm]
    refine hQ s2.heap s2.toks acc2 (fun b o hb e => hm.heap b o (fun hmem => ?_) (k1 b o e)) hacc
    rcases List.mem_cons.mp hmem with z | hmem
    · exact absurd (Heap.lt_size e) (by rw [z]; exact Nat.lt_irrefl _)
    · exact hb (List.mem_singleton.mp hmem)
  | true =>
    rw [if_pos (by decide +kernel)]
    refine wpAny_bind (wpAny_rule ?_)
    refine wpAny_bind ?_
    show wpAny _ A.in1 (updateSeq s.heap.objs.size (·.push .none) >>= fun _ => updateSeq s.heap.objs.size (·.pop)) _ _ _
    refine wpAny_bind (wpAny_updateSeq hS1 rfl ?_)
    have hS2 := Heap.get?_update_self (Obj.mapSeq (·.push Value.none)) hS1 rfl
    refine wpAny_updateSeq hS2 rfl ?_
    have hS3 := Heap.get?_update_self (Obj.mapSeq (·.pop)) hS2 rfl
    have oth : ∀ b o, b ≠ s.heap.objs.size → h1.get? b = some o → ((h1.update s.heap.objs.size (Obj.mapSeq (·.push Value.none))).update s.heap.objs.size (Obj.mapSeq (·.pop))).get? b = some o :=
      fun b o hb e => (Heap.get?_update_other _ _ (Ne.symm hb)).trans ((Heap.get?_update_other _ _ (Ne.symm hb)).trans e)
    have hit3 := hit1.at fun o e => oth it o (Ne.symm hSi) e
    have ht3 : IsTup _ t items := ⟨ot, oth t ot (Ne.symm hSl) (k1 _ _ hot), zt⟩
    refine wpAny_pure ⟨plainId_quiet F.plain_extend_loop _, codeAny_extend_loopS W hn _ hSf _ items.size 0 _ _ _ rfl (Nat.zero_le _) ⟨Nat.zero_le _, by rw [e0]; exact hit3, ht3⟩ hS3 (ItemsOf.nil _) fun s2 acc2 c2 hm hS2 hacc => ?_⟩
    show wpAny _ A (load s.heap.objs.size >>= _) _ _ s2
    refine wpAny_bind (wpAny_load hS2 ?_)
    refine wpAny_pure ?_
    rw [Moved.eq_with hm]
    refine hQ s2.heap s2.toks acc2 (fun b o hb e => hm.heap b o (fun hmem => ?_) (oth b o (fun z => absurd (Heap.lt_size e) (by rw [z]; exact Nat.lt_irrefl _)) (k1 b o e))) hacc
    rcases List.mem_cons.mp hmem with z | hmem
    · exact absurd (Heap.lt_size e) (by rw [z]; exact Nat.lt_irrefl _)
    · exact hb (List.mem_singleton.mp hmem)
theorem rt_new {it t : Addr} {items : Array Value} {Q₁ : Value → Shared → Prop} (hh : A.handled = none) (hit : IsRt s.heap it t ((items.size : Int) - 1)) (ht : IsTup s.heap t items) (hne : t ≠ it) (hn : items.size ≤ sizeLine)
    (h : ∀ (h2 : Heap) (tk : Nat) (acc : Array Value), (∀ b o, b ≠ it → s.heap.get? b = some o → h2.get? b = some o) → ItemsOf (fun i v => items[items.size - 1 - i]? = some v) acc items.size →
      Q₁ (.ref h2.objs.size) { s with heap := h2.push { cls := .type "tuple", data := .seq acc }, toks := tk }) :
    codeAny (model prog w) A (.call (.builtin "tuple.__new__") ⟨[.type "tuple", .ref it], []⟩) (wants Q₁ E) s := by
  refine codeAny_of_tree ?_
  show wpAny _ A.in1 (do checkBuiltinCall "tuple.__new__" ⟨[.type "tuple", .ref it], []⟩; again (.builtin "tuple.__new__" ⟨[.type "tuple", .ref it], []⟩)) _ _ s
  refine wpAny_bind (wpAny_of_eq (F.newCall_tuple_1 _) (wpAny_pure ⟨plainId_quiet F.plain_tuple_new _, codeAny_builtin F.entry_tuple_new ?_⟩))
  rw [Around.under_plainId F.plain_tuple_new _]
  have hsub := sub_tuple_self
  have hinit := init_tuple_lookup
  have hmh := madeHere_tuple
  have hTI : s.TypeIs (.ref it) "reversed" := hit.typeIs
  have hh1 : A.in1.handled = none := hh
  wp_walk using wpAny_typeOf hTI, rt_collect (A := A.in1) hh1 hit ht hne hn
  intro h2 tk acc hk hacc
  show wpAny _ _ (Builtin.Tuple.tupleExact acc.toList.toArray >>= fun v => ret v) _ _ _
  unfold Builtin.Tuple.tupleExact
  refine wpAny_bind (wpAny_newObj_type ?_ (by show acc.toList.toArray.size ≤ sizeLine; simp only [Array.toArray_toList]; rw [hacc.1]; exact hn))
  refine wpAny_pure ?_
  have e : acc.toList.toArray = acc := by simp
  rw [e]
  exact h h2 tk acc hk hacc
theorem rt_tuple {it t : Addr} {items : Array Value} {Q : Value → Shared → Prop} (hh : A.handled = none) (hit : IsRt s.heap it t ((items.size : Int) - 1)) (ht : IsTup s.heap t items) (hne : t ≠ it) (hn : items.size ≤ sizeLine)
    (hQ : ∀ (h2 : Heap) (tk : Nat) (acc : Array Value), (∀ b o, b ≠ it → s.heap.get? b = some o → h2.get? b = some o) → ItemsOf (fun i v => items[items.size - 1 - i]? = some v) acc items.size →
      Q (.ref h2.objs.size) { s with heap := h2.push { cls := .type "tuple", data := .seq acc }, toks := tk }) :
    wpAny (model prog w) A (call (.type "tuple") [.ref it]) Q E s := by
  refine callType_codes (Q₁ := fun obj s1 => s1.TypeIs obj "tuple" ∧ Q obj s1) F.called_tuple (F.typeCall_tuple_1 _) F.entry_object_init
    (rt_new (A := A.in1) hh hit ht hne hn fun h2 tk acc hk hacc => ⟨⟨_, Heap.get?_push_size _ rfl, rfl⟩, hQ h2 tk acc hk hacc⟩) fun obj s1 h1 => ?_
  exact ⟨h1.1, F.args_object_init_2 obj _, object_init_meets F.called_tuple.init.lookup F.called_tuple.made (by decide) prog w A.in1 _ s1 ⟨h1.1, rfl, h1.2⟩⟩
end
/-- tuple(reversed(x)), x a tuple: a new tuple -/
def tTupRv (K : PySem.W.Frag) (te : TE) : TE := fun σ H Q => te σ H fun v H1 => ∃ (a : Addr) (xs : List V), v = .ref a ∧ SqT K H1 a xs ∧ ∀ q, H1 q = none → Q (.ref q) (upd H1 q (.tup xs.reverse))
section
variable {X : Cx}
theorem pe_tupRv {e : Expr} {te : TE} {p p2 pos pos2 : Pos} (hc : X.calm = true) (hg : Gl X "tuple") (hm : X.mg "tuple" = none) (hg2 : Gl X "reversed") (hm2 : X.mg "reversed" = none) (he : PE X e te)
    (hs : starEach [e] X.env = (false, eval e X.env) :: starEach [] X.env := by rfl)
    (na2 : starEach [.Call (.Name "reversed" p2) [e] [] pos2] X.env = (false, eval (.Call (.Name "reversed" p2) [e] [] pos2) X.env) :: starEach [] X.env := by rfl) :
    PE X (.Call (.Name "tuple" p) [.Call (.Name "reversed" p2) [e] [] pos2] [] pos) (tTupRv X.K te) := by
  refine ⟨fun pins s σ H Q I h => ?_⟩
  refine Call_ (ld_blt I hg hm boot_tuple (PyProof.Rows.callWith_type1 (args_cons (Call_ (ld_blt I hg2 hm2 PyProof.Rows.boot_reversed (PyProof.Rows.callWith_type1 (args_cons (thn (he.run pins s σ H _ I h) fun u s1 ⟨v, H1, I1, r1, q1⟩ => args_nil ?_) hs) hs rfl))) na2) na2 rfl))
  obtain ⟨a, xs, ev, hq, q⟩ := q1
  subst ev
  obtain rfl : u = Value.ref a := r1
  obtain ⟨its, rv, p', hz⟩ := I1.tuple hq
  have h63 := line63
  have hlv := rv.length
  refine call_reversed_tup p' (fun A E Q k => len_tuple p' (by simp only [List.size_toArray] <;> omega) k) (args_nil ?_)
  have k0 : ∀ b o, s1.heap.get? b = some o → (s1.heap.push (rtObj a ((its.toArray.size : Int) - 1))).get? b = some o := fun b o e => Heap.get?_push_of_some _ e
  have I2 : Inv X pins σ H1 { s1 with heap := s1.heap.push (rtObj a ((its.toArray.size : Int) - 1)), toks := s1.toks + 1 + 1 } := I1.kept (t' := s1.toks + 1 + 1) k0
  obtain ⟨f0, f1, f2, f3, f4, f5⟩ := I1.fpOk (H' := H1) (b := s1.heap.objs.size) (Nat.le_refl _) (I1.hok.fresh (Nat.le_refl _))
  obtain ⟨ot, hot, zt⟩ := id p'
  have hne : a ≠ s1.heap.objs.size := Nat.ne_of_lt (Heap.lt_size hot)
  have hn : its.toArray.size ≤ sizeLine := by rw [List.size_toArray, ← rv.length]; exact hz
  refine rt_tuple (s := { s1 with heap := s1.heap.push (rtObj a ((its.toArray.size : Int) - 1)), toks := s1.toks + 1 + 1 }) (I1.ok.hd hc) ⟨_, Heap.get?_push_size _ rfl, rfl, rfl⟩ ⟨ot, k0 _ _ hot, zt⟩ hne hn fun h2 tk acc hk hi => ?_
  have I3 : Inv X pins σ H1 { s1 with heap := h2, toks := tk } := I2.turned (t' := tk) (fun b o hb e => hk b o hb e) f0 f1 f3 f4 f5
  refine ⟨.ref h2.objs.size, upd H1 h2.objs.size (.tup xs.reverse), I3.laid (t' := tk) (fun c o e => Heap.get?_push_of_some _ e) (Nat.le_refl _) (show ObjOk X.prog X.w _ _ _ (.tup xs.reverse) from ⟨by rw [List.length_reverse]; exact hz, acc.toList, vals_rev rv hi, ?_⟩), rfl, q _ (I3.hok.fresh (Nat.le_refl _))⟩
  rw [Array.toArray_toList]
  exact IsTup.new _ _
def revV (x : Va) (st : Sto) : Rs Va := match seqOf st x with
  | some (true, xs) => .ok (mkT xs.reverse) st
  | _ => .bad
theorem RVs.rev {C : Cfg} {H : Hp} {M : Addr → Prop} {m : List Addr} : ∀ {vs : List V} {xs : List Va}, RVs C H M m vs xs → RVs C H M m vs.reverse xs.reverse
  | _, _, .nil => .nil
  | _, _, .cons a r => by
    rw [List.reverse_cons, List.reverse_cons]
    exact (RVs.rev r).append (.cons a .nil)
variable {C : Cfg} {W : WX} {a : Expr} {ca : CE} {p p2 pos pos2 : Pos}
theorem fe_tupRv (hK : X.K = C.K) (hc : X.calm = true) (hg : Gl X "tuple") (hm : X.mg "tuple" = none) (hg2 : Gl X "reversed") (hm2 : X.mg "reversed" = none) (ha : PE X a (tE C W ca)) (na : starEach [a] X.env = (false, eval a X.env) :: starEach [] X.env := by rfl)
    (na2 : starEach [.Call (.Name "reversed" p2) [a] [] pos2] X.env = (false, eval (.Call (.Name "reversed" p2) [a] [] pos2) X.env) :: starEach [] X.env := by rfl) :
    PE X (.Call (.Name "tuple" p) [.Call (.Name "reversed" p2) [a] [] pos2] [] pos) (tE C W (dUn revV ca)) :=
  PE.imp (pe_tupRv hc hg hm hg2 hm2 ha na na2) fun s H Q h => tG.bind (R := relV) (k := fun x _ st => revV x st) h fun M0 m ev st x v H1 rh re rv fin => by
    unfold revV at fin
    split at fin
    · rename_i xs hs
      obtain ⟨b, us, rfl, ru, sq⟩ := seqOf_rel rh rv hs
      rw [hK]
      exact ⟨b, us, rfl, sq, fun q hq => Fin.newT fin rh hq ru.rev⟩
    · exact fin.elim
theorem revV_t (xs : List PyData) (st : Sto) : revV (.dat (.tuple xs)) st = .ok (.dat (.tuple xs.reverse)) st := by
  have e : (xs.map Va.dat).reverse = xs.reverse.map .dat := by rw [List.map_reverse]
  simp only [revV, seqOf_tuple, e, mkT_map]
end
end Sk

set_option maxHeartbeats 1000000
/-! Sk, part 42: grids by their cells; places; what lies beside; turned grids. -/
namespace Sk
open PySem PySem.Spec PyProof.Rows L2 GxR
def k_FOUR : Va := (.seq true [(.seq true [(.dat (.int (-1))), (.dat (.int 0))]), (.seq true [(.dat (.int 0)), (.dat (.int (-1)))]), (.seq true [(.dat (.int 0)), (.dat (.int 1))]), (.seq true [(.dat (.int 1)), (.dat (.int 0))])])
def fb__law_places1 : CS :=
    (dAsg (dBin addV (dVar 1) (dComp asF (dRange (dCons (dCallB lenV (dCons (dBin ixV (dVar 0) (dC (.int 0))) dNil)) dNil)) [3] (gN 3) dYes (dTup (dCons (dVar 2) (dCons (dVar 3) dNil))))) (gN 1))
def c__law_places : CS :=
    (dSeq (dAsg (dLst dNil) (gN 1))
    (dSeq (dFor (dRange (dCons (dCallB lenV (dCons (dVar 0) dNil)) dNil)) (gN 2) fb__law_places1)
    (dRet (dVar 1))))
def F__law_places : Fn := mkFn 4 c__law_places
def c_size_of : CS :=
    (dRet (dTup (dCons (dCallB lenV (dCons (dVar 0) dNil)) (dCons (dCallB lenV (dCons (dBin ixV (dVar 0) (dC (.int 0))) dNil)) dNil))))
def F_size_of : Fn := mkFn 1 c_size_of
def c_cells : CS :=
    (dSeq (dAsg (dCallP F_size_of 1 (dCons (dVar 0) dNil)) (gTp 2 (gsCons (gN 1) (gsCons (gN 2) gsNil))))
    (dRet (dComp2 asF (dRange (dCons (dVar 1) dNil)) [3, 4] (gN 3) dYes (dRangeJ (dCons (dVar 2) dNil)) [4] (gN 4) dYes (dTup (dCons (dVar 3) (dCons (dVar 4) dNil))))))
def F_cells : Fn := mkFn 5 c_cells
def c_at : CS :=
    (dRet (dBin ixV (dBin ixV (dVar 0) (dBin ixV (dVar 1) (dC (.int 0)))) (dBin ixV (dVar 1) (dC (.int 1)))))
def F_at : Fn := mkFn 2 c_at
def c_within : CS :=
    (dRet (dAnd (dChain leV ltV (dC (.int 0)) (dBin ixV (dVar 1) (dC (.int 0))) (dCallB lenV (dCons (dVar 0) dNil))) (dChain leV ltV (dC (.int 0)) (dBin ixV (dVar 1) (dC (.int 1))) (dCallB lenV (dCons (dBin ixV (dVar 0) (dC (.int 0))) dNil)))))
def F_within : Fn := mkFn 2 c_within
def c_beside : CS :=
    (dSeq (dAsg (dComp asF (dIter (dVar 2)) [4, 5] (gTp 2 (gsCons (gN 4) (gsCons (gN 5) gsNil))) dYes (dTup (dCons (dBin addV (dBin ixV (dVar 1) (dC (.int 0))) (dVar 4)) (dCons (dBin addV (dBin ixV (dVar 1) (dC (.int 1))) (dVar 5)) dNil)))) (gN 3))
    (dRet (dComp asF (dIter (dVar 3)) [6] (gN 6) (dTest (dCallP F_within 2 (dCons (dVar 0) (dCons (dVar 6) dNil)))) (dVar 6))))
def F_beside : Fn := mkFn 7 c_beside
def c__law_beside : CS :=
    (dSeq (dAsg (dVar 1) (gTp 2 (gsCons (gN 2) (gsCons (gN 3) gsNil))))
    (dSeq (dAsg (dLst (dCons (dTup (dCons (dBin subV (dVar 2) (dC (.int 1))) (dCons (dVar 3) dNil))) (dCons (dTup (dCons (dVar 2) (dCons (dBin subV (dVar 3) (dC (.int 1))) dNil))) (dCons (dTup (dCons (dVar 2) (dCons (dBin addV (dVar 3) (dC (.int 1))) dNil))) (dCons (dTup (dCons (dBin addV (dVar 2) (dC (.int 1))) (dCons (dVar 3) dNil))) dNil))))) (gN 4))
    (dRet (dComp asF (dIter (dVar 4)) [5, 6] (gTp 2 (gsCons (gN 5) (gsCons (gN 6) gsNil))) (dAndT (dTest (dChain leV ltV (dC (.int 0)) (dVar 5) (dCallB lenV (dCons (dVar 0) dNil)))) (dTest (dChain leV ltV (dC (.int 0)) (dVar 6) (dCallB lenV (dCons (dBin ixV (dVar 0) (dC (.int 0))) dNil))))) (dTup (dCons (dVar 5) (dCons (dVar 6) dNil)))))))
def F__law_beside : Fn := mkFn 7 c__law_beside
def c_mirrored : CS :=
    (dRet (dCallB tupleV (dCons (dComp asF (dIter (dVar 0)) [1] (gN 1) dYes (dUn revV (dVar 1))) dNil)))
def F_mirrored : Fn := mkFn 2 c_mirrored
def c_flipped : CS :=
    (dRet (dCallB tupleV (dCons (dComp asF (dRange (dCons (dCallB lenV (dCons (dBin ixV (dVar 0) (dC (.int 0))) dNil)) dNil)) [2] (gN 2) dYes (dCallB tupleV (dCons (dComp asF (dIter (dVar 0)) [1] (gN 1) dYes (dBin ixV (dVar 1) (dVar 2))) dNil))) dNil)))
def F_flipped : Fn := mkFn 3 c_flipped
def c_turned : CS :=
    (dRet (dCallP F_mirrored 1 (dCons (dCallP F_flipped 1 (dCons (dVar 0) dNil)) dNil)))
def F_turned : Fn := mkFn 1 c_turned
def fb_eight_ways1 : CS :=
    (dSeq (dDo (dMt (lstM extendG) (dVar 1) (dCons (dLst (dCons (dVar 0) (dCons (dCallP F_mirrored 1 (dCons (dVar 0) dNil)) dNil))) dNil)))
    (dAsg (dCallP F_turned 1 (dCons (dVar 0) dNil)) (gN 0)))
def c_eight_ways : CS :=
    (dSeq (dAsg (dLstM dNil) (gN 1))
    (dSeq (dFor (dRange (dCons (dC (.int 4)) dNil)) (gN 2) fb_eight_ways1)
    (dRet (dVar 1))))
def F_eight_ways : Fn := mkFn 3 c_eight_ways
/-! ### grids by their cells -/
def mkG (r c : Nat) (f : Nat → Nat → Int) : List (List Int) := (List.range r).map fun i => (List.range c).map fun j => f i j
/-- the cell -/
def gv (g : List (List Int)) (i j : Nat) : Int := (g.getD i []).getD j 0
theorem mkG_rect (r c : Nat) (f : Nat → Nat → Int) : Rect (mkG r c f) r c := ⟨by simp [mkG], fun row h => by
  obtain ⟨i, _, rfl⟩ := List.mem_map.mp h
  simp⟩
theorem mkG_row {r c : Nat} {f : Nat → Nat → Int} {i : Nat} (h : i < r) : (mkG r c f)[i]? = some ((List.range c).map fun j => f i j) := by
  unfold mkG
  rw [List.getElem?_map, List.getElem?_range h]
  rfl
theorem gv_mkG {r c : Nat} {f : Nat → Nat → Int} {i j : Nat} (hi : i < r) (hj : j < c) : gv (mkG r c f) i j = f i j := by
  unfold gv
  rw [List.getD_eq_getElem?_getD, List.getD_eq_getElem?_getD, mkG_row hi]
  simp [hj]
theorem mkG_ext {r c : Nat} {f g : Nat → Nat → Int} (h : ∀ i j, i < r → j < c → f i j = g i j) : mkG r c f = mkG r c g := by
  unfold mkG
  refine List.map_congr_left fun i hi => List.map_congr_left fun j hj => h i j (by simpa using hi) (by simpa using hj)
theorem mkG_gv {g : List (List Int)} {r c : Nat} (h : Rect g r c) : mkG r c (gv g) = g := by
  apply List.ext_getElem?
  intro i
  by_cases hi : i < r
  · obtain ⟨row, e, l⟩ := h.at hi
    rw [mkG_row hi, e]
    congr 1
    apply List.ext_getElem?
    intro j
    by_cases hj : j < c
    · rw [List.getElem?_map, List.getElem?_range hj, List.getElem?_eq_getElem (by omega)]
      simp only [Option.map_some, gv, List.getD_eq_getElem?_getD, e, Option.getD_some]
      rw [List.getElem?_eq_getElem (by omega)]
      rfl
    · rw [List.getElem?_eq_none (by simp; omega), List.getElem?_eq_none (by omega)]
  · rw [List.getElem?_eq_none (by simp [mkG]; omega), List.getElem?_eq_none (by have := h.rows; omega)]
theorem bnd_gv {g : List (List Int)} {r c : Nat} {lo hi : Int} (h : Rect g r c) : Bnd g lo hi ↔ ∀ i j, i < r → j < c → lo ≤ gv g i j ∧ gv g i j ≤ hi := by
  constructor
  · intro hb i j hi hj
    obtain ⟨row, e, l⟩ := h.at hi
    have : gv g i j = row[j]'(by omega) := by
      simp only [gv, List.getD_eq_getElem?_getD, e, Option.getD_some]
      rw [List.getElem?_eq_getElem (by omega)]
      rfl
    rw [this]
    exact hb row (List.mem_of_getElem? e) _ (List.getElem_mem _)
  · intro hb row hrow x hx
    obtain ⟨i, hi⟩ := List.getElem?_of_mem hrow
    obtain ⟨j, hj⟩ := List.getElem?_of_mem hx
    have h1 := (List.getElem?_eq_some_iff.mp hi).1
    have h2 := (List.getElem?_eq_some_iff.mp hj).1
    have := hb i j (by have := h.rows; omega) (by have := h.cols row hrow; omega)
    simpa only [gv, List.getD_eq_getElem?_getD, hi, Option.getD_some, hj] using this
theorem mkG_len (r c : Nat) (f : Nat → Nat → Int) (st : Sto) : lenV [.dat (gridD (mkG r c f))] st = .ok (.dat (.int r)) st := by simp [gridD, mkG]
theorem mkG_at {r c : Nat} {f : Nat → Nat → Int} {i : Nat} (h : i < r) (st : Sto) : ixV (.dat (gridD (mkG r c f))) (.dat (.int (i : Int))) st = .ok (.dat (rowD ((List.range c).map fun j => f i j))) st :=
  ixV_t (f := rowD) (atI_pos (mkG_row h) rfl)
theorem row_at {c : Nat} {f : Nat → Int} {j : Nat} (h : j < c) (st : Sto) : ixV (.dat (rowD ((List.range c).map f))) (.dat (.int (j : Int))) st = .ok (.dat (.int (f j))) st :=
  ixV_t (f := PyData.int) (atI_pos (n := j) (by rw [List.getElem?_map, List.getElem?_range h]; rfl) rfl)
theorem row_len (c : Nat) (f : Nat → Int) (st : Sto) : lenV [.dat (rowD ((List.range c).map f))] st = .ok (.dat (.int c)) st := by simp [rowD]
/-! ### places -/
def plD (p : Nat × Nat) : PyData := .tuple [.int (p.1 : Nat), .int (p.2 : Nat)]
def pls (r c : Nat) : List (Nat × Nat) := (List.range r).flatMap fun k => (List.range c).map fun j => (k, j)
theorem pls_mem {r c : Nat} {p : Nat × Nat} : p ∈ pls r c ↔ p.1 < r ∧ p.2 < c := by
  simp only [pls, List.mem_flatMap, List.mem_range, List.mem_map]
  constructor
  · rintro ⟨a, h1, b, h2, rfl⟩; exact ⟨h1, h2⟩
  · rintro ⟨h1, h2⟩; exact ⟨p.1, h1, p.2, h2, rfl⟩
theorem pls_len (r c : Nat) : (pls r c).length = r * c := by
  unfold pls
  induction r with
  | zero => simp
  | succ n ih => rw [List.range_succ, List.flatMap_append, List.length_append, ih]; simp [Nat.succ_mul]
theorem pls_succ (r c : Nat) : pls (r + 1) c = pls r c ++ (List.range c).map fun j => (r, j) := by
  unfold pls
  rw [List.range_succ, List.flatMap_append]
  simp
theorem gd_pl : Gd plD 1 := ⟨fun _ => by simp [plD, PyData.depth, PyData.depthAll], fun _ => rfl, fun a b => by
  simp [plD, PyData.eqv, PyData.eqvAll]
  constructor
  · intro z; exact Prod.ext (by omega) (by omega)
  · intro z; subst z; simp⟩
section
variable {r c : Nat} {f : Nat → Nat → Int}
theorem size_eq (r1 : 1 ≤ r) (st : Sto) : callP F_size_of 1 [.dat (gridD (mkG r c f))] st = .ok (.dat (.tuple [.int r, .int c])) st := by
  refine callP_1 (s2 := []) ?_
  have e1 := mkG_len r c f []
  have e2 : ixV (.dat (gridD (mkG r c f))) (.dat (.int 0)) [] = _ := mkG_at (i := 0) (by omega) []
  have e3 := row_len c (fun j => f 0 j) []
  generalize gridD (mkG r c f) = G at *
  generalize rowD ((List.range c).map fun j => f 0 j) = R at *
  simp [F_size_of, mkFn, c_size_of, mkEv, e1, e2, e3, asRet]
theorem cells_eq (r1 : 1 ≤ r) (hr : r ≤ 1000) (hc : c ≤ 1000) (st : Sto) : callP F_cells 1 [.dat (gridD (mkG r c f))] st = .ok (.dat (.list ((pls r c).map plD))) st := by
  refine callP_1 (s2 := []) ?_
  have e1 := size_eq (f := f) (c := c) r1 []
  have g1 := rangeV_1 (n := r) (st := []) (by omega)
  have g2 := fun st => rangeV_1 (n := c) (st := st) (by omega)
  have key : ∀ o0 : Option Va, comp2L none (comp2Turn (gN 3) dYes (dRangeJ (dCons (dVar 2) dNil)) [4] (gN 4) dYes (dTup (dCons (dVar 3) (dCons (dVar 4) dNil)))) ((List.range r).map fun i : Nat => Va.dat (.int (i : Int))) 0 [o0, some (.dat (.int r)), some (.dat (.int c)), none, none] [] = .ok ((pls r c).map fun p => .dat (plD p)) [] := fun o0 => by
    refine comp2L_map (B := 1000000) (h := fun i : Nat => Va.dat (.int (i : Int))) (F := fun k => (List.range c).map fun j => (k, j)) (fun k _ n hn => ?_) ?_
    · have hin : ∀ st, compL none (Sk.compTurn (gN 4) dYes (dTup (dCons (dVar 3) (dCons (dVar 4) dNil)))) ((List.range c).map fun i : Nat => Va.dat (.int (i : Int))) [o0, some (.dat (.int r)), some (.dat (.int c)), some (.dat (.int (k : Int))), none] st = .ok (((List.range c).map fun j => (k, j)).map fun p => .dat (plD p)) st := fun st => by
        rw [List.map_map]
        refine compL_map (h := fun i : Nat => Va.dat (.int (i : Int))) fun j _ => ?_
        simp [Sk.compTurn, plD]
      simp only [List.length_map, List.length_range] at hn
      have hfw : few (n + c) = true := few_lit (by omega)
      generalize (((List.range c).map fun j => (k, j)).map fun p => Va.dat (plD p)) = Z at *
      simp [comp2Turn, g2, unlock, hfw, wipeE, hin]
    · have := pls_len r c
      have h2 : r * c ≤ 1000 * 1000 := Nat.mul_le_mul hr hc
      unfold pls at this
      omega
  have hmk := mkL_fun plD (pls r c)
  generalize gridD (mkG r c f) = G at *
  simp [F_cells, mkFn, c_cells, mkEv, e1, g1, wipeE, key, asF, hmk, asRet]
theorem at_eq {i j : Nat} (hi : i < r) (hj : j < c) (st : Sto) : callP F_at 2 [.dat (gridD (mkG r c f)), .dat (plD (i, j))] st = .ok (.dat (.int (f i j))) st := by
  refine callP_2 (s2 := []) ?_
  have e1 := fun st => mkG_at (c := c) (f := f) hi st
  have e2 := fun st => row_at (f := fun j => f i j) hj st
  have p0 : ∀ st, ixV (.dat (plD (i, j))) (.dat (.int 0)) st = .ok (.dat (.int i)) st := fun _ => rfl
  have p1 : ∀ st, ixV (.dat (plD (i, j))) (.dat (.int 1)) st = .ok (.dat (.int j)) st := fun _ => rfl
  generalize gridD (mkG r c f) = G at *
  generalize plD (i, j) = P at *
  generalize rowD ((List.range c).map fun j => f i j) = R at *
  simp [F_at, mkFn, c_at, mkEv, e1, e2, p0, p1, asRet]
/-- a place, maybe beyond the edges -/
def zpD (a b : Int) : PyData := .tuple [.int a, .int b]
def inGr (r c : Nat) (a b : Int) : Bool := decide (0 ≤ a) && decide (a < r) && (decide (0 ≤ b) && decide (b < c))
theorem within_eq (r1 : 1 ≤ r) (a b : Int) (st : Sto) : callP F_within 2 [.dat (gridD (mkG r c f)), .dat (zpD a b)] st = .ok (.dat (.bool (inGr r c a b))) st := by
  refine callP_2 (s2 := []) ?_
  have e1 := mkG_len r c f []
  have e2 : ixV (.dat (gridD (mkG r c f))) (.dat (.int 0)) [] = _ := mkG_at (i := 0) (by omega) []
  have e3 := row_len c (fun j => f 0 j) []
  have p0 : ∀ st, ixV (.dat (zpD a b)) (.dat (.int 0)) st = .ok (.dat (.int a)) st := fun _ => rfl
  have p1 : ∀ st, ixV (.dat (zpD a b)) (.dat (.int 1)) st = .ok (.dat (.int b)) st := fun _ => rfl
  unfold inGr
  generalize gridD (mkG r c f) = G at *
  generalize zpD a b = P at *
  generalize rowD ((List.range c).map fun j => f 0 j) = R at *
  by_cases h1 : 0 ≤ a <;> by_cases h2 : a < (r : Int) <;> by_cases h3 : 0 ≤ b <;> simp [F_within, mkFn, c_within, mkEv, e1, e2, e3, p0, p1, asRet, h1, h2, h3]
/-- the four cells beside one, within -/
def nbZ (i j : Nat) : List (Int × Int) := [((i : Int) - 1, (j : Int)), ((i : Int), (j : Int) - 1), ((i : Int), (j : Int) + 1), ((i : Int) + 1, (j : Int))]
def nb (r c : Nat) (i j : Nat) : List (Nat × Nat) := (if 0 < i then [(i - 1, j)] else []) ++ (if 0 < j then [(i, j - 1)] else []) ++ (if j + 1 < c then [(i, j + 1)] else []) ++ (if i + 1 < r then [(i + 1, j)] else [])
theorem nb_mem {r c i j : Nat} (hi : i < r) (hj : j < c) {p : Nat × Nat} (h : p ∈ nb r c i j) : p.1 < r ∧ p.2 < c ∧ p ≠ (i, j) := by
  unfold nb at h
  simp only [List.mem_append] at h
  rcases h with ((h | h) | h) | h
  all_goals
    split at h
    · have e := List.mem_singleton.mp h
      subst e
      refine ⟨by simp; omega, by simp; omega, fun z => ?_⟩
      simp [Prod.ext_iff] at z
      try omega
    · simp at h
theorem nb_len (r c i j : Nat) : (nb r c i j).length ≤ 4 := by
  unfold nb
  simp only [List.length_append]
  split <;> split <;> split <;> split <;> simp
theorem nb_filter {i j : Nat} (hi : i < r) (hj : j < c) : ((nbZ i j).filter fun p => inGr r c p.1 p.2).map (fun p => zpD p.1 p.2) = (nb r c i j).map plD := by
  unfold nb nbZ inGr
  have a1 : (decide (0 ≤ (i : Int) - 1) && decide ((i : Int) - 1 < r) && (decide (0 ≤ (j : Int)) && decide ((j : Int) < c))) = decide (0 < i) := by
    rw [Bool.eq_iff_iff]; simp; omega
  have a2 : (decide (0 ≤ (i : Int)) && decide ((i : Int) < r) && (decide (0 ≤ (j : Int) - 1) && decide ((j : Int) - 1 < c))) = decide (0 < j) := by
    rw [Bool.eq_iff_iff]; simp; omega
  have a3 : (decide (0 ≤ (i : Int)) && decide ((i : Int) < r) && (decide (0 ≤ (j : Int) + 1) && decide ((j : Int) + 1 < c))) = decide (j + 1 < c) := by
    rw [Bool.eq_iff_iff]; simp; omega
  have a4 : (decide (0 ≤ (i : Int) + 1) && decide ((i : Int) + 1 < r) && (decide (0 ≤ (j : Int)) && decide ((j : Int) < c))) = decide (i + 1 < r) := by
    rw [Bool.eq_iff_iff]; simp; omega
  simp only [List.filter_cons, List.filter_nil, a1, a2, a3, a4, decide_eq_true_eq]
  have b1 : 0 < i → zpD ((i : Int) - 1) (j : Int) = plD (i - 1, j) := fun h => by simp [zpD, plD]; omega
  have b2 : 0 < j → zpD (i : Int) ((j : Int) - 1) = plD (i, j - 1) := fun h => by simp [zpD, plD]; omega
  have b3 : zpD (i : Int) ((j : Int) + 1) = plD (i, j + 1) := by simp [zpD, plD]
  have b4 : zpD ((i : Int) + 1) (j : Int) = plD (i + 1, j) := by simp [zpD, plD]
  by_cases h1 : 0 < i <;> by_cases h2 : 0 < j <;> by_cases h3 : j + 1 < c <;> by_cases h4 : i + 1 < r <;> simp [h1, h2, h3, h4, b1, b2, b3, b4]
theorem four_out (st : Sto) : outV 8 st k_FOUR = some k_FOUR := by simp [outV, mapO, k_FOUR]
theorem beside_eq {i j : Nat} (hi : i < r) (hj : j < c) (st : Sto) : callP F_beside 3 [.dat (gridD (mkG r c f)), .dat (plD (i, j)), k_FOUR] st = .ok (.dat (.list ((nb r c i j).map plD))) st := by
  refine callP_ok (ys := [.dat (gridD (mkG r c f)), .dat (plD (i, j)), k_FOUR]) (s2 := []) rfl (by simp only [mapO, outV_dat, four_out, Option.bind_some, Option.map_some]) ?_ rfl
  have p0 : ∀ st, ixV (.dat (plD (i, j))) (.dat (.int 0)) st = .ok (.dat (.int i)) st := fun _ => rfl
  have p1 : ∀ st, ixV (.dat (plD (i, j))) (.dat (.int 1)) st = .ok (.dat (.int j)) st := fun _ => rfl
  have c1 : ∀ o0 o2 : Option Va, compL none (Sk.compTurn (gTp 2 (gsCons (gN 4) (gsCons (gN 5) gsNil))) dYes (dTup (dCons (dBin addV (dBin ixV (dVar 1) (dC (.int 0))) (dVar 4)) (dCons (dBin addV (dBin ixV (dVar 1) (dC (.int 1))) (dVar 5)) dNil)))) [(.seq true [(.dat (.int (-1))), (.dat (.int 0))]), (.seq true [(.dat (.int 0)), (.dat (.int (-1)))]), (.seq true [(.dat (.int 0)), (.dat (.int 1))]), (.seq true [(.dat (.int 1)), (.dat (.int 0))])] [o0, some (.dat (plD (i, j))), o2, none, none, none, none] [] = .ok ((nbZ i j).map fun p => .dat (zpD p.1 p.2)) [] := fun o0 o2 => by
    generalize plD (i, j) = P at *
    simp [compL, Sk.compTurn, p0, p1, consO, nbZ, zpD]
    omega
  have m1 := mkL_fun (fun p : Int × Int => zpD p.1 p.2) (nbZ i j)
  have c2 : ∀ (o1 o2 o3 o4 o5 : Option Va), compL none (Sk.compTurn (gN 6) (dTest (dCallP F_within 2 (dCons (dVar 0) (dCons (dVar 6) dNil)))) (dVar 6)) ((nbZ i j).map fun p => .dat (zpD p.1 p.2)) [some (.dat (gridD (mkG r c f))), o1, o2, o3, o4, o5, none] [] = .ok (((nbZ i j).filter fun p => inGr r c p.1 p.2).map fun p => .dat (zpD p.1 p.2)) [] := fun o1 o2 o3 o4 o5 => by
    refine compL_filter (h := fun p : Int × Int => Va.dat (zpD p.1 p.2)) fun p _ => ?_
    have e := within_eq (c := c) (f := f) (show 1 ≤ r by omega) p.1 p.2 []
    generalize gridD (mkG r c f) = G at *
    generalize zpD p.1 p.2 = P at *
    cases hb : inGr r c p.1 p.2 <;> simp [Sk.compTurn, e, hb]
  have m2 := mkL_fun (fun p : Int × Int => zpD p.1 p.2) ((nbZ i j).filter fun p => inGr r c p.1 p.2)
  rw [nb_filter hi hj] at m2
  have it1 : itemsV k_FOUR [] = .ok ([(.seq true [(.dat (.int (-1))), (.dat (.int 0))]), (.seq true [(.dat (.int 0)), (.dat (.int (-1)))]), (.seq true [(.dat (.int 0)), (.dat (.int 1))]), (.seq true [(.dat (.int 1)), (.dat (.int 0))])], none) [] := rfl
  have it2 : itemsV (.dat (.list ((nbZ i j).map fun p => zpD p.1 p.2))) [] = .ok ((nbZ i j).map fun p => .dat (zpD p.1 p.2), none) [] := by simp
  have f4 : few 4 = true := few_lit (by omega)
  have hl : ((nbZ i j).map fun p => Va.dat (zpD p.1 p.2)).length = 4 := by simp [nbZ]
  generalize gridD (mkG r c f) = G at *
  generalize plD (i, j) = P at *
  generalize k_FOUR = K4 at *
  generalize ((nbZ i j).map fun p => Va.dat (zpD p.1 p.2)) = Z1 at *
  generalize PyData.list ((nbZ i j).map fun p => zpD p.1 p.2) = Z2 at *
  generalize (((nbZ i j).filter fun p => inGr r c p.1 p.2).map fun p => Va.dat (zpD p.1 p.2)) = Z3 at *
  simp [F_beside, mkFn, c_beside, mkEv, it1, f4, wipeE, c1, asF, m1, it2, hl, c2, m2, asRet]
theorem lawBeside_eq {i j : Nat} (hi : i < r) (hj : j < c) (st : Sto) : callP F__law_beside 2 [.dat (gridD (mkG r c f)), .dat (plD (i, j))] st = .ok (.dat (.list ((nb r c i j).map plD))) st := by
  refine callP_2 (s2 := []) ?_
  have e1 := fun st => mkG_len r c f st
  have e2 : ∀ st, ixV (.dat (gridD (mkG r c f))) (.dat (.int 0)) st = _ := fun st => mkG_at (i := 0) (by omega) st
  have e3 := fun st => row_len c (fun j => f 0 j) st
  have c2 : ∀ (o1 o2 o3 o4 : Option Va), compL none (Sk.compTurn (gTp 2 (gsCons (gN 5) (gsCons (gN 6) gsNil))) (dAndT (dTest (dChain leV ltV (dC (.int 0)) (dVar 5) (dCallB lenV (dCons (dVar 0) dNil)))) (dTest (dChain leV ltV (dC (.int 0)) (dVar 6) (dCallB lenV (dCons (dBin ixV (dVar 0) (dC (.int 0))) dNil))))) (dTup (dCons (dVar 5) (dCons (dVar 6) dNil)))) ((nbZ i j).map fun p => .dat (zpD p.1 p.2)) [some (.dat (gridD (mkG r c f))), o1, o2, o3, o4, none, none] [] = .ok (((nbZ i j).filter fun p => inGr r c p.1 p.2).map fun p => .dat (zpD p.1 p.2)) [] := fun o1 o2 o3 o4 => by
    refine compL_filter (h := fun p : Int × Int => Va.dat (zpD p.1 p.2)) fun p _ => ?_
    unfold inGr zpD
    generalize gridD (mkG r c f) = G at *
    generalize rowD ((List.range c).map fun j => f 0 j) = R at *
    by_cases h1 : 0 ≤ p.1 <;> by_cases h2 : p.1 < (r : Int) <;> by_cases h3 : 0 ≤ p.2 <;> by_cases h4 : p.2 < (c : Int) <;> simp [Sk.compTurn, e1, e2, e3, h1, h2, h3, h4]
  have m2 := mkL_fun (fun p : Int × Int => zpD p.1 p.2) ((nbZ i j).filter fun p => inGr r c p.1 p.2)
  rw [nb_filter hi hj] at m2
  have f4 : few 4 = true := few_lit (by omega)
  have hZ : ((nbZ i j).map fun p => Va.dat (zpD p.1 p.2)) = [.dat (.tuple [.int ((i : Int) - 1), .int j]), .dat (.tuple [.int i, .int ((j : Int) - 1)]), .dat (.tuple [.int i, .int ((j : Int) + 1)]), .dat (.tuple [.int ((i : Int) + 1), .int j])] := rfl
  rw [hZ] at c2
  generalize gridD (mkG r c f) = G at *
  generalize (((nbZ i j).filter fun p => inGr r c p.1 p.2).map fun p => Va.dat (zpD p.1 p.2)) = Z3 at *
  generalize (nb r c i j).map plD = Z5 at *
  unfold plD
  simp [F__law_beside, mkFn, c__law_beside, mkEv, f4, wipeE, c2, asF, m2, asRet]
theorem lawPlaces_eq (r1 : 1 ≤ r) (hr : r ≤ 1000) (hc : c ≤ 1000) (st : Sto) : callP F__law_places 1 [.dat (gridD (mkG r c f))] st = .ok (.dat (.list ((pls r c).map plD))) st := by
  refine callP_1 (s2 := []) ?_
  have e1 := fun st => mkG_len r c f st
  have e2 : ∀ st, ixV (.dat (gridD (mkG r c f))) (.dat (.int 0)) st = _ := fun st => mkG_at (i := 0) (by omega) st
  have e3 := fun st => row_len c (fun j => f 0 j) st
  have g1 := rangeV_1 (n := r) (st := []) (by omega)
  have g2 := fun st => rangeV_1 (n := c) (st := st) (by omega)
  have key := forS_inv (b := dTurn (gN 2) fb__law_places1) (h := fun i : Nat => Va.dat (.int (i : Int)))
    (fun i ev s => s = [] ∧ ∃ o2, ev = [some (.dat (gridD (mkG r c f))), some (.dat (.list ((pls i c).map plD))), o2, none])
    (xs := List.range r) (k := 0) (ev := [some (.dat (gridD (mkG r c f))), some (.dat (.list [])), none, none]) (st := []) ⟨rfl, _, rfl⟩ fun i x ev s hx hI => by
      obtain ⟨rfl, o2, rfl⟩ := hI
      simp only [Nat.zero_add]
      have hi : x = i ∧ i < r := by
        obtain ⟨h, e⟩ := (List.getElem?_eq_some_iff.mp hx)
        simp at h e
        omega
      obtain ⟨rfl, hi⟩ := hi
      have hin : ∀ (o0 o1 : Option Va) (st : Sto), compL none (Sk.compTurn (gN 3) dYes (dTup (dCons (dVar 2) (dCons (dVar 3) dNil)))) ((List.range c).map fun i : Nat => Va.dat (.int (i : Int))) [o0, o1, some (.dat (.int (x : Int))), none] st = .ok (((List.range c).map fun j => (x, j)).map fun p => .dat (plD p)) st := fun o0 o1 st => by
        rw [List.map_map]
        refine compL_map (h := fun i : Nat => Va.dat (.int (i : Int))) fun j _ => ?_
        simp [Sk.compTurn, plD]
      have hmk := mkL_fun plD ((List.range c).map fun j => (x, j))
      have hfw : few c = true := few_lit (by omega)
      have hlen := pls_len x c
      have h2 : x * c ≤ 1000 * 1000 := Nat.mul_le_mul (by omega) (by omega)
      have had := fun st => addV_l (xs := (pls x c).map plD) (ys := ((List.range c).map fun j => (x, j)).map plD) (by
        simp only [List.length_map, List.length_range]
        omega) st
      rw [← List.map_append, ← pls_succ] at had
      refine ⟨_, [], .inl ?_, rfl, some (.dat (.int (x : Int))), rfl⟩
      generalize gridD (mkG r c f) = G at *
      generalize rowD ((List.range c).map fun j => f 0 j) = R at *
      generalize (pls (x + 1) c).map plD = W1 at *
      generalize (pls x c).map plD = W0 at *
      generalize (((List.range c).map fun j => (x, j)).map fun p => Va.dat (plD p)) = Z at *
      generalize ((List.range c).map fun j => (x, j)).map plD = Z2 at *
      simp [fb__law_places1, e2, e3, g2, hfw, wipeE, hin, asF, hmk, had]
  obtain ⟨ev', st', e, rfl, o2, rfl⟩ := key
  rw [Nat.zero_add, List.length_range] at e
  generalize gridD (mkG r c f) = G at *
  generalize (pls r c).map plD = W1 at *
  simp [F__law_places, mkFn, c__law_places, mkEv, e1, g1, e, asRet]
end
end Sk

set_option maxHeartbeats 1000000
/-! Sk, part 43: grids mirrored, flipped, turned. -/
namespace Sk
open PySem PySem.Spec PyProof.Rows L2 GxR
section
variable {r c : Nat} {f : Nat → Nat → Int}
def mir (c : Nat) (f : Nat → Nat → Int) : Nat → Nat → Int := fun i j => f i (c - 1 - j)
def flp (f : Nat → Nat → Int) : Nat → Nat → Int := fun i j => f j i
def trn (r : Nat) (f : Nat → Nat → Int) : Nat → Nat → Int := fun i j => f (r - 1 - j) i
theorem rev_range (c : Nat) (f : Nat → Int) : ((List.range c).map f).reverse = (List.range c).map fun j => f (c - 1 - j) := by
  apply List.ext_getElem?
  intro j
  by_cases h : j < c
  · rw [List.getElem?_reverse (by simpa using h), List.getElem?_map, List.getElem?_map, List.getElem?_range h, List.getElem?_range (by simp; omega)]
    simp
  · rw [List.getElem?_eq_none (by simp; omega), List.getElem?_eq_none (by simp; omega)]
theorem itGrid (r c : Nat) (f : Nat → Nat → Int) (st : Sto) : itemsV (.dat (gridD (mkG r c f))) st = .ok ((List.range r).map fun i => .dat (rowD ((List.range c).map fun j => f i j)), none) st := by
  simp [gridD, mkG]
theorem mirrored_eq (hr : r ≤ 1000) (st : Sto) : callP F_mirrored 1 [.dat (gridD (mkG r c f))] st = .ok (.dat (gridD (mkG r c (mir c f)))) st := by
  refine callP_1 (s2 := []) ?_
  have it := itGrid r c f []
  have c1 : ∀ o0 : Option Va, compL none (Sk.compTurn (gN 1) dYes (dUn revV (dVar 1))) ((List.range r).map fun i => .dat (rowD ((List.range c).map fun j => f i j))) [o0, none] [] = .ok ((List.range r).map fun i => .dat (rowD ((List.range c).map fun j => mir c f i j))) [] := fun o0 =>
    compL_map (h := fun i => Va.dat (rowD ((List.range c).map fun j => f i j))) fun i _ => by
      have e : revV (.dat (rowD ((List.range c).map fun j => f i j))) [] = .ok (.dat (rowD ((List.range c).map fun j => mir c f i j))) [] := by
        have e2 : ((List.range c).map (fun j => mir c f i j)).map PyData.int = (((List.range c).map fun j => f i j).map PyData.int).reverse := by
          rw [← List.map_reverse, rev_range]
          rfl
        unfold rowD
        rw [revV_t, e2]
      generalize rowD ((List.range c).map fun j => f i j) = R at *
      generalize rowD ((List.range c).map fun j => mir c f i j) = R2 at *
      simp [Sk.compTurn, e]
  have m1 := mkL_fun (fun i => rowD ((List.range c).map fun j => mir c f i j)) (List.range r)
  have hf : few r = true := few_lit (by omega)
  have hG : gridD (mkG r c (mir c f)) = .tuple ((List.range r).map fun i => rowD ((List.range c).map fun j => mir c f i j)) := by
    simp only [gridD, mkG, List.map_map, Function.comp_def]
  rw [hG]
  have hl : few ((List.range r).map fun i => Va.dat (rowD ((List.range c).map fun j => f i j))).length = true := by simpa using hf
  generalize gridD (mkG r c f) = G at *
  generalize ((List.range r).map fun i => Va.dat (rowD ((List.range c).map fun j => f i j))) = Z1 at *
  generalize ((List.range r).map fun i => Va.dat (rowD ((List.range c).map fun j => mir c f i j))) = Z2 at *
  simp [F_mirrored, mkFn, c_mirrored, mkEv, it, hl, wipeE, c1, asF, m1, asRet]
theorem flipped_eq (r1 : 1 ≤ r) (hr : r ≤ 1000) (hc : c ≤ 1000) (st : Sto) : callP F_flipped 1 [.dat (gridD (mkG r c f))] st = .ok (.dat (gridD (mkG c r (flp f)))) st := by
  refine callP_1 (s2 := []) ?_
  have it := itGrid r c f []
  have e2 : ∀ st, ixV (.dat (gridD (mkG r c f))) (.dat (.int 0)) st = _ := fun st => mkG_at (i := 0) (by omega) st
  have e3 := fun st => row_len c (fun j => f 0 j) st
  have g2 := fun st => rangeV_1 (n := c) (st := st) (by omega)
  have hf : few r = true := few_lit (by omega)
  have hfc : few c = true := few_lit (by omega)
  have hl : few ((List.range r).map fun i => Va.dat (rowD ((List.range c).map fun j => f i j))).length = true := by simpa using hf
  have c1 : compL none (Sk.compTurn (gN 2) dYes (dCallB tupleV (dCons (dComp asF (dIter (dVar 0)) [1] (gN 1) dYes (dBin ixV (dVar 1) (dVar 2))) dNil))) ((List.range c).map fun i : Nat => Va.dat (.int (i : Int))) [some (.dat (gridD (mkG r c f))), none, none] [] = .ok ((List.range c).map fun i => .dat (rowD ((List.range r).map fun j => flp f i j))) [] :=
    compL_map (h := fun i : Nat => Va.dat (.int (i : Int))) fun k hk => by
      have hk : k < c := by simpa using hk
      have c2 : ∀ o0 : Option Va, compL none (Sk.compTurn (gN 1) dYes (dBin ixV (dVar 1) (dVar 2))) ((List.range r).map fun i => .dat (rowD ((List.range c).map fun j => f i j))) [o0, none, some (.dat (.int (k : Int)))] [] = .ok ((List.range r).map fun i => .dat (.int (flp f k i))) [] := fun o0 =>
        compL_map (h := fun i => Va.dat (rowD ((List.range c).map fun j => f i j))) fun i _ => by
          have e := row_at (f := fun j => f i j) hk []
          generalize rowD ((List.range c).map fun j => f i j) = R at *
          simp [Sk.compTurn, e, flp]
      have m2 := mkL_fun (fun i => PyData.int (flp f k i)) (List.range r)
      have hR : rowD ((List.range r).map fun j => flp f k j) = .tuple ((List.range r).map fun i => PyData.int (flp f k i)) := by
        simp only [rowD, List.map_map, Function.comp_def]
      rw [hR]
      generalize gridD (mkG r c f) = G at *
      generalize ((List.range r).map fun i => Va.dat (rowD ((List.range c).map fun j => f i j))) = Z1 at *
      generalize ((List.range r).map fun i => Va.dat (.int (flp f k i))) = Z2 at *
      simp [Sk.compTurn, it, hl, wipeE, c2, asF, m2]
  have m1 := mkL_fun (fun i => rowD ((List.range r).map fun j => flp f i j)) (List.range c)
  have hG : gridD (mkG c r (flp f)) = .tuple ((List.range c).map fun i => rowD ((List.range r).map fun j => flp f i j)) := by
    simp only [gridD, mkG, List.map_map, Function.comp_def]
  rw [hG]
  generalize gridD (mkG r c f) = G at *
  generalize rowD ((List.range c).map fun j => f 0 j) = R at *
  generalize ((List.range c).map fun i => Va.dat (rowD ((List.range r).map fun j => flp f i j))) = Z2 at *
  simp [F_flipped, mkFn, c_flipped, mkEv, e2, e3, g2, hfc, wipeE, c1, asF, m1, asRet]
theorem turned_eq (r1 : 1 ≤ r) (hr : r ≤ 1000) (hc : c ≤ 1000) (st : Sto) : callP F_turned 1 [.dat (gridD (mkG r c f))] st = .ok (.dat (gridD (mkG c r (trn r f)))) st := by
  refine callP_1 (s2 := []) ?_
  have e1 := flipped_eq (f := f) r1 hr hc []
  have e2 := mirrored_eq (r := c) (c := r) (f := flp f) hc []
  have : mir r (flp f) = trn r f := rfl
  rw [this] at e2
  generalize gridD (mkG r c f) = G at *
  generalize gridD (mkG c r (flp f)) = G1 at *
  generalize gridD (mkG c r (trn r f)) = G2 at *
  simp [F_turned, mkFn, c_turned, mkEv, e1, e2, asRet]
theorem eight_turn (r1 : 1 ≤ r) (hr : r ≤ 1000) (hc : c ≤ 1000) {o2 : Option Va} {L : List PyData} (hL : L.length ≤ 100) : fb_eight_ways1 [some (.dat (gridD (mkG r c f))), some (.ref 0), o2] [some (.lst (L.map .dat))] = .ok (.nx [some (.dat (gridD (mkG c r (trn r f)))), some (.ref 0), o2]) [some (.lst ((L ++ [gridD (mkG r c f), gridD (mkG r c (mir c f))]).map .dat))] := by
  have e1 := fun st => mirrored_eq (c := c) (f := f) hr st
  have e2 := fun st => turned_eq (f := f) r1 hr hc st
  have hf : few (L.length + 2) = true := few_lit (by omega)
  generalize gridD (mkG r c f) = G at *
  generalize gridD (mkG c r (trn r f)) = G1 at *
  generalize gridD (mkG r c (mir c f)) = G2 at *
  simp [fb_eight_ways1, e1, isLst, seqOf, lstM, extendG, hf, e2]
def ways (r c : Nat) (f : Nat → Nat → Int) : List (List (List Int)) :=
  let f1 := trn r f
  let f2 := trn c f1
  let f3 := trn r f2
  [mkG r c f, mkG r c (mir c f), mkG c r f1, mkG c r (mir r f1), mkG r c f2, mkG r c (mir c f2), mkG c r f3, mkG c r (mir r f3)]
theorem eight_eq (r1 : 1 ≤ r) (c1 : 1 ≤ c) (hr : r ≤ 1000) (hc : c ≤ 1000) (st : Sto) : callP F_eight_ways 1 [.dat (gridD (mkG r c f))] st = .ok (.dat (.list ((ways r c f).map gridD))) st := by
  refine callP_ref (m := 0) (ys := [.dat (gridD (mkG r c f))]) (s2 := [some (.lst (((ways r c f).map gridD).map .dat))]) rfl (by simp [mapO]) rfl ?_ rfl
  have g4 : ∀ st, rangeV [.dat (.int 4)] st = .ok ([.dat (.int 0), .dat (.int 1), .dat (.int 2), .dat (.int 3)], none) st := fun _ => rfl
  have t0 := fun o2 => eight_turn (r := r) (c := c) (f := f) r1 hr hc (o2 := o2) (L := []) (by simp)
  have t1 := fun o2 => eight_turn (r := c) (c := r) (f := trn r f) c1 hc hr (o2 := o2) (L := ([mkG r c f, mkG r c (mir c f)] : List (List (List Int))).map gridD) (by simp)
  have t2 := fun o2 => eight_turn (r := r) (c := c) (f := trn c (trn r f)) r1 hr hc (o2 := o2) (L := ([mkG r c f, mkG r c (mir c f), mkG c r (trn r f), mkG c r (mir r (trn r f))] : List (List (List Int))).map gridD) (by simp)
  have t3 := fun o2 => eight_turn (r := c) (c := r) (f := trn r (trn c (trn r f))) c1 hc hr (o2 := o2) (L := ([mkG r c f, mkG r c (mir c f), mkG c r (trn r f), mkG c r (mir r (trn r f)), mkG r c (trn c (trn r f)), mkG r c (mir c (trn c (trn r f)))] : List (List (List Int))).map gridD) (by simp)
  simp only [List.map_cons, List.map_nil, List.cons_append, List.nil_append] at t0 t1 t2 t3
  have loop : forS none (dTurn (gN 2) fb_eight_ways1) [.dat (.int 0), .dat (.int 1), .dat (.int 2), .dat (.int 3)] [some (.dat (gridD (mkG r c f))), some (.ref 0), none] [some (.lst [])] = .ok (.nx [some (.dat (gridD (mkG r c (trn c (trn r (trn c (trn r f))))))), some (.ref 0), some (.dat (.int 3))]) [some (.lst (((ways r c f).map gridD).map .dat))] := by
    unfold ways
    simp only [List.map_cons, List.map_nil]
    generalize fb_eight_ways1 = B at *
    simp [forS, t0, t1, t2, t3]
  generalize gridD (mkG r c f) = G at *
  generalize gridD (mkG r c (trn c (trn r (trn c (trn r f))))) = G4 at *
  generalize ((ways r c f).map gridD).map Va.dat = W at *
  simp [F_eight_ways, mkFn, c_eight_ways, mkEv, newL, g4, loop, asRet]
end
end Sk

set_option maxHeartbeats 1000000
/-! Sk, part 44: airs that spread: the plain sums. -/
namespace Sk
open PySem PySem.Spec PyProof.Rows L2 GxR
abbrev Gr := Nat → Nat → Int
def up (F : Gr) (a : Nat × Nat) (d : Int) : Gr := fun i j => if (i, j) = a then F i j + d else F i j
def gv1 (d : Int) (p : Nat × Nat) (F : Gr) (n : Nat × Nat) : Gr := up (up F n d) p (-d)
def gives (q : Nat × Nat → Int) (r c : Nat) (F : Gr) (p : Nat × Nat) : Gr := (nb r c p.1 p.2).foldl (gv1 (q p) p) F
def tot (r c : Nat) (F : Gr) : Int := ((pls r c).map fun p => F p.1 p.2).sum
def spr (parts : Int) (r c : Nat) (f : Gr) : Gr := fun i j => f i j + ((nb r c i j).map fun n => f n.1 n.2 / parts - f i j / parts).sum
/-! ### sums over lists -/
theorem sum_add {α : Type} (f g : α → Int) (xs : List α) : (xs.map fun a => f a + g a).sum = (xs.map f).sum + (xs.map g).sum := by
  induction xs with
  | nil => rfl
  | cons a r ih => simp only [List.map_cons, List.sum_cons]; omega
theorem sum_zero {α : Type} (f : α → Int) (xs : List α) (h : ∀ a ∈ xs, f a = 0) : (xs.map f).sum = 0 := by
  induction xs with
  | nil => rfl
  | cons a r ih => simp only [List.map_cons, List.sum_cons]; rw [h a (by simp), ih fun b hb => h b (List.mem_cons_of_mem _ hb)]; rfl
theorem sum_one {α : Type} [DecidableEq α] (a : α) (d : Int) : ∀ xs : List α, xs.Nodup → (xs.map fun n => if a = n then d else 0).sum = if a ∈ xs then d else 0
  | [], _ => by simp
  | x :: r, h => by
    obtain ⟨h1, h2⟩ := List.nodup_cons.mp h
    have ih := sum_one a d r h2
    simp only [List.map_cons, List.sum_cons, ih, List.mem_cons]
    by_cases e : a = x
    · subst e
      simp [h1]
    · simp [e]
theorem perm_sum {a b : List Int} (h : a.Perm b) : a.sum = b.sum := by
  induction h with
  | nil => rfl
  | cons x _ ih => simp [ih]
  | swap x y l => simp only [List.sum_cons]; omega
  | trans _ _ i1 i2 => exact i1.trans i2
theorem sum_mem {α : Type} [DecidableEq α] (q : α → Int) {L M : List α} (hL : L.Nodup) (hM : M.Nodup) (hs : ∀ x ∈ M, x ∈ L) : (L.map fun p => if p ∈ M then q p else 0).sum = (M.map q).sum := by
  have e1 : (L.map fun p => if p ∈ M then q p else 0).sum = ((L.filter fun p => decide (p ∈ M)).map q).sum := by
    clear hL hs
    induction L with
    | nil => rfl
    | cons a r ih =>
      by_cases h : a ∈ M
      · simp only [List.map_cons, List.sum_cons, h, if_true, ih, List.filter_cons, decide_true]
      · simp only [List.map_cons, List.sum_cons, h, if_false, ih, List.filter_cons, decide_false, Bool.false_eq_true, Int.zero_add]
  rw [e1]
  have hp : (L.filter fun p => decide (p ∈ M)).Perm M := (List.perm_ext_iff_of_nodup (hL.filter _) hM).mpr fun a => by
    simp only [List.mem_filter, decide_eq_true_eq]
    exact ⟨fun z => z.2, fun z => ⟨hs a z, z⟩⟩
  exact perm_sum (hp.map q)
/-! ### cells beside, in words -/
theorem nb_iff {r c i j a b : Nat} : (a, b) ∈ nb r c i j ↔ (a + 1 = i ∧ b = j) ∨ (a = i ∧ b + 1 = j) ∨ (a = i ∧ b = j + 1 ∧ j + 1 < c) ∨ (a = i + 1 ∧ b = j ∧ i + 1 < r) := by
  unfold nb
  simp only [List.mem_append]
  constructor
  · rintro (((h | h) | h) | h)
    all_goals
      split at h
      · have e := List.mem_singleton.mp h
        simp [Prod.ext_iff] at e
        omega
      · simp at h
  · rintro (h | h | h | h)
    · refine .inl (.inl (.inl ?_)); rw [if_pos (by omega)]; simp [Prod.ext_iff]; omega
    · refine .inl (.inl (.inr ?_)); rw [if_pos (by omega)]; simp [Prod.ext_iff]; omega
    · refine .inl (.inr ?_); rw [if_pos (by omega)]; simp [Prod.ext_iff]; omega
    · refine .inr ?_; rw [if_pos (by omega)]; simp [Prod.ext_iff]; omega
theorem nb_sym {r c i j a b : Nat} (hi : i < r) (hj : j < c) (ha : a < r) (hb : b < c) : (a, b) ∈ nb r c i j ↔ (i, j) ∈ nb r c a b := by
  rw [nb_iff, nb_iff]
  omega
theorem nb_nodup (r c i j : Nat) : (nb r c i j).Nodup := by
  unfold nb
  split <;> split <;> split <;> split <;> simp [Prod.ext_iff] <;> omega
theorem pls_nodup (r c : Nat) : (pls r c).Nodup := by
  induction r with
  | zero => simp [pls]
  | succ n ih =>
    rw [pls_succ, List.nodup_append]
    refine ⟨ih, ?_, ?_⟩
    · exact List.Pairwise.map _ (fun a b h z => h (by simpa using z)) List.nodup_range
    · intro a ha b hb z
      subst z
      have := (pls_mem.mp ha).1
      obtain ⟨j, _, e⟩ := List.mem_map.mp hb
      rw [← e] at this
      simp at this
end Sk

set_option maxHeartbeats 1000000
/-! Sk, part 45: airs that spread: what all gifts come to. -/
namespace Sk
open PySem PySem.Spec PyProof.Rows L2 GxR
theorem up_at (F : Gr) (a : Nat × Nat) (d : Int) (x y : Nat) : up F a d x y = F x y + if (x, y) = a then d else 0 := by
  unfold up
  split <;> simp
theorem gv1_at (d : Int) (p n : Nat × Nat) (F : Gr) (x y : Nat) : gv1 d p F n x y = F x y + ((if (x, y) = n then d else 0) + if (x, y) = p then -d else 0) := by
  unfold gv1
  rw [up_at, up_at]
  omega
theorem gvs_at (d : Int) (p : Nat × Nat) : ∀ (ns : List (Nat × Nat)) (F : Gr) (x y : Nat), ns.foldl (gv1 d p) F x y = F x y + (ns.map fun n => (if (x, y) = n then d else 0) + if (x, y) = p then -d else 0).sum
  | [], F, x, y => by simp
  | n :: r, F, x, y => by
    rw [List.foldl_cons, gvs_at d p r, gv1_at, List.map_cons, List.sum_cons]
    omega
theorem gives_at (q : Nat × Nat → Int) (r c : Nat) : ∀ (ps : List (Nat × Nat)) (F : Gr) (x y : Nat), ps.foldl (gives q r c) F x y = F x y + (ps.map fun p => ((nb r c p.1 p.2).map fun n => (if (x, y) = n then q p else 0) + if (x, y) = p then -q p else 0).sum).sum
  | [], F, x, y => by simp
  | p :: s, F, x, y => by
    rw [List.foldl_cons, gives_at q r c s, List.map_cons, List.sum_cons]
    show gives q r c F p x y + _ = _
    unfold gives
    rw [gvs_at]
    omega
/-- all gifts together -/
theorem gives_all {q : Nat × Nat → Int} {r c : Nat} (F : Gr) {x y : Nat} (hx : x < r) (hy : y < c) : (pls r c).foldl (gives q r c) F x y = F x y + ((nb r c x y).map fun n => q n - q (x, y)).sum := by
  rw [gives_at]
  congr 1
  have e1 : ∀ p ∈ pls r c, ((nb r c p.1 p.2).map fun n => (if (x, y) = n then q p else 0) + if (x, y) = p then -q p else 0).sum = (if p ∈ nb r c x y then q p else 0) + if (x, y) = p then -(((nb r c x y).map fun _ => q (x, y)).sum) else 0 := fun p hp => by
    obtain ⟨a, b⟩ := p
    obtain ⟨h1, h2⟩ := pls_mem.mp hp
    simp only at h1 h2
    rw [sum_add, sum_one _ _ _ (nb_nodup r c a b)]
    congr 1
    · have := nb_sym h1 h2 hx hy
      by_cases h : (a, b) ∈ nb r c x y
      · rw [if_pos h, if_pos (this.mpr h)]
      · rw [if_neg h, if_neg fun z => h (this.mp z)]
    · by_cases h : (x, y) = (a, b)
      · rw [if_pos h]
        cases h
        simp only [if_true]
        induction nb r c x y with
        | nil => rfl
        | cons n r ih => simp only [List.map_cons, List.sum_cons]; omega
      · simp only [h, if_false]
        exact sum_zero _ _ fun _ _ => rfl
  have e0 : ((pls r c).map fun a => if a ∈ nb r c x y then q a else 0).sum = ((nb r c x y).map q).sum := by
    refine Eq.trans ?_ (sum_mem q (pls_nodup r c) (nb_nodup r c x y) (fun n hn => pls_mem.mpr ⟨(nb_mem hx hy hn).1, (nb_mem hx hy hn).2.1⟩))
    congr 1
    refine List.map_congr_left fun p _ => ?_
    by_cases h : p ∈ nb r c x y
    · rw [if_pos h, if_pos h]
    · rw [if_neg h, if_neg h]
  rw [List.map_congr_left e1, sum_add, e0]
  have e2 := sum_one (x, y) (-(((nb r c x y).map fun _ => q (x, y)).sum)) (pls r c) (pls_nodup r c)
  rw [if_pos (pls_mem.mpr ⟨hx, hy⟩)] at e2
  rw [e2]
  have e3 := sum_sub q (fun _ => q (x, y)) (nb r c x y)
  rw [← e3]
  omega
/-! ### nothing is lost -/
theorem tot_up {r c : Nat} (F : Gr) {a : Nat × Nat} (d : Int) (h : a ∈ pls r c) : tot r c (up F a d) = tot r c F + d := by
  unfold tot
  have e : ((pls r c).map fun p => up F a d p.1 p.2) = (pls r c).map fun p => F p.1 p.2 + if a = p then d else 0 := List.map_congr_left fun p _ => by
    rw [up_at]
    congr 1
    by_cases z : a = p
    · subst z; simp
    · rw [if_neg z, if_neg fun y => z (by rw [← y])]
  rw [e, sum_add, sum_one _ _ _ (pls_nodup r c), if_pos h]
theorem tot_gives {q : Nat × Nat → Int} {r c : Nat} : ∀ (ps : List (Nat × Nat)) (F : Gr), (∀ p ∈ ps, p ∈ pls r c) → tot r c (ps.foldl (gives q r c) F) = tot r c F
  | [], F, _ => rfl
  | p :: s, F, h => by
    rw [List.foldl_cons, tot_gives s _ fun a ha => h a (List.mem_cons_of_mem _ ha)]
    have hp := h p (by simp)
    obtain ⟨h1, h2⟩ := pls_mem.mp hp
    unfold gives
    have : ∀ (ns : List (Nat × Nat)) (F : Gr), (∀ n ∈ ns, n ∈ pls r c) → tot r c (ns.foldl (gv1 (q p) p) F) = tot r c F := by
      intro ns
      induction ns with
      | nil => intro F _; rfl
      | cons n t ih =>
        intro F hn
        rw [List.foldl_cons, ih _ fun a ha => hn a (List.mem_cons_of_mem _ ha)]
        unfold gv1
        rw [tot_up _ _ hp, tot_up _ _ (hn n (by simp))]
        omega
    exact this _ F fun n hn => pls_mem.mpr ⟨(nb_mem h1 h2 hn).1, (nb_mem h1 h2 hn).2.1⟩
theorem tot_spr (parts : Int) (r c : Nat) (f : Gr) : tot r c (spr parts r c f) = tot r c f := by
  have e : tot r c (spr parts r c f) = tot r c ((pls r c).foldl (gives (fun p => f p.1 p.2 / parts) r c) f) := by
    unfold tot
    congr 1
    refine List.map_congr_left fun p hp => ?_
    obtain ⟨h1, h2⟩ := pls_mem.mp hp
    rw [gives_all f h1 h2]
    rfl
  rw [e, tot_gives _ _ fun _ h => h]
theorem sum_rows (r c : Nat) (f : Gr) : ((mkG r c f).map List.sum).sum = tot r c f := by
  unfold tot
  induction r with
  | zero => rfl
  | succ n ih =>
    have e : mkG (n + 1) c f = mkG n c f ++ [(List.range c).map fun j => f n j] := by
      unfold mkG
      rw [List.range_succ, List.map_append]
      rfl
    rw [e, List.map_append, List.sum_append, ih, pls_succ, List.map_append, List.sum_append]
    simp
    rfl
end Sk

set_option maxHeartbeats 1000000
/-! Sk, part 46: airs that spread: turned grids, bounds. -/
namespace Sk
open PySem PySem.Spec PyProof.Rows L2 GxR
theorem nb_sum (r c i j : Nat) (g : Nat × Nat → Int) : ((nb r c i j).map g).sum = (if 0 < i then g (i - 1, j) else 0) + (if 0 < j then g (i, j - 1) else 0) + (if j + 1 < c then g (i, j + 1) else 0) + (if i + 1 < r then g (i + 1, j) else 0) := by
  unfold nb
  by_cases h1 : 0 < i <;> by_cases h2 : 0 < j <;> by_cases h3 : j + 1 < c <;> by_cases h4 : i + 1 < r <;> simp [h1, h2, h3, h4] <;> omega
section
variable {parts : Int} {r c : Nat} {f : Gr}
theorem if_eq {p q : Prop} [Decidable p] [Decidable q] {a b : Int} (h : p ↔ q) (e : p → a = b) : (if p then a else 0) = if q then b else 0 := by
  by_cases hp : p
  · rw [if_pos hp, if_pos (h.mp hp), e hp]
  · rw [if_neg hp, if_neg fun z => hp (h.mpr z)]
theorem spr_trn {i j : Nat} (hi : i < c) (hj : j < r) : spr parts c r (trn r f) i j = trn r (spr parts r c f) i j := by
  unfold spr
  show trn r f i j + _ = f (r - 1 - j) i + _
  rw [nb_sum, nb_sum]
  have a1 : (if 0 < i then trn r f (i - 1, j).1 (i - 1, j).2 / parts - trn r f i j / parts else 0) = if 0 < i then f (r - 1 - j, i - 1).1 (r - 1 - j, i - 1).2 / parts - f (r - 1 - j) i / parts else 0 := rfl
  have a2 : (if 0 < j then trn r f (i, j - 1).1 (i, j - 1).2 / parts - trn r f i j / parts else 0) = if r - 1 - j + 1 < r then f (r - 1 - j + 1, i).1 (r - 1 - j + 1, i).2 / parts - f (r - 1 - j) i / parts else 0 := if_eq (by omega) fun h => by
    show f (r - 1 - (j - 1)) i / parts - _ = _
    rw [show r - 1 - (j - 1) = r - 1 - j + 1 by omega]
    rfl
  have a3 : (if j + 1 < r then trn r f (i, j + 1).1 (i, j + 1).2 / parts - trn r f i j / parts else 0) = if 0 < r - 1 - j then f (r - 1 - j - 1, i).1 (r - 1 - j - 1, i).2 / parts - f (r - 1 - j) i / parts else 0 := if_eq (by omega) fun h => by
    show f (r - 1 - (j + 1)) i / parts - _ = _
    rw [show r - 1 - (j + 1) = r - 1 - j - 1 by omega]
    rfl
  have a4 : (if i + 1 < c then trn r f (i + 1, j).1 (i + 1, j).2 / parts - trn r f i j / parts else 0) = if i + 1 < c then f (r - 1 - j, i + 1).1 (r - 1 - j, i + 1).2 / parts - f (r - 1 - j) i / parts else 0 := rfl
  rw [a1, a2, a3, a4]
  show f (r - 1 - j) i + _ = _
  omega
theorem spr_mir {i j : Nat} (hi : i < r) (hj : j < c) : spr parts r c (mir c f) i j = mir c (spr parts r c f) i j := by
  unfold spr
  show mir c f i j + _ = f i (c - 1 - j) + _
  rw [nb_sum, nb_sum]
  have a1 : (if 0 < i then mir c f (i - 1, j).1 (i - 1, j).2 / parts - mir c f i j / parts else 0) = if 0 < i then f (i - 1, c - 1 - j).1 (i - 1, c - 1 - j).2 / parts - f i (c - 1 - j) / parts else 0 := rfl
  have a2 : (if 0 < j then mir c f (i, j - 1).1 (i, j - 1).2 / parts - mir c f i j / parts else 0) = if c - 1 - j + 1 < c then f (i, c - 1 - j + 1).1 (i, c - 1 - j + 1).2 / parts - f i (c - 1 - j) / parts else 0 := if_eq (by omega) fun h => by
    show f i (c - 1 - (j - 1)) / parts - _ = _
    rw [show c - 1 - (j - 1) = c - 1 - j + 1 by omega]
    rfl
  have a3 : (if j + 1 < c then mir c f (i, j + 1).1 (i, j + 1).2 / parts - mir c f i j / parts else 0) = if 0 < c - 1 - j then f (i, c - 1 - j - 1).1 (i, c - 1 - j - 1).2 / parts - f i (c - 1 - j) / parts else 0 := if_eq (by omega) fun h => by
    show f i (c - 1 - (j + 1)) / parts - _ = _
    rw [show c - 1 - (j + 1) = c - 1 - j - 1 by omega]
    rfl
  have a4 : (if i + 1 < r then mir c f (i + 1, j).1 (i + 1, j).2 / parts - mir c f i j / parts else 0) = if i + 1 < r then f (i + 1, c - 1 - j).1 (i + 1, c - 1 - j).2 / parts - f i (c - 1 - j) / parts else 0 := rfl
  rw [a1, a2, a3, a4]
  show f i (c - 1 - j) + _ = _
  omega
/-! ### bounds -/
theorem sum_ge {α : Type} (g : α → Int) (d : Int) : ∀ xs : List α, (∀ a ∈ xs, d ≤ g a) → d * (xs.length : Int) ≤ (xs.map g).sum
  | [], _ => by simp
  | a :: r, h => by
    have := sum_ge g d r fun b hb => h b (List.mem_cons_of_mem _ hb)
    have := h a (by simp)
    simp only [List.map_cons, List.sum_cons, List.length_cons]
    push_cast
    rw [Int.mul_add]
    omega
theorem sum_le {α : Type} (g : α → Int) (d : Int) : ∀ xs : List α, (∀ a ∈ xs, g a ≤ d) → (xs.map g).sum ≤ d * (xs.length : Int)
  | [], _ => by simp
  | a :: r, h => by
    have := sum_le g d r fun b hb => h b (List.mem_cons_of_mem _ hb)
    have := h a (by simp)
    simp only [List.map_cons, List.sum_cons, List.length_cons]
    push_cast
    rw [Int.mul_add]
    omega
/-- quotients of near numbers are nearer -/
theorem div_near {p a b : Int} (hp : 5 ≤ p) (h : a ≤ b) : 0 ≤ b / p - a / p ∧ (b / p - a / p) * 5 - 4 ≤ b - a := by
  have h1 := Int.mul_ediv_add_emod a p
  have h2 := Int.mul_ediv_add_emod b p
  have h3 := Int.emod_nonneg a (show p ≠ 0 by omega)
  have h4 := Int.emod_lt_of_pos a (show 0 < p by omega)
  have h5 := Int.emod_nonneg b (show p ≠ 0 by omega)
  have h6 := Int.emod_lt_of_pos b (show 0 < p by omega)
  have hm : a / p ≤ b / p := Int.ediv_le_ediv (by omega) h
  obtain ⟨d, hd⟩ : ∃ d, d = b / p - a / p := ⟨_, rfl⟩
  rw [← hd]
  refine ⟨by omega, ?_⟩
  by_cases h0 : d = 0
  · subst h0
    omega
  · have hk : 0 ≤ (p - 5) * (d - 1) := Int.mul_nonneg (by omega) (by omega)
    have e1 : p * (b / p) = p * (a / p) + p * d := by rw [hd, Int.mul_sub]; omega
    have e2 : (p - 5) * (d - 1) = p * d - p - 5 * d + 5 := by
      rw [Int.sub_mul, Int.mul_sub, Int.mul_sub]
      omega
    omega
theorem four_mul {d : Int} (h : 0 ≤ d) {n : Nat} (hn : n ≤ 4) : d * (n : Int) ≤ d * 4 ∧ 0 ≤ d * (n : Int) := ⟨Int.mul_le_mul_of_nonneg_left (by omega) h, Int.mul_nonneg h (by omega)⟩
theorem spr_lo (hp : 5 ≤ parts) {i j : Nat} {lo : Int} (h0 : lo ≤ f i j) (h : ∀ n ∈ nb r c i j, lo ≤ f n.1 n.2) : lo - 4 ≤ spr parts r c f i j := by
  obtain ⟨d1, d2⟩ := div_near hp h0
  have hs := sum_ge (fun n : Nat × Nat => f n.1 n.2 / parts - f i j / parts) (lo / parts - f i j / parts) (nb r c i j) fun n hn => by
    have : lo / parts ≤ f n.1 n.2 / parts := Int.ediv_le_ediv (by omega) (h n hn)
    omega
  have h4 := four_mul d1 (nb_len r c i j)
  have e : (lo / parts - f i j / parts) * ((nb r c i j).length : Int) = -((f i j / parts - lo / parts) * ((nb r c i j).length : Int)) := by rw [← Int.neg_mul]; congr 1; omega
  unfold spr
  omega
theorem spr_nn (hp : 5 ≤ parts) {i j : Nat} (h0 : 0 ≤ f i j) (h : ∀ n ∈ nb r c i j, 0 ≤ f n.1 n.2) : 0 ≤ spr parts r c f i j := by
  have hs := sum_ge (fun n : Nat × Nat => f n.1 n.2 / parts - f i j / parts) (0 - f i j / parts) (nb r c i j) fun n hn => by
    have : 0 ≤ f n.1 n.2 / parts := Int.ediv_nonneg (h n hn) (by omega)
    omega
  have h1 : 0 ≤ f i j / parts := Int.ediv_nonneg h0 (by omega)
  have h4 := four_mul h1 (nb_len r c i j)
  have h5 := Int.mul_ediv_add_emod (f i j) parts
  have h6 := Int.emod_nonneg (f i j) (show parts ≠ 0 by omega)
  have h7 : 0 ≤ (parts - 5) * (f i j / parts) := Int.mul_nonneg (by omega) h1
  rw [Int.sub_mul] at h7
  have e : (0 - f i j / parts) * ((nb r c i j).length : Int) = -((f i j / parts) * ((nb r c i j).length : Int)) := by rw [← Int.neg_mul]; congr 1; omega
  unfold spr
  omega
theorem spr_hi (hp : 5 ≤ parts) {i j : Nat} {hi : Int} (h0 : f i j ≤ hi) (h : ∀ n ∈ nb r c i j, f n.1 n.2 ≤ hi) : spr parts r c f i j ≤ hi + 4 := by
  obtain ⟨d1, d2⟩ := div_near hp h0
  have hs := sum_le (fun n : Nat × Nat => f n.1 n.2 / parts - f i j / parts) (hi / parts - f i j / parts) (nb r c i j) fun n hn => by
    have : f n.1 n.2 / parts ≤ hi / parts := Int.ediv_le_ediv (by omega) (h n hn)
    omega
  have h4 := four_mul d1 (nb_len r c i j)
  unfold spr
  omega
/-- a grid whose cells hold something, together not too much -/
def Airs (r c : Nat) (f : Gr) (M : Int) : Prop := (∀ i j, i < r → j < c → 0 ≤ f i j) ∧ tot r c f ≤ M
theorem Airs.spr {M : Int} (hp : 5 ≤ parts) (h : Airs r c f M) : Airs r c (spr parts r c f) M := ⟨fun i j hi hj => spr_nn hp (h.1 i j hi hj) fun n hn => h.1 _ _ (nb_mem hi hj hn).1 (nb_mem hi hj hn).2.1, by rw [tot_spr]; exact h.2⟩
theorem sum_one_le {α : Type} (g : α → Int) : ∀ {xs : List α}, (∀ a ∈ xs, 0 ≤ g a) → ∀ a ∈ xs, g a ≤ (xs.map g).sum
  | x :: r, h, a, ha => by
    have h1 := h x (by simp)
    have h2 := sum_ge g 0 r fun b hb => h b (List.mem_cons_of_mem _ hb)
    simp only [List.map_cons, List.sum_cons]
    rcases List.mem_cons.mp ha with e | ha
    · subst e; omega
    · have := sum_one_le g (xs := r) (fun b hb => h b (List.mem_cons_of_mem _ hb)) a ha
      omega
theorem Airs.le {M : Int} (h : Airs r c f M) {i j : Nat} (hi : i < r) (hj : j < c) : f i j ≤ M := by
  have := sum_one_le (fun p : Nat × Nat => f p.1 p.2) (xs := pls r c) (fun p hp => h.1 _ _ (pls_mem.mp hp).1 (pls_mem.mp hp).2) (i, j) (pls_mem.mpr ⟨hi, hj⟩)
  have h2 := h.2
  unfold tot at h2
  exact Int.le_trans this h2
theorem Airs.of {B : Int} (hB : 0 ≤ B) (h : ∀ i j, i < r → j < c → 0 ≤ f i j ∧ f i j ≤ B) : Airs r c f (B * (r * c : Nat)) := ⟨fun i j hi hj => (h i j hi hj).1, by
  have := sum_le (fun p : Nat × Nat => f p.1 p.2) B (pls r c) fun p hp => (h _ _ (pls_mem.mp hp).1 (pls_mem.mp hp).2).2
  rw [pls_len] at this
  exact this⟩
end
end Sk

set_option maxHeartbeats 1000000
/-! Sk, part 47: airs that spread: the program. -/
namespace Sk
open PySem PySem.Spec PyProof.Rows L2 GxR
def c_share : CS :=
    (dRet (dBin divV (dVar 0) (dVar 1)))
def F_share : Fn := mkFn 2 c_share
def fb_spread_once1 : CS :=
    (dSeq (dAugS addI (dBin ixV (dVar 2) (dVar 5)) (dVar 6) (dVar 4))
    (dAugS subV (dBin ixV (dVar 2) (dBin ixV (dVar 3) (dC (.int 0)))) (dBin ixV (dVar 3) (dC (.int 1))) (dVar 4)))
def fb_spread_once2 : CS :=
    (dSeq (dAsg (dCallP F_share 2 (dCons (dCallP F_at 2 (dCons (dVar 0) (dCons (dVar 3) dNil))) (dCons (dVar 1) dNil))) (gN 4))
    (dFor (dIter (dCallP F_beside 3 (dCons (dVar 0) (dCons (dVar 3) (dCons (dVal k_FOUR) dNil))))) (gTp 2 (gsCons (gN 5) (gsCons (gN 6) gsNil))) fb_spread_once1))
def c_spread_once : CS :=
    (dSeq (dDo (dCallP F_check_grid 3 (dCons (dVar 0) (dCons (dC (.int 0)) (dCons (dC (.int 1000000000)) dNil)))))
    (dSeq (dIfS (dNotT (dTest (dCallP F_is_whole 3 (dCons (dVar 1) (dCons (dC (.int 5)) (dCons (dC (.int 1000)) dNil)))))) (dRaise 3) dSkip)
    (dSeq (dAsg (dComp newL (dIter (dVar 0)) [5] (gN 5) dYes (dCallB listM (dCons (dVar 5) dNil))) (gN 2))
    (dSeq (dFor (dIter (dCallP F_cells 1 (dCons (dVar 0) dNil))) (gN 3) fb_spread_once2)
    (dRet (dCallB tupleV (dCons (dComp asF (dIter (dVar 2)) [5] (gN 5) dYes (dCallB tupleV (dCons (dVar 5) dNil))) dNil)))))))
def F_spread_once : Fn := mkFn 7 c_spread_once
theorem compL_push {α : Type} {f : Va → Ev → Sto → Rs (Option Va)} {h : α → Va} {O : α → Ob} {ev : Ev} : ∀ {xs : List α} {st : Sto}, (∀ a ∈ xs, ∀ st, f (h a) ev st = .ok (some (.ref st.length)) (st ++ [some (O a)])) → compL none f (xs.map h) ev st = .ok ((List.range xs.length).map fun k => .ref (st.length + k)) (st ++ xs.map fun a => some (O a))
  | [], st, _ => by simp [compL]
  | a :: r, st, hf => by
    have e1 := hf a (by simp) st
    have e2 := compL_push (xs := r) (st := st ++ [some (O a)]) fun b hb => hf b (List.mem_cons_of_mem _ hb)
    simp only [List.map_cons, compL, lkOk_none, if_true, e1, Rs.bind_ok, e2, consO, List.length_cons, List.range_succ_eq_map, List.map_map, List.append_assoc, List.cons_append, List.nil_append]
    congr 1
    simp [Function.comp_def, Nat.add_assoc, Nat.add_comm 1]
/-! ### rows in the store -/
def rwL (c : Nat) (F : Gr) (i : Nat) : List Va := (List.range c).map fun j => .dat (.int (F i j))
def stS (r c : Nat) (F : Gr) : Sto := ((List.range r).map fun i => some (.lst (rwL c F i))) ++ [some (.lst ((List.range r).map .ref))]
section
variable {r c : Nat} {F : Gr}
theorem stS_len (r c : Nat) (F : Gr) : (stS r c F).length = r + 1 := by simp [stS]
theorem stS_row {i : Nat} (h : i < r) : (stS r c F)[i]? = some (some (.lst (rwL c F i))) := by
  unfold stS
  rw [List.getElem?_append_left (by simpa using h), List.getElem?_map, List.getElem?_range h]
  rfl
theorem stS_out (r c : Nat) (F : Gr) : (stS r c F)[r]? = some (some (.lst ((List.range r).map .ref))) := by
  unfold stS
  rw [List.getElem?_append_right (by simp)]
  simp
theorem stS_ext {G : Gr} (h : ∀ i j, i < r → j < c → F i j = G i j) : stS r c F = stS r c G := by
  unfold stS rwL
  congr 1
  refine List.map_congr_left fun i hi => ?_
  congr 2
  exact List.map_congr_left fun j hj => by rw [h i j (by simpa using hi) (by simpa using hj)]
theorem stS_set {a b : Nat} (ha : a < r) (hb : b < c) (d : Int) : (stS r c F).set a (some (.lst ((rwL c F a).set b (.dat (.int (F a b + d)))))) = stS r c (up F (a, b) d) := by
  apply List.ext_getElem?
  intro k
  by_cases hk : k < r
  · rw [stS_row hk, List.getElem?_set]
    by_cases e : a = k
    · subst e
      rw [if_pos rfl, if_pos (by rw [stS_len]; omega)]
      congr 3
      apply List.ext_getElem?
      intro m
      unfold rwL
      rw [List.getElem?_set]
      by_cases hm : m < c
      · rw [List.getElem?_map, List.getElem?_map, List.getElem?_range hm]
        by_cases e2 : b = m
        · subst e2
          rw [if_pos rfl, if_pos (by simpa using hb)]
          simp [up]
        · rw [if_neg e2]
          simp [up, Ne.symm e2]
      · rw [List.getElem?_eq_none (by simp; omega), List.getElem?_eq_none (by simp; omega), if_neg (by omega)]
    · rw [if_neg e, stS_row hk]
      congr 3
      unfold rwL
      refine List.map_congr_left fun m _ => ?_
      simp [up, Ne.symm e]
  · rw [List.getElem?_set, if_neg (by omega)]
    by_cases e : k = r
    · subst e
      rw [stS_out, stS_out]
    · rw [List.getElem?_eq_none (by rw [stS_len]; omega), List.getElem?_eq_none (by rw [stS_len]; omega)]
theorem stS_pick {a : Nat} (ha : a < r) : ixV (.ref r) (.dat (.int (a : Int))) (stS r c F) = .ok (.ref a) (stS r c F) :=
  ixV_r (stS_out r c F) (atI_pos (n := a) (by rw [List.getElem?_map, List.getElem?_range ha]; rfl) rfl)
theorem stS_get {a b : Nat} (ha : a < r) (hb : b < c) : getR (.ref a) (.dat (.int (b : Int))) (stS r c F) = .ok (.dat (.int (F a b))) (stS r c F) := by
  have h : L2.atI (rwL c F a) (b : Int) = some (.dat (.int (F a b))) := atI_pos (n := b) (by unfold rwL; rw [List.getElem?_map, List.getElem?_range hb]; rfl) rfl
  simp only [getR]
  exact ixV_r (stS_row ha) h
theorem stS_put {a b : Nat} (ha : a < r) (hb : b < c) (d : Int) : setV (.ref a) (.dat (.int (b : Int))) (.dat (.int (F a b + d))) (stS r c F) = .ok () (stS r c (up F (a, b) d)) := by
  rw [setV_r (j := b) (stS_row ha) (ixN_pos rfl (by unfold rwL; simpa using hb)), stS_set ha hb]
end
end Sk

set_option maxHeartbeats 1000000
/-! Sk, part 48: grids by names that simp leaves alone; spread_once. -/
namespace Sk
open PySem PySem.Spec PyProof.Rows L2 GxR
def gD (r c : Nat) (f : Gr) : PyData := gridD (mkG r c f)
def rD (c : Nat) (f : Nat → Int) : PyData := rowD ((List.range c).map f)
def psD (r c : Nat) : PyData := .list ((pls r c).map plD)
def nbD (r c i j : Nat) : PyData := .list ((nb r c i j).map plD)
section
variable {r c i j : Nat} {f : Gr} {h : Nat → Int} (st : Sto)
@[simp] theorem gD_len : lenV [.dat (gD r c f)] st = .ok (.dat (.int r)) st := mkG_len r c f st
theorem gD_at (hi : i < r) : ixV (.dat (gD r c f)) (.dat (.int (i : Int))) st = .ok (.dat (rD c (f i))) st := mkG_at hi st
theorem gD_at0 (hi : 0 < r) : ixV (.dat (gD r c f)) (.dat (.int 0)) st = .ok (.dat (rD c (f 0))) st := mkG_at (i := 0) hi st
@[simp] theorem rD_len : lenV [.dat (rD c h)] st = .ok (.dat (.int c)) st := row_len c h st
theorem rD_at (hj : j < c) : ixV (.dat (rD c h)) (.dat (.int (j : Int))) st = .ok (.dat (.int (h j))) st := row_at hj st
@[simp] theorem gD_items : itemsV (.dat (gD r c f)) st = .ok ((List.range r).map fun i => .dat (rD c (f i)), none) st := itGrid r c f st
@[simp] theorem rD_items : itemsV (.dat (rD c h)) st = .ok ((List.range c).map fun j => .dat (.int (h j)), none) st := by simp [rD, rowD]
@[simp] theorem psD_items : itemsV (.dat (psD r c)) st = .ok ((pls r c).map fun p => .dat (plD p), none) st := by simp [psD]
@[simp] theorem nbD_items : itemsV (.dat (nbD r c i j)) st = .ok ((nb r c i j).map fun p => .dat (plD p), none) st := by simp [nbD]
theorem gD_eq (r c : Nat) (f : Gr) : gD r c f = .tuple ((List.range r).map fun i => rD c (f i)) := by
  simp only [gD, gridD, mkG, rD, List.map_map, Function.comp_def]
theorem rD_eq (c : Nat) (h : Nat → Int) : rD c h = .tuple ((List.range c).map fun j => .int (h j)) := by
  simp only [rD, rowD, List.map_map, Function.comp_def]
theorem gD_ext {g : Gr} (e : ∀ i j, i < r → j < c → f i j = g i j) : gD r c f = gD r c g := by
  unfold gD
  rw [mkG_ext e]
theorem gd_gD : Gd gridD 2 := gd_grid
theorem mkG_inj {g : Gr} : mkG r c f = mkG r c g ↔ ∀ i j, i < r → j < c → f i j = g i j := ⟨fun e i j hi hj => by rw [← gv_mkG (f := f) hi hj, e, gv_mkG hi hj], mkG_ext⟩
theorem at_D (hi : i < r) (hj : j < c) : callP F_at 2 [.dat (gD r c f), .dat (plD (i, j))] st = .ok (.dat (.int (f i j))) st := at_eq hi hj st
theorem cells_D (r1 : 1 ≤ r) (hr : r ≤ 1000) (hc : c ≤ 1000) : callP F_cells 1 [.dat (gD r c f)] st = .ok (.dat (psD r c)) st := cells_eq r1 hr hc st
theorem size_D (r1 : 1 ≤ r) : callP F_size_of 1 [.dat (gD r c f)] st = .ok (.dat (.tuple [.int r, .int c])) st := size_eq r1 st
theorem beside_D (hi : i < r) (hj : j < c) : callP F_beside 3 [.dat (gD r c f), .dat (plD (i, j)), k_FOUR] st = .ok (.dat (nbD r c i j)) st := beside_eq hi hj st
theorem lawBeside_D (hi : i < r) (hj : j < c) : callP F__law_beside 2 [.dat (gD r c f), .dat (plD (i, j))] st = .ok (.dat (nbD r c i j)) st := lawBeside_eq hi hj st
theorem lawPlaces_D (r1 : 1 ≤ r) (hr : r ≤ 1000) (hc : c ≤ 1000) : callP F__law_places 1 [.dat (gD r c f)] st = .ok (.dat (psD r c)) st := lawPlaces_eq r1 hr hc st
theorem within_D (r1 : 1 ≤ r) (a b : Int) : callP F_within 2 [.dat (gD r c f), .dat (zpD a b)] st = .ok (.dat (.bool (inGr r c a b))) st := within_eq r1 a b st
theorem mirrored_D (hr : r ≤ 1000) : callP F_mirrored 1 [.dat (gD r c f)] st = .ok (.dat (gD r c (mir c f))) st := mirrored_eq hr st
theorem flipped_D (r1 : 1 ≤ r) (hr : r ≤ 1000) (hc : c ≤ 1000) : callP F_flipped 1 [.dat (gD r c f)] st = .ok (.dat (gD c r (flp f))) st := flipped_eq r1 hr hc st
theorem turned_D (r1 : 1 ≤ r) (hr : r ≤ 1000) (hc : c ≤ 1000) : callP F_turned 1 [.dat (gD r c f)] st = .ok (.dat (gD c r (trn r f))) st := turned_eq r1 hr hc st
theorem checkGrid_D {lo hi : Int} (r1 : 1 ≤ r) (r2 : r ≤ 40) (c1 : 1 ≤ c) (c2 : c ≤ 40) (hb : ∀ i j, i < r → j < c → lo ≤ f i j ∧ f i j ≤ hi) : callP F_check_grid 3 [.dat (gD r c f), .dat (.int lo), .dat (.int hi)] st = .ok (.dat .none) st :=
  callP_3 (checkGrid_ok (mkG_rect r c f) r1 r2 c1 c2 ((bnd_gv (mkG_rect r c f)).mpr fun i j hi hj => by rw [gv_mkG hi hj]; exact hb i j hi hj))
theorem whole_D (x lo hi : Int) : callP F_is_whole 3 [.dat (.int x), .dat (.int lo), .dat (.int hi)] st = .ok (.dat (.bool (decide (lo ≤ x) && decide (x ≤ hi)))) st := callP_3 (whole_i x lo hi)
theorem whole_bD (x : Bool) (lo hi : Int) : callP F_is_whole 3 [.dat (.bool x), .dat (.int lo), .dat (.int hi)] st = .ok (.dat (.bool false)) st := callP_3 (whole_b x lo hi)
theorem whole_nD (lo hi : Int) : callP F_is_whole 3 [.dat .none, .dat (.int lo), .dat (.int hi)] st = .ok (.dat (.bool false)) st := callP_3 (whole_n lo hi)
theorem share_D {a p : Int} (h0 : 0 < p) (h1 : p ≤ 1000000000) : callP F_share 2 [.dat (.int a), .dat (.int p)] st = .ok (.dat (.int (a / p))) st := by
  refine callP_2 (s2 := []) ?_
  simp [F_share, mkFn, c_share, mkEv, divV_i h0 h1, asRet]
end
/-! ### spread_once -/
section
variable {r c : Nat} {f : Gr} {parts : Int}
theorem spread_turn1 {a b x y : Nat} (ha : a < r) (hb : b < c) (hx : x < r) (hy : y < c) (F : Gr) (d : Int) {o0 o1 o5 o6 : Option Va} :
    dTurn (gTp 2 (gsCons (gN 5) (gsCons (gN 6) gsNil))) fb_spread_once1 (.dat (plD (a, b))) [o0, o1, some (.ref r), some (.dat (plD (x, y))), some (.dat (.int d)), o5, o6] (stS r c F) = .ok (.nx [o0, o1, some (.ref r), some (.dat (plD (x, y))), some (.dat (.int d)), some (.dat (.int a)), some (.dat (.int b))]) (stS r c (gv1 d (x, y) F (a, b))) := by
  have p0 : ∀ st, ixV (.dat (plD (x, y))) (.dat (.int 0)) st = .ok (.dat (.int x)) st := fun _ => rfl
  have p1 : ∀ st, ixV (.dat (plD (x, y))) (.dat (.int 1)) st = .ok (.dat (.int y)) st := fun _ => rfl
  have sq : ∀ st, seqOf st (.dat (plD (a, b))) = some (true, [.dat (.int a), .dat (.int b)]) := fun _ => rfl
  have e1 := stS_pick (c := c) (F := F) ha
  have e2 := stS_get (F := F) ha hb
  have e3 := stS_put (F := F) ha hb d
  have e4 := stS_pick (c := c) (F := up F (a, b) d) hx
  have e5 := stS_get (F := up F (a, b) d) hx hy
  have e6 := stS_put (F := up F (a, b) d) hx hy (-d)
  rw [Int.add_neg_eq_sub] at e6
  unfold gv1
  generalize stS r c F = S0 at *
  generalize stS r c (up F (a, b) d) = S1 at *
  generalize stS r c (up (up F (a, b) d) (x, y) (-d)) = S2 at *
  generalize plD (x, y) = P at *
  generalize plD (a, b) = A at *
  simp [fb_spread_once1, dAugS, sq, e1, e2, e3, e4, e5, e6, p0, p1]
theorem spread_turn2 {x y : Nat} (hx : x < r) (hy : y < c) (h0 : 0 < parts) (h1 : parts ≤ 1000000000) (F : Gr) {o3 o4 o5 o6 : Option Va} :
    ∃ o5' o6', dTurn (gN 3) fb_spread_once2 (.dat (plD (x, y))) [some (.dat (gD r c f)), some (.dat (.int parts)), some (.ref r), o3, o4, o5, o6] (stS r c F) = .ok (.nx [some (.dat (gD r c f)), some (.dat (.int parts)), some (.ref r), some (.dat (plD (x, y))), some (.dat (.int (f x y / parts))), o5', o6']) (stS r c (gives (fun p => f p.1 p.2 / parts) r c F (x, y))) := by
  have e1 := at_D (f := f) (stS r c F) hx hy
  have e2 := share_D (stS r c F) (a := f x y) h0 h1
  have e3 := beside_D (f := f) (stS r c F) hx hy
  have it := nbD_items (r := r) (c := c) (i := x) (j := y) (stS r c F)
  obtain ⟨ev', st', e, hs⟩ := forS_inv (b := dTurn (gTp 2 (gsCons (gN 5) (gsCons (gN 6) gsNil))) fb_spread_once1) (h := fun p => Va.dat (plD p))
    (fun k ev s => ∃ o5 o6, ev = [some (.dat (gD r c f)), some (.dat (.int parts)), some (.ref r), some (.dat (plD (x, y))), some (.dat (.int (f x y / parts))), o5, o6] ∧ s = stS r c (((nb r c x y).take k).foldl (gv1 (f x y / parts) (x, y)) F))
    (xs := nb r c x y) (k := 0) (ev := [some (.dat (gD r c f)), some (.dat (.int parts)), some (.ref r), some (.dat (plD (x, y))), some (.dat (.int (f x y / parts))), o5, o6]) (st := stS r c F) ⟨_, _, rfl, by simp⟩ fun k p ev s hk hI => by
      obtain ⟨o5, o6, rfl, rfl⟩ := hI
      obtain ⟨a, b⟩ := p
      have hm := nb_mem hx hy (List.mem_of_getElem? hk)
      rw [Nat.zero_add] at *
      refine ⟨_, _, .inl (spread_turn1 hm.1 hm.2.1 hx hy _ _), _, _, rfl, ?_⟩
      rw [List.take_succ, hk, List.foldl_append]
      rfl
  obtain ⟨o5', o6', rfl, rfl⟩ := hs
  rw [Nat.zero_add, List.take_length] at e
  refine ⟨o5', o6', ?_⟩
  unfold gives
  generalize stS r c F = S0 at *
  generalize stS r c ((nb r c x y).foldl (gv1 (f x y / parts) (x, y)) F) = S1 at *
  generalize plD (x, y) = P at *
  simp [fb_spread_once2, e1, e2, e3, it, e]
theorem spread_D (r1 : 1 ≤ r) (r2 : r ≤ 40) (c1 : 1 ≤ c) (c2 : c ≤ 40) (hb : ∀ i j, i < r → j < c → 0 ≤ f i j ∧ f i j ≤ 1000000000) (h0 : 5 ≤ parts) (h1 : parts ≤ 1000) (st : Sto) : callP F_spread_once 2 [.dat (gD r c f), .dat (.int parts)] st = .ok (.dat (gD r c (spr parts r c f))) st := by
  suffices h : ∃ s2, F_spread_once [.dat (gD r c f), .dat (.int parts)] [] = .ok (.dat (gD r c (spr parts r c f))) s2 by
    obtain ⟨s2, h⟩ := h
    exact callP_2 h
  have e1 := checkGrid_D (f := f) [] r1 r2 c1 c2 hb
  have e2 := whole_D [] parts 5 1000
  have fr : few r = true := few_lit (by omega)
  have e3 : compL none (Sk.compTurn (gN 5) dYes (dCallB listM (dCons (dVar 5) dNil))) ((List.range r).map fun i => Va.dat (rD c (f i))) [some (.dat (gD r c f)), some (.dat (.int parts)), none, none, none, none, none] [] = .ok ((List.range r).map .ref) ((List.range r).map fun i => some (.lst (rwL c f i))) := by
    have := compL_push (f := Sk.compTurn (gN 5) dYes (dCallB listM (dCons (dVar 5) dNil))) (h := fun i => Va.dat (rD c (f i))) (O := fun i => .lst (rwL c f i)) (ev := [some (.dat (gD r c f)), some (.dat (.int parts)), none, none, none, none, none]) (xs := List.range r) (st := []) fun i _ st => by
      have : listM [.dat (rD c (f i))] st = .ok (.ref st.length) (st ++ [some (.lst (rwL c f i))]) := by
        rw [rD_eq]
        simp [listM, newL, rwL]
      simp [Sk.compTurn, this]
    simpa using this
  have e4 := cells_D (c := c) (f := f) (stS r c f) r1 (by omega) (by omega)
  have it := psD_items (r := r) (c := c) (stS r c f)
  obtain ⟨ev', st', e, hs⟩ := forS_inv (b := dTurn (gN 3) fb_spread_once2) (h := fun p => Va.dat (plD p))
    (fun k ev s => ∃ o3 o4 o5 o6, ev = [some (.dat (gD r c f)), some (.dat (.int parts)), some (.ref r), o3, o4, o5, o6] ∧ s = stS r c (((pls r c).take k).foldl (gives (fun p => f p.1 p.2 / parts) r c) f))
    (xs := pls r c) (k := 0) (ev := [some (.dat (gD r c f)), some (.dat (.int parts)), some (.ref r), none, none, none, none]) (st := stS r c f) ⟨_, _, _, _, rfl, by simp⟩ fun k p ev s hk hI => by
      obtain ⟨o3, o4, o5, o6, rfl, rfl⟩ := hI
      obtain ⟨a, b⟩ := p
      have hm := pls_mem.mp (List.mem_of_getElem? hk)
      rw [Nat.zero_add] at *
      obtain ⟨o5', o6', e⟩ := spread_turn2 (f := f) hm.1 hm.2 (by omega) (by omega) (parts := parts) (((pls r c).take k).foldl (gives (fun p => f p.1 p.2 / parts) r c) f) (o3 := o3) (o4 := o4) (o5 := o5) (o6 := o6)
      refine ⟨_, _, .inl e, _, _, _, _, rfl, ?_⟩
      rw [List.take_succ, hk, List.foldl_append]
      rfl
  obtain ⟨o3, o4, o5, o6, rfl, rfl⟩ := hs
  rw [Nat.zero_add, List.take_length] at e
  have hS : stS r c ((pls r c).foldl (gives (fun p => f p.1 p.2 / parts) r c) f) = stS r c (spr parts r c f) := stS_ext fun i j hi hj => gives_all f hi hj
  rw [hS] at e
  have it2 := itemsV_r (stS_out r c (spr parts r c f))
  have e5 : ∀ o0 o1 o2 o3 o4 o6 : Option Va, compL (some (r, (List.range r).map .ref)) (Sk.compTurn (gN 5) dYes (dCallB tupleV (dCons (dVar 5) dNil))) ((List.range r).map .ref) [o0, o1, o2, o3, o4, none, o6] (stS r c (spr parts r c f)) = .ok ((List.range r).map fun i => .dat (rD c (spr parts r c f i))) (stS r c (spr parts r c f)) := fun o0 o1 o2 o3 o4 o6 =>
    compL_keep (h := Va.ref) it2.2 fun i hi => by
      have := tupleV_ref (f := fun x : Int => PyData.int x) (xs := (List.range c).map fun j => spr parts r c f i j) (st := stS r c (spr parts r c f)) (n := i) (by rw [stS_row (by simpa using hi)]; simp [rwL])
      rw [show PyData.tuple (((List.range c).map fun j => spr parts r c f i j).map fun x => PyData.int x) = rD c (spr parts r c f i) from rfl] at this
      simp [Sk.compTurn, this]
  have m1 := mkL_fun (fun i => rD c (spr parts r c f i)) (List.range r)
  have hn : newL ((List.range r).map .ref) ((List.range r).map fun i => some (.lst (rwL c f i))) = .ok (.ref r) (stS r c f) := by simp [newL, stS]
  have it1 := gD_items (r := r) (c := c) (f := f) []
  refine ⟨stS r c (spr parts r c f), ?_⟩
  have hq : (decide (5 ≤ parts) && decide (parts ≤ 1000)) = true := by simp [h0, h1]
  rw [hq] at e2
  rw [gD_eq r c (spr parts r c f)]
  have fr2 : few ((List.range r).map fun i => Va.dat (rD c (f i))).length = true := by simpa using fr
  have fr3 : few ((List.range r).map Va.ref).length = true := by simpa using fr
  generalize ((List.range r).map fun i => Va.dat (rD c (f i))) = Z1 at *
  generalize ((List.range r).map Va.ref) = Z2 at *
  generalize ((List.range r).map fun i => some (Ob.lst (rwL c f i))) = Z3 at *
  generalize ((List.range r).map fun i => Va.dat (rD c (spr parts r c f i))) = Z4 at *
  generalize stS r c (spr parts r c f) = S1 at *
  generalize stS r c f = S0 at *
  generalize gD r c f = G at *
  generalize ((pls r c).map fun p => Va.dat (plD p)) = Z5 at *
  simp [F_spread_once, mkFn, c_spread_once, mkEv, e1, e2, it1, fr2, wipeE, e3, hn, e4, it, e, it2.1, fr3, e5, asF, m1, asRet]
theorem spread_rule {bad : PyData} (r1 : 1 ≤ r) (r2 : r ≤ 40) (c1 : 1 ≤ c) (c2 : c ≤ 40) (hb : ∀ i j, i < r → j < c → 0 ≤ f i j ∧ f i j ≤ 1000000000) (h : callP F_is_whole 3 [.dat bad, .dat (.int 5), .dat (.int 1000)] [] = .ok (.dat (.bool false)) []) (st : Sto) : callP F_spread_once 2 [.dat (gD r c f), .dat bad] st = .err ⟨3, none⟩ st := by
  have e1 := checkGrid_D (f := f) [] r1 r2 c1 c2 hb
  refine callP_e2 (s2 := []) ?_
  simp [F_spread_once, mkFn, c_spread_once, mkEv, e1, h, dRaise]
end
end Sk

set_option maxHeartbeats 1000000
/-! Sk, part 49: plain laws step by step, slots by facts. -/
namespace Sk
open PySem PySem.Spec PyProof.Rows L2 GxR
section
variable {p q c : CS} {ev ev1 : Ev} {st st1 : Sto} {P P1 : Ev → Sto → Prop}
theorem Goes.s1 (h : match p ev st with | .ok (.nx ev1) st1 => Goes q ev1 st1 P | _ => False) : Goes (dSeq p q) ev st P := by
  cases e : p ev st with
  | ok f s =>
    rw [e] at h
    cases f with
    | nx ev1 => exact .seq e h
    | _ => exact h.elim
  | err x s => rw [e] at h; exact h.elim
  | bad => rw [e] at h; exact h.elim
theorem Goes.fin (h : match c ev st with | .ok (.nx ev1) st1 => P ev1 st1 | _ => False) : Goes c ev st P := by
  cases e : c ev st with
  | ok f s =>
    rw [e] at h
    cases f with
    | nx ev1 => exact ⟨_, _, e, h⟩
    | _ => exact h.elim
  | err x s => rw [e] at h; exact h.elim
  | bad => rw [e] at h; exact h.elim
theorem Goes.mono (h : Goes c ev st P) (hp : ∀ ev st, P ev st → P1 ev st) : Goes c ev st P1 := by
  obtain ⟨a, b, e, z⟩ := h
  exact ⟨a, b, e, hp a b z⟩
end
/-- slots outside ks are kept -/
def Up (ks : List Nat) (ev ev' : Ev) : Prop := ev'.length = ev.length ∧ ∀ i, i ∉ ks → ev'[i]? = ev[i]?
theorem Up.refl (ks : List Nat) (ev : Ev) : Up ks ev ev := ⟨rfl, fun _ _ => rfl⟩
theorem Up.trans {ks : List Nat} {a b c : Ev} (h : Up ks a b) (i : Up ks b c) : Up ks a c := ⟨i.1.trans h.1, fun k hk => (i.2 k hk).trans (h.2 k hk)⟩
theorem Up.len {ks : List Nat} {ev ev' : Ev} {n : Nat} (h : Up ks ev ev') (e : ev.length = n) : ev'.length = n := h.1.trans e
theorem Up.at {ks : List Nat} {ev ev' : Ev} {i : Nat} {x : Option (Option Va)} (h : Up ks ev ev') (e : ev[i]? = x) (hi : i ∉ ks := by decide) : ev'[i]? = x := (h.2 i hi).trans e
@[simp] theorem Up_set {ks : List Nat} {ev ev' : Ev} {k : Nat} {x : Option Va} (hk : k ∈ ks) : Up ks ev (ev'.set k x) ↔ Up ks ev ev' := by
  unfold Up
  rw [List.length_set]
  refine and_congr Iff.rfl ⟨fun h i hi => ?_, fun h i hi => ?_⟩
  · have hne : k ≠ i := fun z => hi (by rw [← z]; exact hk)
    have := h i hi
    rwa [List.getElem?_set_ne hne] at this
  · have hne : k ≠ i := fun z => hi (by rw [← z]; exact hk)
    rw [List.getElem?_set_ne hne]
    exact h i hi
theorem Up.wide {ks ls : List Nat} {ev ev' : Ev} (h : Up ks ev ev') (hs : ∀ k ∈ ks, k ∈ ls := by decide) : Up ls ev ev' := ⟨h.1, fun i hi => h.2 i fun z => hi (hs i z)⟩
/-! ### loops -/
section
variable {α : Type} {it : CI} {t : CT} {b : CS} {xs : List α} {h : α → Va} {ev : Ev} {st st0 : Sto}
theorem Goes.loop (I : Nat → Ev → Sto → Prop) (hit : it ev st = .ok (xs.map h, none) st0) (h0 : I 0 ev st0)
    (step : ∀ (k : Nat) (a : α) (ev : Ev) (st : Sto), xs[k]? = some a → I k ev st → Goes (dTurn t b (h a)) ev st (I (k + 1))) : Goes (dFor it t b) ev st (I xs.length) := by
  obtain ⟨ev', st', e, hi⟩ := forS_inv (b := dTurn t b) (h := h) I (xs := xs) (k := 0) h0 fun i a ev st ha hI => by
    rw [Nat.zero_add] at hI ⊢
    obtain ⟨x, y, e, z⟩ := step i a ev st ha hI
    exact ⟨x, y, .inl e, z⟩
  rw [Nat.zero_add] at hi
  exact ⟨ev', st', by rw [eFor, hit]; exact e, hi⟩
/-- a loop that only looks -/
theorem Goes.look (ks : List Nat) (hit : it ev st = .ok (xs.map h, none) st0)
    (step : ∀ a ∈ xs, ∀ ev', Up ks ev ev' → Goes (dTurn t b (h a)) ev' st0 fun ev2 s => s = st0 ∧ Up ks ev ev2) : Goes (dFor it t b) ev st fun ev' s => s = st0 ∧ Up ks ev ev' :=
  Goes.loop (fun _ ev' s => s = st0 ∧ Up ks ev ev') hit ⟨rfl, Up.refl _ _⟩ fun k a ev' s ha hI => by
    obtain ⟨rfl, hu⟩ := hI
    exact step a (List.mem_of_getElem? ha) ev' hu
end
theorem take_at {α : Type} {xs : List α} {k : Nat} {a : α} (h : xs[k]? = some a) : xs.take (k + 1) = xs.take k ++ [a] := by
  rw [List.take_succ, h]
  rfl
theorem range_at {n k a : Nat} (h : (List.range n)[k]? = some a) : a = k ∧ k < n := by
  obtain ⟨h1, e⟩ := List.getElem?_eq_some_iff.mp h
  simp at h1 e
  exact ⟨e.symm, h1⟩
/-! ### drawn grids by cells -/
theorem grid_drawD {D n : Nat} {st : Sto} (h : Dic D st) (hn : n < D) {most : Nat} {lo hi : Int} (m1 : 1 ≤ most) (m2 : most ≤ 40) (hlh : lo < hi) (hb : hi - lo ≤ 1000000000) : ∃ (f : Gr) (r c : Nat) (st' : Sto), callO F__law_grid 4 [.ref n, .dat (.int most), .dat (.int lo), .dat (.int hi)] st = .ok (.dat (gD r c f)) st' ∧ 1 ≤ r ∧ r ≤ most ∧ 1 ≤ c ∧ c ≤ most ∧ (∀ i j, i < r → j < c → lo ≤ f i j ∧ f i j < hi) ∧ Dic D st' ∧ Kp D st st' := by
  obtain ⟨g, r, c, st', e, r1, r2, c1, c2, hr, hb, d, k⟩ := grid_draw h hn m1 m2 hlh hb
  refine ⟨gv g, r, c, st', ?_, r1, r2, c1, c2, fun i j hi hj => ?_, d, k⟩
  · unfold gD
    rw [mkG_gv hr]
    exact e
  · have := (bnd_gv hr).mp hb i j hi hj
    omega
theorem gD_neV {r c : Nat} {f g : Gr} (e : ∀ i j, i < r → j < c → f i j = g i j) (st : Sto) : neV (.dat (gD r c f)) (.dat (gD r c g)) st = .ok (.dat (.bool false)) st := by
  rw [gD_ext e]
  have := gd_grid.neV (by omega) (mkG r c g) (mkG r c g) st
  simpa [gD] using this
theorem gD_eqV (r c r' c' : Nat) (f g : Gr) (st : Sto) : eqV (.dat (gD r c f)) (.dat (gD r' c' g)) st = .ok (.dat (.bool (decide (mkG r c f = mkG r' c' g)))) st := gd_grid.eqV (by omega) _ _ st
theorem same_neV {α : Type} [DecidableEq α] {f : α → PyData} {k : Nat} (g : Gd f k) (hk : k ≤ 64) (a : α) (st : Sto) : neV (.dat (f a)) (.dat (f a)) st = .ok (.dat (.bool false)) st := by
  rw [g.neV hk]
  simp
/-! ### small words -/
theorem Goes.turn {t : CT} {b : CS} {x : Va} {ev ev1 : Ev} {st st1 : Sto} {P : Ev → Sto → Prop} (h : t x ev st = .ok ev1 st1) (h2 : Goes b ev1 st1 P) : Goes (dTurn t b x) ev st P := by
  obtain ⟨a, b, e, z⟩ := h2
  exact ⟨a, b, by rw [eTurn, h]; exact e, z⟩
theorem pl_tgt (i j : Nat) (p : Nat × Nat) (ev : Ev) (st : Sto) : gTp 2 (gsCons (gN i) (gsCons (gN j) gsNil)) (.dat (plD p)) ev st = .ok ((ev.set i (some (.dat (.int (p.1 : Int))))).set j (some (.dat (.int (p.2 : Int))))) st := by simp [plD]
theorem sumF_lf {α : Type} (g : α → Int) (xs : List α) (st : Sto) : sumF [.dat (.list (xs.map fun a => .int (g a)))] st = .ok (.dat (.int (xs.map g).sum)) st := by
  have := sumF_l (xs := xs.map g) st
  simpa [Function.comp_def] using this
theorem rD_sum {c : Nat} {h : Nat → Int} (st : Sto) : sumF [.dat (rD c h)] st = .ok (.dat (.int ((List.range c).map h).sum)) st := sumF_t st
theorem tot_eq (r c : Nat) (f : Gr) : ((List.range r).map fun i => ((List.range c).map (f i)).sum).sum = tot r c f := by
  rw [← sum_rows]
  simp [mkG, Function.comp_def]
theorem least_le {xs : List Int} {y : Int} (h : y ∈ xs) : leastI xs ≤ y := by
  have := (Bo.of (low := true) (xs := xs) (fun z => by rw [z] at h; cases h)).2 y h
  simpa [bo] using this
theorem le_most {xs : List Int} {y : Int} (h : y ∈ xs) : y ≤ mostI xs := by
  have := (Bo.of (low := false) (xs := xs) (fun z => by rw [z] at h; cases h)).2 y h
  simpa [bo] using this
theorem least_mem {xs : List Int} (h : xs ≠ []) : leastI xs ∈ xs := by
  have := (Bo.of (low := true) (xs := xs) h).1
  simpa [bo] using this
theorem most_mem {xs : List Int} (h : xs ≠ []) : mostI xs ∈ xs := by
  have := (Bo.of (low := false) (xs := xs) h).1
  simpa [bo] using this
theorem checkGrid_badD {r c : Nat} {f : Gr} {lo hi : Int} (r1 : 1 ≤ r) (r2 : r ≤ 40) (c1 : 1 ≤ c) (c2 : c ≤ 40) {i j : Nat} (h1 : i < r) (h2 : j < c) (hb : ¬ (lo ≤ f i j ∧ f i j ≤ hi)) (st : Sto) : callP F_check_grid 3 [.dat (gD r c f), .dat (.int lo), .dat (.int hi)] st = .err ⟨1, none⟩ st := by
  refine callP_e3 (s2 := []) ?_
  have e := callP_3 (st := []) (isGrid_eq (lo := lo) (hi := hi) (mkG_rect r c f) r1 r2 c1 c2)
  have hf : ((mkG r c f).all fun row => row.all fun x => decide (lo ≤ x) && decide (x ≤ hi)) = false := by
    rw [Bool.eq_false_iff]
    intro z
    have := (bnd_gv (mkG_rect r c f)).mp (all_bnd.mp z) i j h1 h2
    rw [gv_mkG h1 h2] at this
    exact hb this
  rw [hf] at e
  have e : callP F_is_grid 3 [.dat (gD r c f), .dat (.int lo), .dat (.int hi)] [] = .ok (.dat (.bool false)) [] := e
  simp [F_check_grid, mkFn, c_check_grid, mkEv, e]
theorem eight_D {r c : Nat} {f : Gr} (r1 : 1 ≤ r) (c1 : 1 ≤ c) (hr : r ≤ 1000) (hc : c ≤ 1000) (st : Sto) : callP F_eight_ways 1 [.dat (gD r c f)] st = .ok (.dat (.list [gD r c f, gD r c (mir c f), gD c r (trn r f), gD c r (mir r (trn r f)), gD r c (trn c (trn r f)), gD r c (mir c (trn c (trn r f))), gD c r (trn r (trn c (trn r f))), gD c r (mir r (trn r (trn c (trn r f))))])) st := eight_eq r1 c1 hr hc st
theorem lawBeside_T {r c i j : Nat} {f : Gr} (hi : i < r) (hj : j < c) (st : Sto) : callP F__law_beside 2 [.dat (gD r c f), .dat (.tuple [.int i, .int j])] st = .ok (.dat (nbD r c i j)) st := lawBeside_eq hi hj st
theorem neV_str (a : Str) (h : PyData.canLay0 (.str a) = true) (st : Sto) : neV (.dat (.str a)) (.dat (.str a)) st = .ok (.dat (.bool false)) st := by
  simp [neV, SeqAt.shaped, h, PyData.depth, PyData.eqv, oB]
end Sk

set_option maxHeartbeats 1000000
/-! Sk, part 50: lambdas with parameters: their names, their frame, their call. -/
namespace Sk
open PySem PySem.Spec PyProof.Rows L2
open LamX (CodeO lamCx lamEnv ExtN)
open NdefX (clo_cm clo_has)
/-- a lambda's names; own: the slots of its parameters -/
structure LSc (N : List Str) (sc scope : Scope) (own : List Nat) : Prop where
  kind : scope.kind = .function
  co : scope.isCoroutine = false
  gen : scope.isGenerator = false
  cell : ∀ y ∈ scope.names, y.2 ≠ .cell
  free : ∀ y ∈ scope.names, y.2 = .free → sc.names.lookup y.1 = some .cell ∨ sc.names.lookup y.1 = some .free
  loc : ∀ (i : Nat) (x : Str), N[i]? = some x → scope.names.lookup x = some .local → i ∈ own
def lamC (N : List Str) (sc scope : Scope) (own : List Nat) : Bool :=
  (match scope.kind with | .function => true | _ => false) && !scope.isCoroutine && !scope.isGenerator && scope.names.all (fun y => match y.2 with
    | .cell => false
    | .free => (match sc.names.lookup y.1 with | some .cell => true | some .free => true | _ => false)
    | _ => true) &&
  (List.range N.length).all fun i => match N[i]? with
    | some x => (match scope.names.lookup x with | some .local => own.contains i | _ => true)
    | none => true
theorem lsc_by {N : List Str} {sc scope : Scope} {own : List Nat} (h : lamC N sc scope own = true) : LSc N sc scope own := by
  unfold lamC at h
  simp only [Bool.and_eq_true, List.all_eq_true, Bool.not_eq_true'] at h
  obtain ⟨⟨⟨⟨h1, h2⟩, h4⟩, h3⟩, h5⟩ := h
  refine ⟨?_, h2, h4, fun y hy e => ?_, fun y hy e => ?_, fun i x hx hl => ?_⟩
  · split at h1
    · assumption
    · cases h1
  · have q := h3 y hy
    simp only [e] at q
    cases q
  · have q := h3 y hy
    simp only [e] at q
    split at q <;> first | exact .inl (by assumption) | exact .inr (by assumption) | cases q
  · have hi : i < N.length := (List.getElem?_eq_some_iff.mp hx).1
    have q := h5 i (List.mem_range.mpr hi)
    simp only [hx, hl] at q
    simpa using q
theorem LSc.cells {X : Cx} {scope : Scope} {own : List Nat} (G : LSc X.N X.env.scope scope own) (ok : X.Ok) : ∀ y ∈ scope.names, y.2 = .free → ∃ c, X.env.cells.lookup y.1 = some c := fun y hy e => by
  rcases G.free y hy e with k | k
  · exact ok.has _ (.inl k)
  · exact ok.has _ (.inr k)
/-! ### slots of parameters -/
def putS (σ : L2.St) : List Nat → List V → L2.St
  | i :: is, v :: vs => putS (σ.set i (some v)) is vs
  | _, _ => σ
def putE (ev : Ev) : List Nat → List Va → Ev
  | i :: is, x :: xs => putE (ev.set i (some x)) is xs
  | _, _ => ev
theorem putS_len : ∀ (ps : List Nat) (vs : List V) (σ : L2.St), (putS σ ps vs).length = σ.length
  | [], _, _ => by simp [putS]
  | _ :: _, [], _ => by simp [putS]
  | i :: is, v :: vs, σ => by rw [putS, putS_len is vs, List.length_set]
theorem putS_at : ∀ (ps : List Nat) (vs : List V) (σ : L2.St) (i : Nat) (w : V), vs.length = ps.length → (putS σ ps vs)[i]? = some (some w) → (∃ k : Nat, ps[k]? = some i ∧ vs[k]? = some w) ∨ (i ∉ ps ∧ σ[i]? = some (some w))
  | [], _, σ, i, w, _, h => by simp [putS] at h; exact .inr ⟨by simp, h⟩
  | _ :: _, [], σ, i, w, hl, h => by simp at hl
  | j :: is, v :: vs, σ, i, w, hl, h => by
    rw [putS] at h
    rcases putS_at is vs _ i w (by simpa using hl) h with ⟨k, h1, h2⟩ | ⟨h0, h1⟩
    · exact .inl ⟨k + 1, by simpa using h1, by simpa using h2⟩
    · by_cases e : j = i
      · subst e
        by_cases hl : j < σ.length
        · rw [List.getElem?_set_self hl] at h1
          cases h1
          exact .inl ⟨0, rfl, rfl⟩
        · rw [List.getElem?_eq_none (by rw [List.length_set]; omega)] at h1
          cases h1
      · rw [List.getElem?_set_ne e] at h1
        exact .inr ⟨fun z => (List.mem_cons.mp z).elim (fun y => e y.symm) h0, h1⟩
theorem RE.put {C : Cfg} {H : Hp} {M0 : Addr → Prop} {m : List Addr} : ∀ {ps : List Nat} {vs : List V} {xs : List Va} {s : L2.St} {ev : Ev}, RE C H M0 m s ev → RVs C H (Mx M0 m) m vs xs → RE C H M0 m (putS s ps vs) (putE ev ps xs)
  | [], _, _, _, _, r, _ => by simpa [putS, putE] using r
  | _ :: _, _, _, _, _, r, .nil => by simpa [putS, putE] using r
  | i :: is, _, _, _, _, r, .cons q qs => RE.put (ps := is) (r.set i q) qs
/-- a parameter stands in the lambda's frame -/
theorem look_zip : ∀ {xs : List Str} {us : List Value} {k : Nat} {x : Str} {u : Value}, xs.Nodup → xs[k]? = some x → us[k]? = some u → (xs.zip us).reverse.lookup x = some u
  | [], _, _, _, _, _, h, _ => by simp at h
  | _ :: _, [], _, _, _, _, _, h => by simp at h
  | y :: xs, w :: us, k, x, u, nd, h1, h2 => by
    obtain ⟨n1, n2⟩ := List.nodup_cons.mp nd
    rw [List.zip_cons_cons, List.reverse_cons]
    have app : ∀ (l : List (Str × Value)) (a : Str × Value), (l ++ [a]).lookup x = match l.lookup x with | some z => some z | none => if x = a.1 then some a.2 else none := by
      rintro l ⟨a1, a2⟩
      induction l with
      | nil =>
        simp only [List.nil_append, List.lookup_nil, List.lookup_cons]
        by_cases e : x = a1
        · subst e; simp
        · have : (x == a1) = false := by simpa using e
          simp [this, e]
      | cons b l ih =>
        obtain ⟨b1, b2⟩ := b
        simp only [List.cons_append, List.lookup_cons]
        cases (x == b1) with
        | true => rfl
        | false => exact ih
    rw [app]
    cases k with
    | zero =>
      simp only [List.getElem?_cons_zero, Option.some.injEq] at h1 h2
      subst h1
      subst h2
      have : (xs.zip us).reverse.lookup y = none := by
        rw [List.lookup_eq_none_iff]
        intro p hp
        have hm := (List.of_mem_zip (List.mem_reverse.mp hp)).1
        have : y ≠ p.1 := fun e => n1 (e ▸ hm)
        simpa using this
      rw [this]
      simp
    | succ k =>
      rw [look_zip n2 (by simpa using h1) (by simpa using h2)]
/-! ### the frame -/
section
variable {X : Cx} {pins : List (Addr × Obj)} {σ : L2.St} {H HZ : Hp} {s s1 : Shared} {scope : Scope} {own : List Nat} {xs : List Str} {us : List Value} {vs : List V}
theorem lam_begin {A : Around} {outer : List Env} {E : XK} {f c' : Addr} {h₁ : Heap} {tk : Nat} (I : Inv X pins σ H s) (L : LSc X.N X.env.scope scope own) (hx : ∀ (k i : Nat), own[k]? = some i → ∃ x, X.N[i]? = some x ∧ xs[k]? = some x ∧ scope.names.lookup x = some .local)
    (nd : xs.Nodup) (rv : Vals vs us) (hlen : vs.length = own.length) (e0 : Env0 X.prog X.w X.K X.mg X.base A outer s1 HZ) (hd : A.handled = none) (un : Un (frs X.stack) [] H HZ s.heap s1.heap)
    (hns : h₁.Ns s1.heap.objs.size fun y => (xs.zip us).reverse.lookup y) (kp : ∀ b o, s1.heap.get? b = some o → h₁.get? b = some o) :
    Inv (lamCx X A outer s1 HZ E scope f c') [] (putS σ own vs) HZ { s1 with heap := h₁, toks := tk } := by
  have hfree := L.cells I.ok
  have cm : ∀ y c, (cloFrom X.env.cells scope.names []).lookup y = some c → X.env.cells.lookup y = some c := fun y c e => clo_cm hfree e
  have cellK : ∀ {c : Addr} {v : Option Value}, H c = none → s.heap.IsCell c v → h₁.IsCell c v := fun {c v} n ⟨o, ho, hd⟩ => by
    obtain ⟨sl, q⟩ := un.any ho n (by simp)
    exact ⟨_, kp _ _ q, hd⟩
  have noA : ∀ b : Addr, b ∉ (lamCx X A outer s1 HZ E scope f c').ex := fun b z => absurd (show b ∈ ([] : List Addr) from z) (by simp)
  refine ⟨⟨e0.mod, L.kind, rfl, rfl, Nat.le_refl _, fun y z c e1 e2 => I.ok.inj y z c (cm y c e1) (cm z c e2), fun y hy => ?a1, fun y c z _ => absurd (show false = true from z) (by decide), fun _ => hd, Around.frames_deeper e0.frames, .inr ⟨rfl, rfl⟩, fun b z => absurd z (noA b), e0.bs, e0.bsz,
      fun b _ _ => noA b, fun b z => absurd z (noA b), e0.funs, e0.frf⟩, rfl, e0.bare, Un.kept kp, ⟨_, hns, fun i y v e1 e2 e3 => ?a2⟩, fun y c e => ?a3, e0.hok.fresh (Nat.le_refl _), fun y c e => ?a4, fun q hq => absurd (show q ∈ ([] : List (Addr × Obj)) ++ [] from hq) (by simp), e0.hok.kept kp,
      by rw [putS_len]; exact I.len⟩
  case a1 =>
    have hy : scope.names.lookup y = some .cell ∨ scope.names.lookup y = some .free := hy
    rcases hy with hy | hy
    · exact absurd rfl (L.cell _ (PySem.mem_of_lookup hy))
    · obtain ⟨c, h⟩ := hfree _ (PySem.mem_of_lookup hy) rfl
      exact ⟨c, clo_has hfree (PySem.mem_of_lookup hy) h⟩
  case a2 =>
    have e3 : Vis scope y := e3
    have e1 : X.N[i]? = some y := e1
    have par : ∀ k : Nat, own[k]? = some i → vs[k]? = some v → ∃ u, RelV v u ∧ (xs.zip us).reverse.lookup y = some u ∧ scope.names.lookup y = some .local := fun k h1 h2 => by
      obtain ⟨x, hx1, hx2, hx3⟩ := hx k i h1
      rw [e1] at hx1
      cases hx1
      have hl : k < us.length := by
        rw [← rv.length]
        exact (List.getElem?_eq_some_iff.mp h2).1
      refine ⟨us[k], ?_, look_zip nd hx2 (List.getElem?_eq_getElem hl), hx3⟩
      obtain ⟨u, hu, ru⟩ := rv.get h2
      rw [List.getElem?_eq_getElem hl] at hu
      cases hu
      exact ru
    rcases e3 with k | k | k
    · have hi := L.loc i y e1 k
      rcases putS_at _ _ _ _ _ hlen e2 with ⟨j', h1, h2⟩ | ⟨h1, _⟩
      · obtain ⟨u, r, lk, _⟩ := par j' h1 h2
        exact ⟨u, r, .inl ⟨k, lk⟩⟩
      · exact absurd hi h1
    · exact absurd rfl (L.cell _ (PySem.mem_of_lookup k))
    · rcases putS_at _ _ _ _ _ hlen e2 with ⟨j', h1, h2⟩ | ⟨_, h1⟩
      · obtain ⟨u, r, lk, z⟩ := par j' h1 h2
        rw [z] at k
        cases k
      · obtain ⟨m, hn, hl⟩ := I.loc
        have kk := L.free _ (PySem.mem_of_lookup k) rfl
        obtain ⟨w', r, q⟩ := hl i y v e1 h1 (kk.elim (fun z => .inr (.inl z)) fun z => .inr (.inr z))
        refine ⟨w', r, ?_⟩
        rcases q with ⟨z, _⟩ | ⟨_, c, hc1, z⟩
        · have z : X.env.scope.names.lookup y = some .local := z
          rcases kk with kk | kk
          · rw [show (y, NameKind.free).1 = y from rfl, z] at kk; cases kk
          · rw [show (y, NameKind.free).1 = y from rfl, z] at kk; cases kk
        · exact .inr ⟨.inr k, c, clo_has hfree (PySem.mem_of_lookup k) hc1, cellK (I.freeC y _ hc1) z⟩
  case a3 =>
    obtain ⟨w', z⟩ := I.cell y c (cm y c e)
    exact ⟨w', cellK (I.freeC y c (cm y c e)) z⟩
  case a4 =>
    obtain ⟨v, o, ho, hd⟩ := I.cell y c (cm y c e)
    exact un.free c o ho (I.freeC y c (cm y c e)) (by simp)
/-- the lambda is called: from outside of its maker's frame too -/
theorem lam_code {A : Around} {outer : List Env} {E : XK} {k : Nat} {f c' : Addr} {pm ctv : Value} {params : Arguments} {body : Expr} {tb : TE} {Q : VK} (I : Inv X pins σ H s) (L : LSc X.N X.env.scope scope own)
    (hx : ∀ (k i : Nat), own[k]? = some i → ∃ x, X.N[i]? = some x ∧ xs[k]? = some x ∧ scope.names.lookup x = some .local) (hx2 : xs.length = own.length) (nd : xs.Nodup) (rv : Vals vs us) (hlen : vs.length = own.length)
    (e0 : Env0 X.prog X.w X.K X.mg X.base A outer s1 HZ) (un : Un (frs X.stack) [] H HZ s.heap s1.heap) (hr : Room (k + 1) A) (lim : s1.heap.NoLimit)
    (of1 : s1.heap.get? f = some (PySem.W.kla_obj "<lambda>" (X.env.qual ++ "<lambda>") params body scope (cloFrom X.env.cells scope.names []) pm c' ctv)) (hc : HZ c' = some (CodeO c' (X.env.qual ++ "<lambda>")))
    (hbind : bindArgs (PySem.W.kla_fn "<lambda>" (X.env.qual ++ "<lambda>") params body scope (cloFrom X.env.cells scope.names []) pm (.ref c') ctv) ⟨us, []⟩ = pure (xs.zip us))
    (hb : Room k (A.deeper (lamEnv X scope s1.heap.objs.size f c')) → PE (lamCx X A outer s1 HZ E scope f c') body tb) (ht : tb (putS σ own vs) HZ Q) :
    codeAny (model X.prog X.w) A (.call (.ref f) ⟨us, []⟩) (CR (L2.CX X.prog X.w) outer X.prog X.w HZ s1 Q E) s1 := by
  obtain ⟨⟨oc, ws, t, hoc, hdc, hvc⟩, _, _⟩ := e0.hok c' _ hc
  refine PySem.W.kla_callFunE hr.depth of1 rfl L.co L.gen rfl ⟨c', oc, ws, t, rfl, hoc, hdc, hvc⟩ ?_
  rw [hbind]
  refine wpAny_pure (wpAny_newFunctionEnv L.cell (fun y hy => ?_) (fun h₁ hns hsb => ⟨lim.fresh _ hsb, ?_⟩) L.kind)
  · obtain ⟨y1, y2⟩ := y
    obtain ⟨j, hj⟩ := List.getElem?_of_mem (List.of_mem_zip hy).1
    have hjl : j < own.length := by rw [← hx2]; exact (List.getElem?_eq_some_iff.mp hj).1
    obtain ⟨x, _, hx2, hx3⟩ := hx j _ (List.getElem?_eq_getElem hjl)
    rw [hj] at hx2
    cases hx2
    exact hx3
  · show codeAny _ _ (.expr body (lamEnv X scope s1.heap.objs.size f c')) _ _
    have kp : ∀ b o, s1.heap.get? b = some o → h₁.get? b = some o := fun b o e => hsb.extBut b o (Nat.ne_of_lt (Heap.lt_size e)) (Heap.get?_push_of_some _ e)
    have J := lam_begin (f := f) (c' := c') (E := E) (tk := s1.toks + (xs.zip us).length) I L hx nd rv hlen e0 hr.hd un hns kp
    refine PySem.W.kla_codeExpr (wpAny_mono ((hb (hr.deeper _)).run [] _ _ HZ Q J ht) (fun v s' hq => ?_) fun e s' hq => hq)
    obtain ⟨w', H', J', rv, q⟩ := hq
    exact ⟨w', H', J'.os, J'.bare, J'.base, J'.hok, rv, q⟩
end
end Sk

set_option maxHeartbeats 1000000
/-! Sk, part 51: min and max by a key that is a lambda. -/
namespace Sk
open PySem PySem.Spec PyProof.Rows L2
open LamX (CodeO lamCx lamEnv ExtN)
/-- the same frame, seen from within a built-in -/
def inX (X : Cx) : Cx := { X with A := X.A.in1, xe := fun _ _ => False }
section
variable {X : Cx} {pins : List (Addr × Obj)} {σ : L2.St} {H : Hp} {s : Shared}
theorem inX_inv (I : Inv X pins σ H s) : Inv (inX X) pins σ H s :=
  ⟨⟨I.ok.mod, I.ok.kind, I.ok.glob, I.ok.blt, I.ok.above, I.ok.inj, I.ok.has, I.ok.cab, I.ok.hd, I.ok.frames, I.ok.stk, I.ok.exf, I.ok.bs, I.ok.bsz, I.ok.noex, I.ok.exfs, I.ok.funs, I.ok.frf⟩, I.os, I.bare, I.base, I.loc, I.cell, I.free, I.freeC, I.pin, I.hok, I.len⟩
theorem inX_out (I : Inv (inX X) pins σ H s) : Inv X pins σ H s :=
  ⟨⟨I.ok.mod, I.ok.kind, I.ok.glob, I.ok.blt, I.ok.above, I.ok.inj, I.ok.has, I.ok.cab, I.ok.hd, I.ok.frames, I.ok.stk, I.ok.exf, I.ok.bs, I.ok.bsz, I.ok.noex, I.ok.exfs, I.ok.funs, I.ok.frf⟩, I.os, I.bare, I.base, I.loc, I.cell, I.free, I.freeC, I.pin, I.hok, I.len⟩
/-- one pinned object of our own has changed -/
theorem inv_swap {Sx : Addr} {o o' : Obj} {pa pb : List (Addr × Obj)} {s' : Shared} (I : Inv X (pa ++ (Sx, o) :: pb) σ H s) (hS : X.s_0.heap.objs.size ≤ Sx) (hpn : ∀ p ∈ X.pn ++ (pa ++ pb), p.1 ≠ Sx) (os : s'.os = s.os) (bare : AllBare s'.gens)
    (keep : ∀ b ob, b ≠ Sx → s.heap.get? b = some ob → s'.heap.get? b = some ob) (new : s'.heap.get? Sx = some o') (hd : ∀ v, o'.data ≠ .cell v) : Inv X (pa ++ (Sx, o') :: pb) σ H s' := by
  have own : (Sx, o) ∈ X.pn ++ (pa ++ (Sx, o) :: pb) := by simp
  obtain ⟨eS, hS0, hSL, hSf, hSd⟩ := I.pin (Sx, o) own
  have old : ∀ p ∈ pa ++ pb, p ∈ X.pn ++ (pa ++ (Sx, o) :: pb) := fun p hp => by
    rcases List.mem_append.mp hp with z | z
    · simp [z]
    · simp [z]
  have I0 : Inv X (pa ++ pb) σ H s := I.pins_of fun p hp => I.pin p (old p hp)
  have nt : ∀ b u, H b = some u → b ≠ Sx := fun b u q hb => by rw [hb, hS0] at q; cases q
  obtain ⟨hh, g, d, t, ob⟩ := s'
  have ho : ob = s.os := os
  subst ho
  have nc : ∀ b, b ∉ [Sx] → b ≠ Sx := fun b hb e => hb (by rw [e]; exact List.mem_singleton.mpr rfl)
  have J : Inv X (pa ++ pb) σ H { s with heap := hh, gens := g, drawn := d, toks := t } := by
    refine I0.step (g' := g) (t' := t) (d' := d) (ch := [Sx]) (fun b hb => ?_)
      (fun b ob _ _ hc q _ => keep b ob (nc b hc) q) (fun b ob _ _ hc q _ => ⟨ob.slots, keep b ob (nc b hc) q⟩) (fun _ _ _ _ n => n) (fun b ob hc q => ⟨ob, keep b ob (nc b hc) q⟩)
      (fun _ _ q => q) (fun _ _ _ q => q) (fun b ps q => ⟨#[], by rw [q]; simp⟩) (fun m hm => ?_) (fun b u q => ?_) bare
    · rw [List.mem_singleton.mp hb]
      refine ⟨.inr hS, Ne.symm (Ne.symm hSL), fun x c e z => ?_, hpn⟩
      obtain ⟨v, ob, h1, h2⟩ := I.cell x c e
      rw [z, eS] at h1
      cases h1
      exact hSd _ h2
    · obtain ⟨ob, es, ep, ho, r⟩ := hm
      exact ⟨ob, es, ep, keep _ ob (Ne.symm hSL) ho, r⟩
    · refine (I0.hok b u q).stay (fun c v hc y => keep c v ?_ y) (fun _ y => y) fun _ _ y => y
      rcases hc with y | y
      · rw [y]; exact nt b u q
      · exact nt c _ y
  refine J.pins_of fun p hp => ?_
  rcases List.mem_append.mp hp with z | z
  · exact J.pin p (by simp [z])
  · rcases List.mem_cons.mp z with z | z
    · rw [z]; exact ⟨new, hS0, hSL, hSf, hd⟩
    · exact J.pin p (by simp [z])
end
theorem wpAny_after {α : Type} {M : Model} {A : Around} {m : Sem α} {P : Unit → Shared → Prop} {Q : α → Shared → Prop} {E E1 : Value → Shared → Prop} {s : Shared} (h1 : wpAny M A (pure ()) P E1 s) (h2 : ∀ s2, P () s2 → wpAny M A m Q E s2) : wpAny M A m Q E s :=
  fun Γ p hΓ => h2 s (h1 Γ p hΓ) Γ p hΓ
/-- what the builtin holds: nothing yet, or the best item and its key -/
def KArr : Option (V × V) → Array Value → Prop
  | none, a => a = #[]
  | some (v, k), a => ∃ u w, a = #[u, w] ∧ RelV v u ∧ RelV k w
/-- the wish, turn by turn -/
def KTurns (J : It) (tb : V → TE) (σ : L2.St) (rc : R2) (Q : VK) (W : Nat → Nat → Option (V × V) → Hp → Prop) : Prop := ∀ i n b H, W i n b H → (J.stop i H ∧ ∃ v k, b = some (v, k) ∧ Q v H) ∨
  ∃ n', n = n' + 1 ∧ J.go i H ∧ ∀ x H3, J.yld i H x H3 → tb x σ H3 fun kv H4 => match b with
    | none => W (i + 1) n' (some (x, kv)) H4
    | some (v, kb) => rc kv kb H4 fun z H5 => ∃ g : Bool, z = .bl g ∧ W (i + 1) n' (some (if g = true then (x, kv) else (v, kb))) H5
section
variable {X : Cx} {pins : List (Addr × Obj)} {σ : L2.St} {J : It} {tb : V → TE} {rc : R2} {Q : VK} {W : Nat → Nat → Option (V × V) → Hp → Prop} {R : Result → Shared → Prop} {it f S : Addr} {fob : Obj} {tn : Nat → Heap → Prop} {tg : Expr}
theorem min_turns (hc : X.calm = true) (T : Turn X.prog X.w X.K tg J [it] it tn) (htg : ∀ u, letOwnedTupleGo tg (.ref it) u = pure ()) (hS : X.s_0.heap.objs.size ≤ S) (hSp : ∀ p ∈ X.pn ++ ([(f, fob)] ++ pins), p.1 ≠ S)
    (act : ∀ (ps : List (Addr × Obj)) (s : Shared) (H : Hp) (x : V) (u : Value) (Q' : VK), Inv (inX X) ps σ H s → (f, fob) ∈ ps → RelV x u → tb x σ H Q' → wpAny (model X.prog X.w) X.A.in1 (call (.ref f) [u]) (EP (inX X) ps σ Q') (fun _ _ => False) s)
    (cmp : OpR (inX X) (compareOp .Lt) rc) (tu : KTurns J tb σ rc Q W)
    (hR : ∀ v u H s, RelV v u → Q v H → Inv X pins σ H s → R (.ok (.ret u)) s) : ∀ (n i : Nat) (b : Option (V × V)) (H : Hp) (s : Shared) (arr : Array Value) (c : Nat), W i n b H → KArr b arr →
      Inv (inX X) ([(f, fob)] ++ (S, lob arr c) :: pins) σ H s → FpOk (inX X) ([(f, fob)] ++ (S, lob arr c) :: pins) H it → tn i s.heap → codeAny (model X.prog X.w) X.A (.builtin "min.loop" ⟨[.ref it, .ref f, .ref S], []⟩) R s := by
  intro n
  induction n with
  | zero =>
    intro i b H s arr c w hb I hf st
    obtain ⟨hstop, v, k, rfl, q⟩ : J.stop i H ∧ ∃ v k, b = some (v, k) ∧ Q v H := by
      rcases tu i 0 b H w with z | ⟨n', hn, _⟩
      · exact z
      · exact absurd hn (by omega)
    obtain ⟨u, kw, rfl, ru, rk⟩ := hb
    have eS := (I.pin (S, lob #[u, kw] c) (by simp)).1
    refine codeAny_builtin F.entry_min_loop ?_
    rw [Around.under_plainId F.plain_min_loop _]
    show wpAny _ X.A.in1 (seqItems? (.ref S) >>= _) _ _ s
    refine wpAny_bind (wpAny_seqItems eS rfl ?_)
    show wpAny _ X.A.in1 (tryCatch (pyNext (.ref it)) _ >>= _) _ _ s
    refine wpAny_bind (wpAny_tryCatch (wpAny_mono (T.done (inX X) rfl rfl rfl hc i _ s σ H (fun _ _ => False) I (fun b hb => by rw [List.mem_singleton.mp hb]; exact hf) st hstop) (fun r s1 ⟨hr, I1⟩ => ?_) fun _ _ z => False.elim z))
    subst hr
    have eS1 := (I1.pin (S, lob #[u, kw] c) (by simp)).1
    show wpAny _ X.A.in1 (updateSeq S (fun _ => #[]) >>= _) _ _ _
    refine wpAny_bind (wpAny_updateSeq eS1 rfl (wpAny_bind (wpAny_letGo (wpAny_pure (hR v u H _ ru q ?_)))))
    have I2 := inv_swap (o' := lob #[] (c + 1)) (s' := { s1 with heap := s1.heap.update S (Obj.mapSeq fun _ => #[]) }) I1 hS hSp rfl I1.bare (fun b ob hb e => (Heap.get?_update_other _ _ (Ne.symm hb)).trans e) (Heap.get?_update_self _ eS1 rfl) (fun v z => by cases z)
    exact inX_out (I2.pins_of fun p hp => I2.pin p (by simp [hp]))
  | succ n ih =>
    intro i b H s arr c w hb I hf st
    have eS := (I.pin (S, lob arr c) (by simp)).1
    refine codeAny_builtin F.entry_min_loop ?_
    rw [Around.under_plainId F.plain_min_loop _]
    show wpAny _ X.A.in1 (seqItems? (.ref S) >>= _) _ _ s
    refine wpAny_bind (wpAny_seqItems eS rfl ?_)
    show wpAny _ X.A.in1 (tryCatch (pyNext (.ref it)) _ >>= _) _ _ s
    rcases tu i (n + 1) b H w with ⟨hstop, v, k, rfl, q⟩ | ⟨n', hn, go, step⟩
    · obtain ⟨u, kw, rfl, ru, rk⟩ := hb
      refine wpAny_bind (wpAny_tryCatch (wpAny_mono (T.done (inX X) rfl rfl rfl hc i _ s σ H (fun _ _ => False) I (fun b hb => by rw [List.mem_singleton.mp hb]; exact hf) st hstop) (fun r s1 ⟨hr, I1⟩ => ?_) fun _ _ z => False.elim z))
      subst hr
      have eS1 := (I1.pin (S, lob #[u, kw] c) (by simp)).1
      show wpAny _ X.A.in1 (updateSeq S (fun _ => #[]) >>= _) _ _ _
      refine wpAny_bind (wpAny_updateSeq eS1 rfl (wpAny_bind (wpAny_letGo (wpAny_pure (hR v u H _ ru q ?_)))))
      have I2 := inv_swap (o' := lob #[] (c + 1)) (s' := { s1 with heap := s1.heap.update S (Obj.mapSeq fun _ => #[]) }) I1 hS hSp rfl I1.bare (fun b ob hb e => (Heap.get?_update_other _ _ (Ne.symm hb)).trans e) (Heap.get?_update_self _ eS1 rfl) (fun v z => by cases z)
      exact inX_out (I2.pins_of fun p hp => I2.pin p (by simp [hp]))
    · obtain rfl : n = n' := by omega
      refine wpAny_bind (wpAny_tryCatch (wpAny_mono (T.item (inX X) rfl rfl rfl hc i _ s σ H (fun _ _ => False) I (fun b hb => by rw [List.mem_singleton.mp hb]; exact hf) st go) (fun r s1 ⟨v, hr, h1⟩ => ?_) fun _ _ z => False.elim z))
      subst hr
      rw [htg] at h1
      show wpAny _ X.A.in1 (tryCatch (holding [v] (call (.ref f) [v])) _ >>= _) _ _ _
      refine wpAny_bind (wpAny_tryCatch (wpAny_holding ?_))
      refine wpAny_after h1 fun s2 ⟨x, H2, I2, r2, y2, st2, n2⟩ => ?_
      have f2 : ∀ b ∈ [it], FpOk (inX X) ([(f, fob)] ++ (S, lob arr c) :: pins) H2 b := fun b hb => ⟨n2 b hb, by rw [List.mem_singleton.mp hb]; exact hf.2⟩
      have I2' := I2.pinned f2 (T.obj _ _ st2)
      refine wpAny_mono (act _ s2 H2 x v _ I2' (by simp) r2 (step x H2 y2)) (fun k s3 ⟨kv, H3, I3, r3, q3⟩ => ?_) fun _ _ z => False.elim z
      obtain ⟨oI, eI, _⟩ := T.obj _ _ st2 it (by simp)
      have pI := I3.pin (it, oI) (List.mem_append_right _ (List.mem_append_right _ (mem_pinsAt (by simp) eI)))
      have I3' : Inv (inX X) ([(f, fob)] ++ (S, lob arr c) :: pins) σ H3 s3 := I3.unpinned (pins := [(f, fob)] ++ (S, lob arr c) :: pins)
      have st3 : tn (i + 1) s3.heap := T.keep _ _ _ st2 fun b hb o e => by
        rw [List.mem_singleton.mp hb] at e ⊢
        rw [eI] at e
        cases e
        exact pI.1
      have hf3 : FpOk (inX X) ([(f, fob)] ++ (S, lob arr c) :: pins) H3 it := ⟨pI.2.1, hf.2⟩
      have itS : it ≠ S := fun z => hf.2.2.2.2.2 (S, lob arr c) (by simp) z.symm
      have swap : ∀ (a' : Array Value) (s4 : Shared) (H4 : Hp) (c4 : Nat), Inv (inX X) ([(f, fob)] ++ (S, lob arr c4) :: pins) σ H4 s4 → tn (i + 1) s4.heap → FpOk (inX X) ([(f, fob)] ++ (S, lob arr c4) :: pins) H4 it → ∀ b', KArr b' a' → W (i + 1) n b' H4 →
          codeAny (model X.prog X.w) X.A (.builtin "min.loop" ⟨[.ref it, .ref f, .ref S], []⟩) R { s4 with heap := s4.heap.update S (Obj.mapSeq fun _ => a') } := fun a' s4 H4 c4 I4 st4 hf4 b' hb' w' => by
        have eS4 := (I4.pin (S, lob arr c4) (by simp)).1
        obtain ⟨c5, e5⟩ : ∃ c5, (s4.heap.update S (Obj.mapSeq fun _ => a')).get? S = some (lob a' c5) := ⟨_, get?_update_seq eS4 fun _ => a'⟩
        refine ih (i + 1) b' H4 _ a' c5 w' hb' (inv_swap (o' := lob a' c5) I4 hS hSp rfl I4.bare (fun b ob hb e => (Heap.get?_update_other _ _ (Ne.symm hb)).trans e) e5 (fun v z => by cases z)) ⟨hf4.1, hf4.2.1, hf4.2.2.1, hf4.2.2.2.1, hf4.2.2.2.2.1, fun p hp => ?_⟩ (T.keep _ _ _ st4 fun b hb o e => ?_)
        · rcases List.mem_append.mp hp with z | z
          · exact hf4.2.2.2.2.2 p (List.mem_append_left _ z)
          · rcases List.mem_append.mp z with z | z
            · exact hf4.2.2.2.2.2 p (List.mem_append_right _ (List.mem_append_left _ z))
            · rcases List.mem_cons.mp z with z | z
              · rw [z]; exact itS.symm
              · exact hf4.2.2.2.2.2 p (List.mem_append_right _ (List.mem_append_right _ (List.mem_cons_of_mem _ z)))
        · rw [List.mem_singleton.mp hb] at e ⊢
          exact (Heap.get?_update_other _ _ itS.symm).trans e
      have eS3 := (I3'.pin (S, lob arr c) (by simp)).1
      cases b with
      | none =>
        have ha : arr = #[] := hb
        subst ha
        show wpAny _ X.A.in1 (updateSeq S (fun _ => #[v, k]) >>= _) _ _ _
        refine wpAny_bind (wpAny_updateSeq eS3 rfl (wpAny_pure ⟨plainId_quiet F.plain_min_loop _, ?_⟩))
        exact swap _ _ H3 c I3' st3 hf3 (some (x, kv)) ⟨v, k, rfl, r2, r3⟩ q3
      | some bb =>
        obtain ⟨bv, bk⟩ := bb
        obtain ⟨bu, bw, rfl, rb1, rb2⟩ := hb
        show wpAny _ X.A.in1 (tryCatch (holding [v, k] (richCompare .Lt k bw >>= _)) _ >>= _) _ _ _
        refine wpAny_bind (wpAny_tryCatch (wpAny_holding (wpAny_bind ?_)))
        refine wpAny_mono (cmp (([(f, fob)] ++ (S, lob #[bu, bw] c) :: pins) ++ pinsAt [it] s3.heap) s3 σ H3 kv bk k bw _ (I3'.pinned (fp := [it]) (fun b hb => by rw [List.mem_singleton.mp hb]; exact hf3) (T.obj _ _ st3)) r3 rb2 q3) (fun z s4 ⟨zv, H4, I4, r4, g, e4, q4⟩ => ?_) fun _ _ z => False.elim z
        subst e4
        cases r4
        obtain ⟨oI4, eI4, _⟩ := T.obj _ _ st3 it (by simp)
        have pI4 := I4.pin (it, oI4) (List.mem_append_right _ (List.mem_append_right _ (mem_pinsAt (by simp) eI4)))
        have I4' : Inv (inX X) ([(f, fob)] ++ (S, lob #[bu, bw] c) :: pins) σ H4 s4 := I4.unpinned (pins := [(f, fob)] ++ (S, lob #[bu, bw] c) :: pins)
        have st4 : tn (i + 1) s4.heap := T.keep _ _ _ st3 fun b hb o e => by
          rw [List.mem_singleton.mp hb] at e ⊢
          rw [eI4] at e
          cases e
          exact pI4.1
        have hf4 : FpOk (inX X) ([(f, fob)] ++ (S, lob #[bu, bw] c) :: pins) H4 it := ⟨pI4.2.1, hf.2⟩
        refine wpAny_bind (wpAny_holding (wpAny_truthy_bool ?_))
        refine wpAny_bind (wpAny_letGo (wpAny_pure ?_))
        cases g with
        | true =>
          simp only [if_true]
          refine wpAny_bind (wpAny_updateSeq (I4'.pin (S, lob #[bu, bw] c) (by simp)).1 rfl (wpAny_bind (wpAny_letGo (wpAny_pure ⟨plainId_quiet F.plain_min_loop _, ?_⟩))))
          exact swap _ _ H4 c I4' st4 hf4 (some (x, kv)) ⟨v, k, rfl, r2, r3⟩ q4
        | false =>
          simp only [Bool.false_eq_true, if_false]
          refine wpAny_bind (wpAny_letGo (wpAny_pure ⟨plainId_quiet F.plain_min_loop _, ?_⟩))
          exact ih (i + 1) (some (bv, bk)) H4 s4 _ c q4 ⟨bu, bw, rfl, rb1, rb2⟩ I4' hf4 st4
end
section
variable {X : Cx} {pins : List (Addr × Obj)} {σ : L2.St} {J : It} {tb : V → TE} {rc : R2} {Q : VK} {W : Nat → Nat → Option (V × V) → Hp → Prop} {R : Result → Shared → Prop} {it f S : Addr} {fob : Obj} {tn : Nat → Heap → Prop} {tg : Expr}
theorem max_turns (hc : X.calm = true) (T : Turn X.prog X.w X.K tg J [it] it tn) (htg : ∀ u, letOwnedTupleGo tg (.ref it) u = pure ()) (hS : X.s_0.heap.objs.size ≤ S) (hSp : ∀ p ∈ X.pn ++ ([(f, fob)] ++ pins), p.1 ≠ S)
    (act : ∀ (ps : List (Addr × Obj)) (s : Shared) (H : Hp) (x : V) (u : Value) (Q' : VK), Inv (inX X) ps σ H s → (f, fob) ∈ ps → RelV x u → tb x σ H Q' → wpAny (model X.prog X.w) X.A.in1 (call (.ref f) [u]) (EP (inX X) ps σ Q') (fun _ _ => False) s)
    (cmp : OpR (inX X) (compareOp .Gt) rc) (tu : KTurns J tb σ rc Q W)
    (hR : ∀ v u H s, RelV v u → Q v H → Inv X pins σ H s → R (.ok (.ret u)) s) : ∀ (n i : Nat) (b : Option (V × V)) (H : Hp) (s : Shared) (arr : Array Value) (c : Nat), W i n b H → KArr b arr →
      Inv (inX X) ([(f, fob)] ++ (S, lob arr c) :: pins) σ H s → FpOk (inX X) ([(f, fob)] ++ (S, lob arr c) :: pins) H it → tn i s.heap → codeAny (model X.prog X.w) X.A (.builtin "max.loop" ⟨[.ref it, .ref f, .ref S], []⟩) R s := by
  intro n
  induction n with
  | zero =>
    intro i b H s arr c w hb I hf st
    obtain ⟨hstop, v, k, rfl, q⟩ : J.stop i H ∧ ∃ v k, b = some (v, k) ∧ Q v H := by
      rcases tu i 0 b H w with z | ⟨n', hn, _⟩
      · exact z
      · exact absurd hn (by omega)
    obtain ⟨u, kw, rfl, ru, rk⟩ := hb
    have eS := (I.pin (S, lob #[u, kw] c) (by simp)).1
    refine codeAny_builtin F.entry_max_loop ?_
    rw [Around.under_plainId F.plain_max_loop _]
    show wpAny _ X.A.in1 (seqItems? (.ref S) >>= _) _ _ s
    refine wpAny_bind (wpAny_seqItems eS rfl ?_)
    show wpAny _ X.A.in1 (tryCatch (pyNext (.ref it)) _ >>= _) _ _ s
    refine wpAny_bind (wpAny_tryCatch (wpAny_mono (T.done (inX X) rfl rfl rfl hc i _ s σ H (fun _ _ => False) I (fun b hb => by rw [List.mem_singleton.mp hb]; exact hf) st hstop) (fun r s1 ⟨hr, I1⟩ => ?_) fun _ _ z => False.elim z))
    subst hr
    have eS1 := (I1.pin (S, lob #[u, kw] c) (by simp)).1
    show wpAny _ X.A.in1 (updateSeq S (fun _ => #[]) >>= _) _ _ _
    refine wpAny_bind (wpAny_updateSeq eS1 rfl (wpAny_bind (wpAny_letGo (wpAny_pure (hR v u H _ ru q ?_)))))
    have I2 := inv_swap (o' := lob #[] (c + 1)) (s' := { s1 with heap := s1.heap.update S (Obj.mapSeq fun _ => #[]) }) I1 hS hSp rfl I1.bare (fun b ob hb e => (Heap.get?_update_other _ _ (Ne.symm hb)).trans e) (Heap.get?_update_self _ eS1 rfl) (fun v z => by cases z)
    exact inX_out (I2.pins_of fun p hp => I2.pin p (by simp [hp]))
  | succ n ih =>
    intro i b H s arr c w hb I hf st
    have eS := (I.pin (S, lob arr c) (by simp)).1
    refine codeAny_builtin F.entry_max_loop ?_
    rw [Around.under_plainId F.plain_max_loop _]
    show wpAny _ X.A.in1 (seqItems? (.ref S) >>= _) _ _ s
    refine wpAny_bind (wpAny_seqItems eS rfl ?_)
    show wpAny _ X.A.in1 (tryCatch (pyNext (.ref it)) _ >>= _) _ _ s
    rcases tu i (n + 1) b H w with ⟨hstop, v, k, rfl, q⟩ | ⟨n', hn, go, step⟩
    · obtain ⟨u, kw, rfl, ru, rk⟩ := hb
      refine wpAny_bind (wpAny_tryCatch (wpAny_mono (T.done (inX X) rfl rfl rfl hc i _ s σ H (fun _ _ => False) I (fun b hb => by rw [List.mem_singleton.mp hb]; exact hf) st hstop) (fun r s1 ⟨hr, I1⟩ => ?_) fun _ _ z => False.elim z))
      subst hr
      have eS1 := (I1.pin (S, lob #[u, kw] c) (by simp)).1
      show wpAny _ X.A.in1 (updateSeq S (fun _ => #[]) >>= _) _ _ _
      refine wpAny_bind (wpAny_updateSeq eS1 rfl (wpAny_bind (wpAny_letGo (wpAny_pure (hR v u H _ ru q ?_)))))
      have I2 := inv_swap (o' := lob #[] (c + 1)) (s' := { s1 with heap := s1.heap.update S (Obj.mapSeq fun _ => #[]) }) I1 hS hSp rfl I1.bare (fun b ob hb e => (Heap.get?_update_other _ _ (Ne.symm hb)).trans e) (Heap.get?_update_self _ eS1 rfl) (fun v z => by cases z)
      exact inX_out (I2.pins_of fun p hp => I2.pin p (by simp [hp]))
    · obtain rfl : n = n' := by omega
      refine wpAny_bind (wpAny_tryCatch (wpAny_mono (T.item (inX X) rfl rfl rfl hc i _ s σ H (fun _ _ => False) I (fun b hb => by rw [List.mem_singleton.mp hb]; exact hf) st go) (fun r s1 ⟨v, hr, h1⟩ => ?_) fun _ _ z => False.elim z))
      subst hr
      rw [htg] at h1
      show wpAny _ X.A.in1 (tryCatch (holding [v] (call (.ref f) [v])) _ >>= _) _ _ _
      refine wpAny_bind (wpAny_tryCatch (wpAny_holding ?_))
      refine wpAny_after h1 fun s2 ⟨x, H2, I2, r2, y2, st2, n2⟩ => ?_
      have f2 : ∀ b ∈ [it], FpOk (inX X) ([(f, fob)] ++ (S, lob arr c) :: pins) H2 b := fun b hb => ⟨n2 b hb, by rw [List.mem_singleton.mp hb]; exact hf.2⟩
      have I2' := I2.pinned f2 (T.obj _ _ st2)
      refine wpAny_mono (act _ s2 H2 x v _ I2' (by simp) r2 (step x H2 y2)) (fun k s3 ⟨kv, H3, I3, r3, q3⟩ => ?_) fun _ _ z => False.elim z
      obtain ⟨oI, eI, _⟩ := T.obj _ _ st2 it (by simp)
      have pI := I3.pin (it, oI) (List.mem_append_right _ (List.mem_append_right _ (mem_pinsAt (by simp) eI)))
      have I3' : Inv (inX X) ([(f, fob)] ++ (S, lob arr c) :: pins) σ H3 s3 := I3.unpinned (pins := [(f, fob)] ++ (S, lob arr c) :: pins)
      have st3 : tn (i + 1) s3.heap := T.keep _ _ _ st2 fun b hb o e => by
        rw [List.mem_singleton.mp hb] at e ⊢
        rw [eI] at e
        cases e
        exact pI.1
      have hf3 : FpOk (inX X) ([(f, fob)] ++ (S, lob arr c) :: pins) H3 it := ⟨pI.2.1, hf.2⟩
      have itS : it ≠ S := fun z => hf.2.2.2.2.2 (S, lob arr c) (by simp) z.symm
      have swap : ∀ (a' : Array Value) (s4 : Shared) (H4 : Hp) (c4 : Nat), Inv (inX X) ([(f, fob)] ++ (S, lob arr c4) :: pins) σ H4 s4 → tn (i + 1) s4.heap → FpOk (inX X) ([(f, fob)] ++ (S, lob arr c4) :: pins) H4 it → ∀ b', KArr b' a' → W (i + 1) n b' H4 →
          codeAny (model X.prog X.w) X.A (.builtin "max.loop" ⟨[.ref it, .ref f, .ref S], []⟩) R { s4 with heap := s4.heap.update S (Obj.mapSeq fun _ => a') } := fun a' s4 H4 c4 I4 st4 hf4 b' hb' w' => by
        have eS4 := (I4.pin (S, lob arr c4) (by simp)).1
        obtain ⟨c5, e5⟩ : ∃ c5, (s4.heap.update S (Obj.mapSeq fun _ => a')).get? S = some (lob a' c5) := ⟨_, get?_update_seq eS4 fun _ => a'⟩
        refine ih (i + 1) b' H4 _ a' c5 w' hb' (inv_swap (o' := lob a' c5) I4 hS hSp rfl I4.bare (fun b ob hb e => (Heap.get?_update_other _ _ (Ne.symm hb)).trans e) e5 (fun v z => by cases z)) ⟨hf4.1, hf4.2.1, hf4.2.2.1, hf4.2.2.2.1, hf4.2.2.2.2.1, fun p hp => ?_⟩ (T.keep _ _ _ st4 fun b hb o e => ?_)
        · rcases List.mem_append.mp hp with z | z
          · exact hf4.2.2.2.2.2 p (List.mem_append_left _ z)
          · rcases List.mem_append.mp z with z | z
            · exact hf4.2.2.2.2.2 p (List.mem_append_right _ (List.mem_append_left _ z))
            · rcases List.mem_cons.mp z with z | z
              · rw [z]; exact itS.symm
              · exact hf4.2.2.2.2.2 p (List.mem_append_right _ (List.mem_append_right _ (List.mem_cons_of_mem _ z)))
        · rw [List.mem_singleton.mp hb] at e ⊢
          exact (Heap.get?_update_other _ _ itS.symm).trans e
      have eS3 := (I3'.pin (S, lob arr c) (by simp)).1
      cases b with
      | none =>
        have ha : arr = #[] := hb
        subst ha
        show wpAny _ X.A.in1 (updateSeq S (fun _ => #[v, k]) >>= _) _ _ _
        refine wpAny_bind (wpAny_updateSeq eS3 rfl (wpAny_pure ⟨plainId_quiet F.plain_max_loop _, ?_⟩))
        exact swap _ _ H3 c I3' st3 hf3 (some (x, kv)) ⟨v, k, rfl, r2, r3⟩ q3
      | some bb =>
        obtain ⟨bv, bk⟩ := bb
        obtain ⟨bu, bw, rfl, rb1, rb2⟩ := hb
        show wpAny _ X.A.in1 (tryCatch (holding [v, k] (richCompare .Gt k bw >>= _)) _ >>= _) _ _ _
        refine wpAny_bind (wpAny_tryCatch (wpAny_holding (wpAny_bind ?_)))
        refine wpAny_mono (cmp (([(f, fob)] ++ (S, lob #[bu, bw] c) :: pins) ++ pinsAt [it] s3.heap) s3 σ H3 kv bk k bw _ (I3'.pinned (fp := [it]) (fun b hb => by rw [List.mem_singleton.mp hb]; exact hf3) (T.obj _ _ st3)) r3 rb2 q3) (fun z s4 ⟨zv, H4, I4, r4, g, e4, q4⟩ => ?_) fun _ _ z => False.elim z
        subst e4
        cases r4
        obtain ⟨oI4, eI4, _⟩ := T.obj _ _ st3 it (by simp)
        have pI4 := I4.pin (it, oI4) (List.mem_append_right _ (List.mem_append_right _ (mem_pinsAt (by simp) eI4)))
        have I4' : Inv (inX X) ([(f, fob)] ++ (S, lob #[bu, bw] c) :: pins) σ H4 s4 := I4.unpinned (pins := [(f, fob)] ++ (S, lob #[bu, bw] c) :: pins)
        have st4 : tn (i + 1) s4.heap := T.keep _ _ _ st3 fun b hb o e => by
          rw [List.mem_singleton.mp hb] at e ⊢
          rw [eI4] at e
          cases e
          exact pI4.1
        have hf4 : FpOk (inX X) ([(f, fob)] ++ (S, lob #[bu, bw] c) :: pins) H4 it := ⟨pI4.2.1, hf.2⟩
        refine wpAny_bind (wpAny_holding (wpAny_truthy_bool ?_))
        refine wpAny_bind (wpAny_letGo (wpAny_pure ?_))
        cases g with
        | true =>
          simp only [if_true]
          refine wpAny_bind (wpAny_updateSeq (I4'.pin (S, lob #[bu, bw] c) (by simp)).1 rfl (wpAny_bind (wpAny_letGo (wpAny_pure ⟨plainId_quiet F.plain_max_loop _, ?_⟩))))
          exact swap _ _ H4 c I4' st4 hf4 (some (x, kv)) ⟨v, k, rfl, r2, r3⟩ q4
        | false =>
          simp only [Bool.false_eq_true, if_false]
          refine wpAny_bind (wpAny_letGo (wpAny_pure ⟨plainId_quiet F.plain_max_loop _, ?_⟩))
          exact ih (i + 1) (some (bv, bk)) H4 s4 _ c q4 ⟨bu, bw, rfl, rb1, rb2⟩ I4' hf4 st4
end
end Sk

set_option maxHeartbeats 1000000
/-! Sk, part 52: a lambda is made; min and max called with it. -/
namespace Sk
open PySem PySem.Spec PyProof.Rows L2
open LamX (CodeO lamCx lamEnv codeO_ne)
/-- the heap behind the making of a lambda: the code object was there, or it is new and told by the table -/
def LamG (P : Addr) (q : Str) (c' : Addr) (H H1 : Hp) : Prop := (H1 = H ∧ H c' = some (CodeO c' q)) ∨ ∃ (ps more : Array Value), H P = some (.tbl ps) ∧ H c' = none ∧ H1 = upd (upd H P (.tbl (ps ++ more))) c' (CodeO c' q) ∧ TriplesOk (ps ++ more).toList ∧
  ∀ (p' : Pos) (cv : Value), codeAmong p' (ps ++ more).toList = some cv → codeAmong p' ps.toList = some cv ∨ cv = .ref c'
section
variable {X : Cx} {pins : List (Addr × Obj)} {σ : L2.St} {H : Hp} {s : Shared}
theorem lam_made {c P : Addr} {params : Arguments} {body : Expr} {scope : Scope} {own : List Nat} {pos : Pos} {E Q : Value → Shared → Prop} (I : Inv X pins σ H s) (TB : LamX.TabB X.base X.mg c P) (hcode : X.env.code = .ref c) (L : LSc X.N X.env.scope scope own)
    (ht : TbOk H (P, some (X.env.qual ++ "<lambda>"))) (hdef : defaultsOf params X.env = ([], []))
    (h : ∀ (f c' : Addr) (pm ctv : Value) (H1 : Hp) (s' : Shared), Inv X pins σ H1 s' → LamG P (X.env.qual ++ "<lambda>") c' H H1 → H1 c' = some (CodeO c' (X.env.qual ++ "<lambda>")) → s'.heap.get? f = some (PySem.W.kla_obj "<lambda>" (X.env.qual ++ "<lambda>") params body scope (cloFrom X.env.cells scope.names []) pm c' ctv) →
      H1 f = none → s.heap.objs.size ≤ f → Q (.ref f) s') :
    wpAny (model X.prog X.w) X.A (eval (.Lambda params body scope pos) X.env) Q E s := by
  obtain ⟨ps, hP, hok, ha⟩ := ht
  have hP : H P = some (.tbl ps) := hP
  have bP : s.heap.BuiltinsAt X.mg P := TB.bm.keeps I.bk
  have hPs : s.heap.get? P = some { cls := .none, data := .fields ps } := I.hok P _ hP
  have hcl := closure_ok (L.cells I.ok)
  refine PySem.W.kla_eval hdef ?_
  cases hc : codeAmong pos ps.toList with
  | none =>
    refine PySem.W.kla_makeFunction (ps := ps) hcl I.ok.glob (I.mod.glob.keeps I.bk) hcode (TB.code.keeps I.bk) hPs hok hc TB.gP bP fun c' ctv h' tk hx hge hlt ⟨c2, oc, vs, t, e2, hoc, hd, hv⟩ htb => ?_
    cases e2
    have hsz : s.heap.objs.size ≤ h'.objs.size := Nat.le_trans hge (Nat.le_of_lt hlt)
    have nC : H c' = none := I.hok.fresh hge
    have eL : (ps ++ #[rawInt pos.line, rawInt pos.col, .ref c']).toList = ps.toList ++ [rawInt pos.line, rawInt pos.col, .ref c'] := by simp
    refine h h'.objs.size c' _ ctv _ _ (LamX.inv_table (t' := tk) I hP (fun b o hb e => Heap.get?_push_of_some _ (hx b o hb e)) (Heap.get?_push_of_some _ htb) hge ⟨oc, vs, t, Heap.get?_push_of_some _ hoc, hd, hv⟩) (.inr ⟨ps, _, hP, nC, rfl, by rw [eL]; exact TriplesOk_snoc _ _ _ _ hok, fun p' cv hcv => ?_⟩) upd_same (Heap.get?_push_size _ rfl) ?_ hsz
    · rw [eL] at hcv
      exact LamX.among_app _ hok hcv
    · have n2 : h'.objs.size ≠ P := Nat.ne_of_gt (Nat.lt_of_lt_of_le (Heap.lt_size hPs) hsz)
      rw [upd_ne (Nat.ne_of_gt hlt), upd_ne n2]
      exact I.hok.fresh hsz
  | some cv =>
    obtain ⟨c', rfl, hco⟩ := ha _ rfl pos cv hc
    refine PySem.W.kla_makeFunctionHit (ps := ps) hcl I.ok.glob (I.mod.glob.keeps I.bk) hcode (TB.code.keeps I.bk) hPs hok hc bP fun ctv h' tk hx hsz => ?_
    exact h h'.objs.size c' _ ctv H _ (I.kept fun b o e => Heap.get?_push_of_some _ (hx b o e)) (.inl ⟨rfl, hco⟩) hco (Heap.get?_push_size _ rfl) (I.hok.fresh hsz) hsz
end
/-! ### our own store behind it -/
theorem RH.lam {C : Cfg} {M0 : Addr → Prop} {m : List Addr} {H H1 : Hp} {st : Sto} {P c' : Addr} {q : Str} (rh : RH C M0 m H st) (hu : ∀ p ∈ C.T, p.1 = P → p.2 = some q) (g : LamG P q c' H H1) : Go m H m H1 ∧ RH C M0 m H1 st := by
  rcases g with ⟨rfl, _⟩ | ⟨ps, more, hP, nC, rfl, hok, hin⟩
  · exact ⟨Go.refl _ _, rh⟩
  have at_ : ∀ b, b ≠ P → b ≠ c' → upd (upd H P (.tbl (ps ++ more))) c' (CodeO c' q) b = H b := fun b h1 h2 => by rw [upd_ne h2, upd_ne h1]
  have nPc : P ≠ c' := ne_of_none hP nC
  have atP : upd (upd H P (.tbl (ps ++ more))) c' (CodeO c' q) P = some (.tbl (ps ++ more)) := by rw [upd_ne nPc, upd_same]
  have keep : ∀ b o, H b = some o → NoTbl o → upd (upd H P (.tbl (ps ++ more))) c' (CodeO c' q) b = some o := fun b o e n => by
    rw [at_ b (fun z => n ps (by rw [z, hP] at e; exact (Option.some.inj e).symm)) (ne_of_none e nC)]
    exact e
  have g : Go m H m (upd (upd H P (.tbl (ps ++ more))) c' (CodeO c' q)) := ⟨⟨[], by simp⟩, fun b o e _ n => keep b o e n, fun b qs e => by
    by_cases hb : b = P
    · rw [hb]; exact ⟨_, atP⟩
    · exact ⟨qs, by rw [at_ b hb (ne_of_none e nC)]; exact e⟩, fun a h n => absurd h n⟩
  refine ⟨g, ⟨fun a h => ?_, rh.len, rh.nd, rh.dj, fun a ha => ?_, fun n o hn => ?_, fun p hp => ?_, fun p hp => (rh.hd p hp).go g rh.mu, fun p hp => ⟨keep _ _ (rh.ko p hp).1 (rh.ko p hp).2.1, (rh.ko p hp).2⟩⟩⟩
  · obtain ⟨o, e⟩ := rh.m0 a h
    by_cases z : a = P
    · rw [z]; exact ⟨_, atP⟩
    · exact ⟨o, by rw [at_ a z (ne_of_none e nC)]; exact e⟩
  · obtain ⟨o, e, x⟩ := rh.mu a ha
    exact ⟨o, keep a o e (mut_notbl x), x⟩
  · obtain ⟨a, ha, r⟩ := rh.ob n o hn
    obtain ⟨u, e, x⟩ := r.mut
    exact ⟨a, ha, r.go g rh.mu ((keep a u e (mut_notbl x)).trans e.symm)⟩
  · obtain ⟨qs, h1, h2, h3⟩ := rh.tb p hp
    by_cases z : p.1 = P
    · have e : p.2 = some q := hu p hp z
      rw [z, hP] at h1
      cases h1
      refine ⟨ps ++ more, by rw [z]; exact atP, hok, fun q' e' pos cv hc => ?_⟩
      rw [e] at e'
      cases e'
      rcases hin pos cv hc with y | y
      · obtain ⟨c, e1, e2⟩ := h3 q e pos cv y
        exact ⟨c, e1, keep c _ e2 fun ps z => codeO_ne ps z⟩
      · exact ⟨c', y, upd_same⟩
    · refine ⟨qs, by rw [at_ _ z (ne_of_none h1 nC)]; exact h1, h2, fun q' e' pos cv hc => ?_⟩
      obtain ⟨c, e1, e2⟩ := h3 q' e' pos cv hc
      exact ⟨c, e1, keep c _ e2 fun ps z => codeO_ne ps z⟩
/-! ### the calls -/
/-- what is wished of the list or tuple -/
def kWish (P : Addr) (q : Str) (own : List Nat) (te : TE) (rc : R2) (K : PySem.W.Frag) (σ : L2.St) (Q : VK) : V → Hp → Prop := fun x H1 => ∃ a, x = .ref a ∧ TbOk H1 (P, some q) ∧ ∀ c' H2, LamG P q c' H1 H2 → H2 c' = some (CodeO c' q) →
  ∃ (J : It) (W : Nat → Nat → Option (V × V) → Hp → Prop) (n : Nat), (((∃ xs, SqL K H2 a xs) ∧ J = Itl K a) ∨ ((∃ xs, SqT K H2 a xs) ∧ J = Itt K a)) ∧ W 0 n none H2 ∧ KTurns J (fun x σ H Q => H c' = some (CodeO c' q) ∧ te (putS σ own [x]) H Q) σ rc Q W
def tKey (P : Addr) (q : Str) (own : List Nat) (tl te : TE) (rc : R2) (K : PySem.W.Frag) : TE := fun σ H Q => tl σ H (kWish P q own te rc K σ Q)
abbrev tgK : Expr := .Name "x" ⟨0, 0, 0, 0⟩
section
variable {X : Cx} {k : Nat} {c P : Addr} {scope : Scope} {i : Nat} {x : Str} {params : Arguments} {body l : Expr} {p lpos kpos pos : Pos} {tl te : TE} {rc : R2}
theorem pe_minKey (hr : Room (k + 2) X.A) (hc : X.calm = true) (TB : LamX.TabB X.base X.mg c P) (hcode : X.env.code = .ref c) (L : LSc X.N X.env.scope scope [i]) (hN : X.N[i]? = some x) (hloc : scope.names.lookup x = some .local) (hdef : defaultsOf params X.env = ([], []))
    (hbind : ∀ (q : Str) (cl : List (Str × Addr)) (pm cv ctv u : Value), bindArgs (PySem.W.kla_fn "<lambda>" q params body scope cl pm cv ctv) ⟨[u], []⟩ = pure [(x, u)]) (cmp : OpR (inX X) (compareOp .Lt) rc)
    (hl : PE X l tl) (he : ∀ (A : Around) (outer : List Env) (s : Shared) (H : Hp) (f c' : Addr), Room k (A.deeper (lamEnv X scope s.heap.objs.size f c')) → PE (lamCx X A outer s H (fun _ _ _ => False) scope f c') body te)
    (hg : Gl X "min") (hm : X.mg "min" = none) (hst : starEach [l] X.env = (false, eval l X.env) :: starEach [] X.env := by rfl) :
    PE X (.Call (.Name "min" p) [l] [⟨some "key", .Lambda params body scope lpos, kpos⟩] pos) (tKey P (X.env.qual ++ "<lambda>") [i] tl te rc X.K) := by
  refine ⟨fun pins s σ H Q I h => wpAny_Call_Name_kw (ld_blt I hg hm (by first | rfl | decide +kernel) ?_ (by decide) (by decide))⟩
  refine PyProof.Rows.callWith_kw (e := l) (rest := []) (kws := [⟨some "key", .Lambda params body scope lpos, kpos⟩]) ?_ (by show backTo pos (starEach [l] X.env) = _; rw [hst]; rfl) (by show (backTo pos (starEach [l] X.env)).any (·.1) = false; rw [hst]; rfl) rfl rfl
  refine thn ((pa_cons hl pa_nil hst).run pos pins s σ H (fun vs H1 => match vs with | [v] => kWish P (X.env.qual ++ "<lambda>") [i] te rc X.K σ Q v H1 | _ => False) I h) fun us s1 ⟨vs, H1, I1, r1, q1⟩ => ?_
  obtain ⟨v, rfl, q1⟩ : ∃ v, vs = [v] ∧ kWish P (X.env.qual ++ "<lambda>") [i] te rc X.K σ Q v H1 := by
    match vs, q1 with
    | [v], q1 => exact ⟨v, rfl, q1⟩
  obtain ⟨a, rfl, tb, q1⟩ := q1
  obtain rfl := Vals.ref1 r1
  show wpAny _ _ (evalAll [(do let v ← eval (.Lambda params body scope lpos) X.env; standAt pos; pure v)]) _ _ s1
  refine wpAny_evalAll_cons (wpAny_bind (lam_made I1 TB hcode L tb hdef fun f c' pm ctv H2 s2 I2 lg hco hf hfn hfs => wpAny_bind (wpAny_standAt (wpAny_pure ?_))))
  refine wpAny_evalAll_nil ?_
  obtain ⟨J, W, n, hJ, w0, tu⟩ := q1 c' H2 lg hco
  have hfd : ∀ v : Option Value, (PySem.W.kla_obj "<lambda>" (X.env.qual ++ "<lambda>") params body scope (cloFrom X.env.cells scope.names []) pm c' ctv).data ≠ .cell v := fun v z => by cases z
  have hfl : f ≠ X.env.locals := Nat.ne_of_gt (Nat.lt_of_lt_of_le I1.lt hfs)
  show wpAny _ X.A (call (.builtin "min") [.ref a] [(Str.ofString "key", .ref f)]) _ _ s2
  refine kmk_tree F.kind_min F.plain_min F.entry_min (by first | exact kmk_min_key _ _ | (unfold argsOk; kernel_rfl)) ?_
  show wpAny _ X.A.in1 (Builtin.Builtins.bindParams "min" ["key", "default"] 0 ⟨[], [(Str.ofString "key", .ref f)]⟩ >>= _) _ _ s2
  refine wpAny_bind (wpAny_of_eq (show Builtin.Builtins.bindParams "min" ["key", "default"] 0 ⟨[], [(Str.ofString "key", .ref f)]⟩ = pure [some (.ref f), none] from rfl) (wpAny_bind (wpAny_pure ?_)))
  have hname : (toString "min" ++ toString ".loop" : String) = "min.loop" := by decide
  have go : ∀ (hp1 : Heap) (tn : Nat → Heap → Prop), (∀ b o, s2.heap.get? b = some o → hp1.get? b = some o) → hp1.objs.size = s2.heap.objs.size + 1 → Turn X.prog X.w X.K tgK J [s2.heap.objs.size] s2.heap.objs.size tn → tn 0 hp1 →
      codeAny (model X.prog X.w) X.A (.builtin "min.loop" ⟨[.ref s2.heap.objs.size, .ref f, .ref hp1.objs.size], []⟩) (fun r s' => match r with | .ok (.ret v) => EP X pins σ Q v s' | .ok _ => False | .error e => X.xe e s') { s2 with heap := hp1.push (lob #[] 0) } := fun hp1 tn kp sz T t0 => by
    have I3 : Inv X pins σ H2 { s2 with heap := hp1.push (lob #[] 0) } := I2.kept (t' := s2.toks) fun b o e => Heap.get?_push_of_some _ (kp b o e)
    have lts : s2.heap.objs.size ≤ hp1.objs.size := by omega
    have flt : f < s2.heap.objs.size := Heap.lt_size hf
    have old : ∀ p ∈ X.pn ++ pins, p.1 < s2.heap.objs.size := fun p hp => Heap.lt_size (I2.pin p hp).1
    have oldS : ∀ p ∈ X.pn ++ ([(f, PySem.W.kla_obj "<lambda>" (X.env.qual ++ "<lambda>") params body scope (cloFrom X.env.cells scope.names []) pm c' ctv)] ++ pins), p.1 < s2.heap.objs.size := fun p hp => by
      simp only [List.mem_append, List.mem_singleton] at hp
      rcases hp with z | z | z
      · exact old p (by simp [z])
      · rw [z]; exact flt
      · exact old p (by simp [z])
    refine min_turns (X := X) (pins := pins) (it := s2.heap.objs.size) (tg := tgK) hc T (fun _ => rfl) (Nat.le_trans I2.sz lts) (fun p hp => Nat.ne_of_lt (Nat.lt_of_lt_of_le (oldS p hp) lts)) (fun ps s4 H4 v u Q' I4 hin ru ht => ?_) cmp tu (fun v u H5 s5 ru q I5 => ⟨v, H5, I5, ru, q⟩) n 0 none H2 _ #[] 0 w0 rfl (inX_inv (I3.pins_of fun p hp => ?_)) ⟨I2.hok.fresh (Nat.le_refl _), Nat.ne_of_gt I2.lt, I2.nofs (Nat.le_refl _), .inr I2.sz, fun y cc e z => ?_, fun p hp => ?_⟩ (T.keep _ _ _ t0 fun b _ o e => Heap.get?_push_of_some _ e)
    · have hf4 := (I4.pin _ (List.mem_append_right _ hin)).1
      have rc := lam_code (X := X) (A := X.A.in1) (outer := X.stack) (E := fun _ _ _ => False) (k := k) (xs := [x]) (us := [u]) (vs := [v]) (params := params) (body := body) (tb := te) (Q := Q') (inX_out I4) L (fun j i' hj => by
        cases j with
        | zero => cases hj; exact ⟨x, hN, rfl, hloc⟩
        | succ j => simp at hj) rfl (by simp) (.cons ru .nil) rfl I4.env0 Un.refl hr.in1 I4.nolimit hf4 ht.1 (hbind _ _ _ _ _ _) (fun hr2 => he X.A.in1 X.stack s4 H4 f c' hr2) ht.2
      refine wpAny_call (codeAny_mono rc fun r s' hq => ?_)
      cases r with
      | error e =>
        obtain ⟨_, _, _, _, _, _, _, _, _, _, _, _, z⟩ := hq
        exact z
      | ok fl =>
        cases fl with
        | ret w => exact Inv.after (X := inX X) I4 hq
        | next => exact False.elim hq
        | brk => exact False.elim hq
        | cont => exact False.elim hq
    · simp only [List.mem_append, List.mem_cons, List.not_mem_nil, or_false] at hp
      rcases hp with z | z | z
      · rw [z]
        exact ⟨Heap.get?_push_of_some _ (kp _ _ hf), hfn, hfl, fun y => Nat.lt_irrefl _ (Nat.lt_of_lt_of_le (by obtain ⟨_, o, e, _⟩ := I1.ok.funs.mem y; exact Nat.lt_of_lt_of_le (Heap.lt_size e) I1.sz) hfs), hfd⟩
      · rw [z]
        exact ⟨Heap.get?_push_size _ rfl, I2.hok.fresh lts, Nat.ne_of_gt (Nat.lt_of_lt_of_le I2.lt lts), I2.nofs lts, fun v z => by cases z⟩
      · exact I3.pin p (List.mem_append_right _ z)
    · obtain ⟨v, o, e1, _⟩ := I2.cell y cc e
      exact Nat.lt_irrefl _ (z ▸ Heap.lt_size e1)
    · intro z
      simp only [List.mem_append, List.mem_cons, List.not_mem_nil, or_false] at hp
      rcases hp with y | y | y | y
      · exact Nat.lt_irrefl _ (z ▸ old p (List.mem_append_left _ y))
      · rw [y] at z; exact Nat.lt_irrefl _ (z ▸ flt)
      · rw [y] at z
        have z : hp1.objs.size = s2.heap.objs.size := z
        omega
      · exact Nat.lt_irrefl _ (z ▸ old p (List.mem_append_right _ y))
  rcases hJ with ⟨⟨xs, hq⟩, rfl⟩ | ⟨⟨xs, hq⟩, rfl⟩
  · obtain ⟨its, rv, pl, hz⟩ := I2.list hq
    refine wpAny_bind (wpAny_pyIter_list pl.isList (wpAny_bind (wpAny_newList ?_ (Nat.zero_le _))))
    rw [hname]
    exact wpAny_pure ⟨plainId_quiet F.plain_min_loop _, go _ _ (fun b o e => Heap.get?_push_of_some _ e) (size_push' ..) (turn_list a _) ⟨_, Heap.get?_push_size _ rfl, rfl, rfl⟩⟩
  · obtain ⟨its, rv, pl, hz⟩ := I2.tuple hq
    refine wpAny_bind (wpAny_pyIter_tuple (show s2.heap.IsTuple a its.toArray from pl) (wpAny_bind (wpAny_newList ?_ (Nat.zero_le _))))
    rw [hname]
    exact wpAny_pure ⟨plainId_quiet F.plain_min_loop _, go _ _ (fun b o e => Heap.get?_push_of_some _ e) (size_push' ..) (turn_tuple a _) ⟨_, Heap.get?_push_size _ rfl, rfl, rfl⟩⟩
theorem pe_maxKey (hr : Room (k + 2) X.A) (hc : X.calm = true) (TB : LamX.TabB X.base X.mg c P) (hcode : X.env.code = .ref c) (L : LSc X.N X.env.scope scope [i]) (hN : X.N[i]? = some x) (hloc : scope.names.lookup x = some .local) (hdef : defaultsOf params X.env = ([], []))
    (hbind : ∀ (q : Str) (cl : List (Str × Addr)) (pm cv ctv u : Value), bindArgs (PySem.W.kla_fn "<lambda>" q params body scope cl pm cv ctv) ⟨[u], []⟩ = pure [(x, u)]) (cmp : OpR (inX X) (compareOp .Gt) rc)
    (hl : PE X l tl) (he : ∀ (A : Around) (outer : List Env) (s : Shared) (H : Hp) (f c' : Addr), Room k (A.deeper (lamEnv X scope s.heap.objs.size f c')) → PE (lamCx X A outer s H (fun _ _ _ => False) scope f c') body te)
    (hg : Gl X "max") (hm : X.mg "max" = none) (hst : starEach [l] X.env = (false, eval l X.env) :: starEach [] X.env := by rfl) :
    PE X (.Call (.Name "max" p) [l] [⟨some "key", .Lambda params body scope lpos, kpos⟩] pos) (tKey P (X.env.qual ++ "<lambda>") [i] tl te rc X.K) := by
  refine ⟨fun pins s σ H Q I h => wpAny_Call_Name_kw (ld_blt I hg hm (by first | rfl | decide +kernel) ?_ (by decide) (by decide))⟩
  refine PyProof.Rows.callWith_kw (e := l) (rest := []) (kws := [⟨some "key", .Lambda params body scope lpos, kpos⟩]) ?_ (by show backTo pos (starEach [l] X.env) = _; rw [hst]; rfl) (by show (backTo pos (starEach [l] X.env)).any (·.1) = false; rw [hst]; rfl) rfl rfl
  refine thn ((pa_cons hl pa_nil hst).run pos pins s σ H (fun vs H1 => match vs with | [v] => kWish P (X.env.qual ++ "<lambda>") [i] te rc X.K σ Q v H1 | _ => False) I h) fun us s1 ⟨vs, H1, I1, r1, q1⟩ => ?_
  obtain ⟨v, rfl, q1⟩ : ∃ v, vs = [v] ∧ kWish P (X.env.qual ++ "<lambda>") [i] te rc X.K σ Q v H1 := by
    match vs, q1 with
    | [v], q1 => exact ⟨v, rfl, q1⟩
  obtain ⟨a, rfl, tb, q1⟩ := q1
  obtain rfl := Vals.ref1 r1
  show wpAny _ _ (evalAll [(do let v ← eval (.Lambda params body scope lpos) X.env; standAt pos; pure v)]) _ _ s1
  refine wpAny_evalAll_cons (wpAny_bind (lam_made I1 TB hcode L tb hdef fun f c' pm ctv H2 s2 I2 lg hco hf hfn hfs => wpAny_bind (wpAny_standAt (wpAny_pure ?_))))
  refine wpAny_evalAll_nil ?_
  obtain ⟨J, W, n, hJ, w0, tu⟩ := q1 c' H2 lg hco
  have hfd : ∀ v : Option Value, (PySem.W.kla_obj "<lambda>" (X.env.qual ++ "<lambda>") params body scope (cloFrom X.env.cells scope.names []) pm c' ctv).data ≠ .cell v := fun v z => by cases z
  have hfl : f ≠ X.env.locals := Nat.ne_of_gt (Nat.lt_of_lt_of_le I1.lt hfs)
  show wpAny _ X.A (call (.builtin "max") [.ref a] [(Str.ofString "key", .ref f)]) _ _ s2
  refine kmk_tree F.kind_max F.plain_max F.entry_max (by first | exact kmk_max_key _ _ | (unfold argsOk; kernel_rfl)) ?_
  show wpAny _ X.A.in1 (Builtin.Builtins.bindParams "max" ["key", "default"] 0 ⟨[], [(Str.ofString "key", .ref f)]⟩ >>= _) _ _ s2
  refine wpAny_bind (wpAny_of_eq (show Builtin.Builtins.bindParams "max" ["key", "default"] 0 ⟨[], [(Str.ofString "key", .ref f)]⟩ = pure [some (.ref f), none] from rfl) (wpAny_bind (wpAny_pure ?_)))
  have hname : (toString "max" ++ toString ".loop" : String) = "max.loop" := by decide
  have go : ∀ (hp1 : Heap) (tn : Nat → Heap → Prop), (∀ b o, s2.heap.get? b = some o → hp1.get? b = some o) → hp1.objs.size = s2.heap.objs.size + 1 → Turn X.prog X.w X.K tgK J [s2.heap.objs.size] s2.heap.objs.size tn → tn 0 hp1 →
      codeAny (model X.prog X.w) X.A (.builtin "max.loop" ⟨[.ref s2.heap.objs.size, .ref f, .ref hp1.objs.size], []⟩) (fun r s' => match r with | .ok (.ret v) => EP X pins σ Q v s' | .ok _ => False | .error e => X.xe e s') { s2 with heap := hp1.push (lob #[] 0) } := fun hp1 tn kp sz T t0 => by
    have I3 : Inv X pins σ H2 { s2 with heap := hp1.push (lob #[] 0) } := I2.kept (t' := s2.toks) fun b o e => Heap.get?_push_of_some _ (kp b o e)
    have lts : s2.heap.objs.size ≤ hp1.objs.size := by omega
    have flt : f < s2.heap.objs.size := Heap.lt_size hf
    have old : ∀ p ∈ X.pn ++ pins, p.1 < s2.heap.objs.size := fun p hp => Heap.lt_size (I2.pin p hp).1
    have oldS : ∀ p ∈ X.pn ++ ([(f, PySem.W.kla_obj "<lambda>" (X.env.qual ++ "<lambda>") params body scope (cloFrom X.env.cells scope.names []) pm c' ctv)] ++ pins), p.1 < s2.heap.objs.size := fun p hp => by
      simp only [List.mem_append, List.mem_singleton] at hp
      rcases hp with z | z | z
      · exact old p (by simp [z])
      · rw [z]; exact flt
      · exact old p (by simp [z])
    refine max_turns (X := X) (pins := pins) (it := s2.heap.objs.size) (tg := tgK) hc T (fun _ => rfl) (Nat.le_trans I2.sz lts) (fun p hp => Nat.ne_of_lt (Nat.lt_of_lt_of_le (oldS p hp) lts)) (fun ps s4 H4 v u Q' I4 hin ru ht => ?_) cmp tu (fun v u H5 s5 ru q I5 => ⟨v, H5, I5, ru, q⟩) n 0 none H2 _ #[] 0 w0 rfl (inX_inv (I3.pins_of fun p hp => ?_)) ⟨I2.hok.fresh (Nat.le_refl _), Nat.ne_of_gt I2.lt, I2.nofs (Nat.le_refl _), .inr I2.sz, fun y cc e z => ?_, fun p hp => ?_⟩ (T.keep _ _ _ t0 fun b _ o e => Heap.get?_push_of_some _ e)
    · have hf4 := (I4.pin _ (List.mem_append_right _ hin)).1
      have rc := lam_code (X := X) (A := X.A.in1) (outer := X.stack) (E := fun _ _ _ => False) (k := k) (xs := [x]) (us := [u]) (vs := [v]) (params := params) (body := body) (tb := te) (Q := Q') (inX_out I4) L (fun j i' hj => by
        cases j with
        | zero => cases hj; exact ⟨x, hN, rfl, hloc⟩
        | succ j => simp at hj) rfl (by simp) (.cons ru .nil) rfl I4.env0 Un.refl hr.in1 I4.nolimit hf4 ht.1 (hbind _ _ _ _ _ _) (fun hr2 => he X.A.in1 X.stack s4 H4 f c' hr2) ht.2
      refine wpAny_call (codeAny_mono rc fun r s' hq => ?_)
      cases r with
      | error e =>
        obtain ⟨_, _, _, _, _, _, _, _, _, _, _, _, z⟩ := hq
        exact z
      | ok fl =>
        cases fl with
        | ret w => exact Inv.after (X := inX X) I4 hq
        | next => exact False.elim hq
        | brk => exact False.elim hq
        | cont => exact False.elim hq
    · simp only [List.mem_append, List.mem_cons, List.not_mem_nil, or_false] at hp
      rcases hp with z | z | z
      · rw [z]
        exact ⟨Heap.get?_push_of_some _ (kp _ _ hf), hfn, hfl, fun y => Nat.lt_irrefl _ (Nat.lt_of_lt_of_le (by obtain ⟨_, o, e, _⟩ := I1.ok.funs.mem y; exact Nat.lt_of_lt_of_le (Heap.lt_size e) I1.sz) hfs), hfd⟩
      · rw [z]
        exact ⟨Heap.get?_push_size _ rfl, I2.hok.fresh lts, Nat.ne_of_gt (Nat.lt_of_lt_of_le I2.lt lts), I2.nofs lts, fun v z => by cases z⟩
      · exact I3.pin p (List.mem_append_right _ z)
    · obtain ⟨v, o, e1, _⟩ := I2.cell y cc e
      exact Nat.lt_irrefl _ (z ▸ Heap.lt_size e1)
    · intro z
      simp only [List.mem_append, List.mem_cons, List.not_mem_nil, or_false] at hp
      rcases hp with y | y | y | y
      · exact Nat.lt_irrefl _ (z ▸ old p (List.mem_append_left _ y))
      · rw [y] at z; exact Nat.lt_irrefl _ (z ▸ flt)
      · rw [y] at z
        have z : hp1.objs.size = s2.heap.objs.size := z
        omega
      · exact Nat.lt_irrefl _ (z ▸ old p (List.mem_append_right _ y))
  rcases hJ with ⟨⟨xs, hq⟩, rfl⟩ | ⟨⟨xs, hq⟩, rfl⟩
  · obtain ⟨its, rv, pl, hz⟩ := I2.list hq
    refine wpAny_bind (wpAny_pyIter_list pl.isList (wpAny_bind (wpAny_newList ?_ (Nat.zero_le _))))
    rw [hname]
    exact wpAny_pure ⟨plainId_quiet F.plain_max_loop _, go _ _ (fun b o e => Heap.get?_push_of_some _ e) (size_push' ..) (turn_list a _) ⟨_, Heap.get?_push_size _ rfl, rfl, rfl⟩⟩
  · obtain ⟨its, rv, pl, hz⟩ := I2.tuple hq
    refine wpAny_bind (wpAny_pyIter_tuple (show s2.heap.IsTuple a its.toArray from pl) (wpAny_bind (wpAny_newList ?_ (Nat.zero_le _))))
    rw [hname]
    exact wpAny_pure ⟨plainId_quiet F.plain_max_loop _, go _ _ (fun b o e => Heap.get?_push_of_some _ e) (size_push' ..) (turn_tuple a _) ⟨_, Heap.get?_push_size _ rfl, rfl, rfl⟩⟩
end
end Sk

set_option maxHeartbeats 1000000
/-! Sk, part 53: order of tuples of ints; the best of items by a key. -/
namespace Sk
open PySem PySem.Spec PyProof.Rows L2
open LamX (CodeO lamCx lamEnv codeO_ne)
/-! ### t > u -/
section
open PySem.SeqAt
open PySem.AutoSeq1 (wpAny_loadPart')
open PySem.MeetsSeq PySem.MeetsSeq2 PySem.MeetsSeq3
theorem gt_one (A : Around) (s : Shared) (a : Int) (t : Tok) (c : Int) (u : Tok) (prog : Program) (w : World) (E Q : Value → Shared → Prop) (h : Q (.bool (decide (c < a))) s) : wpAny (model prog w) A (richCompare .Gt (.int a t) (.int c u)) Q E s :=
  (PyProof.Rows.gt_int h : wpAny (model prog w) A (compareOp .Gt (.int a t) (.int c u)) Q E s)
theorem gt_tup {l b : Addr} {items items2 : Array Value} {n n2 : Nat} {dd dd2 : Option Addr} {sl sl2 : Array (Option Value)} {ns ms : List Int} (hi : IntsAre items.toList ns) (hj : IntsAre items2.toList ms) :
    Meets (Builtin.«tuple.__gt__» ⟨[.ref l, .ref b], []⟩) (fun _ R s => s.heap.get? l = some { cls := .type "tuple", dict := dd, data := .seq items n, slots := sl } ∧ s.heap.get? b = some { cls := .type "tuple", dict := dd2, data := .seq items2 n2, slots := sl2 } ∧
        R (.ok (.ret (.bool (HT.lexLt ms ns)))) s) :=
  .of_wp fun prog w A R s h => by
    obtain ⟨hp, g, d, tk, os⟩ := s; obtain ⟨g1, g2, h⟩ := h
    have ff := AutoSeq1.sub_tuple_tuple
    have y1 : items.size = ns.length := by rw [← hi.length]; simp
    have y2 : items2.size = ms.length := by rw [← hj.length]; simp
    wp_walk using wpAny_loadPart' g1, wpAny_loadPart' g2, wpAny_forIn_list _ (fun more z s' => z.1 = none ∧ s' = ⟨hp, g, d, tk, os⟩ ∧ ∃ (us ws : List Value) (is js : List Int), more = us.zip ws ∧
      IntsAre us is ∧ IntsAre ws js ∧ is.length + items2.size = js.length + items.size ∧ R (.ok (.ret (.bool (HT.lexLt js is)))) ⟨hp, g, d, tk, os⟩) _
    case turn =>
      rintro ⟨y, x⟩ more z s' ⟨hz', rfl, us, ws, is, js, hz, h1, h2, hlen, hR⟩
      cases h1 with
      | nil => rw [List.zip_nil_left] at hz; cases hz
      | cons a t h1' =>
        cases h2 with
        | nil => rw [List.zip_nil_right] at hz; cases hz
        | cons c u h2' =>
          rw [List.zip_cons_cons] at hz
          obtain ⟨e1, hmore⟩ := List.cons.inj hz
          obtain ⟨rfl, rfl⟩ := Prod.mk.inj e1
          rw [HT.lexLt_cons] at hR
          simp only [List.length_cons] at hlen
          obtain ⟨e, he, hiff⟩ := HT.eqAt_int A.in1 ⟨hp, g, d, tk, os⟩ a t c u
          refine wpAny_bind (he prog w _ _ ?_)
          cases e with
          | true =>
            rw [if_pos (hiff.mp rfl).symm] at hR
            wp_walk
            exact ⟨rfl, rfl, _, _, _, _, hmore, h1', h2', by omega, hR⟩
          | false =>
            rw [if_neg (fun q => absurd (hiff.mpr q.symm) Bool.false_ne_true)] at hR
            have hgt := gt_one A.in1 ⟨hp, g, d, tk, os⟩ a t c u prog w
            wp_walk using hgt
            exact ⟨_, rfl, by simpa using hR⟩
    case fin =>
      rintro ⟨b1, b2⟩ s' ⟨hz', rfl, us, ws, is, js, hz, h1, h2, hlen, hR⟩
      simp only at hz'
      subst hz'
      have hv : HT.lexLt js is = decide (items2.size < items.size) := by
        cases h1 with
        | nil =>
          cases h2 with
          | nil =>
            simp only [List.length_nil] at hlen
            rw [HT.lexLt_nil_nil, decide_eq_false (show ¬ items2.size < items.size by omega)]
          | cons c u hw =>
            simp only [List.length_nil, List.length_cons] at hlen
            rw [HT.lexLt_cons_nil, decide_eq_false (show ¬ items2.size < items.size by omega)]
        | cons a t hv =>
          cases h2 with
          | nil =>
            simp only [List.length_nil, List.length_cons] at hlen
            rw [HT.lexLt_nil_cons, decide_eq_true (show items2.size < items.size by omega)]
          | cons c u hw =>
            rw [List.zip_cons_cons] at hz
            cases hz
      rw [hv] at hR
      wp_walk
      exact ⟨_, rfl, by simpa [Builtin.Tuple.tupleCompareSizes] using hR⟩
    case h =>
      exact ⟨rfl, rfl, items.toList, items2.toList, ns, ms, rfl, hi, hj, by omega, h⟩
end
def rGtT (K : PySem.W.Frag) : R2 := fun x y H Q => ∃ a b ns ms, x = .ref a ∧ y = .ref b ∧ SqT K H a (ns.map V.int) ∧ SqT K H b (ms.map V.int) ∧ Q (.bl (HT.lexLt ms ns)) H
section
variable {X : Cx}
theorem op_gtT (hu : X.A.units < cLine) : OpR X (compareOp .Gt) (rGtT X.K) := by
  rintro pins s σ H x y v u Q I rx ry ⟨a, b, ns, ms, rfl, rfl, ha, hb, q⟩
  cases rx
  cases ry
  obtain ⟨its, r1, p1, _⟩ := I.tuple ha
  obtain ⟨its2, r2, p2, _⟩ := I.tuple hb
  have i1 : IntsAre its.toArray.toList ns := intsAre_of r1
  have i2 : IntsAre its2.toArray.toList ms := intsAre_of r2
  obtain ⟨⟨cls, dd, data, sl⟩, ho, hc, n, hd⟩ := id p1
  obtain ⟨⟨cls2, dd2, data2, sl2⟩, ho2, hc2, n2, hd2⟩ := id p2
  simp only at hc hd hc2 hd2
  subst hc hd hc2 hd2
  have m := gt_tup (l := a) (b := b) (n := n) (n2 := n2) (dd := dd) (dd2 := dd2) (sl := sl) (sl2 := sl2) i1 i2
  exact richCompare_meets_room (op := .Gt) ⟨_, ho, rfl⟩ ⟨_, ho2, rfl⟩ PySem.F.slot_tuple_gt PySem.F.entry_tuple_gt (PySem.F.args_tuple_gt_2 _ _) m
    ⟨ho, ho2, show Value.bool (HT.lexLt ms ns) ≠ Value.notImplemented ∧ _ from ⟨(fun x => nomatch x), ⟨.bl (HT.lexLt ms ns), H, I, rfl, q⟩⟩⟩ hu
def rLtW (K : PySem.W.Frag) : R2 := fun x y H Q => rI0 (fun i j => .bl (decide (i < j))) x y H Q ∨ rLtT K x y H Q
def rGtW (K : PySem.W.Frag) : R2 := fun x y H Q => rI0 (fun i j => .bl (decide (i > j))) x y H Q ∨ rGtT K x y H Q
theorem op_ltW (hu : X.A.units < cLine) : OpR X (compareOp .Lt) (rLtW X.K) := fun pins s σ H x y v u Q I rx ry h => h.elim (fun z => op_lt pins s σ H x y v u Q I rx ry z) fun z => op_ltT hu pins s σ H x y v u Q I rx ry z
theorem op_gtW (hu : X.A.units < cLine) : OpR X (compareOp .Gt) (rGtW X.K) := fun pins s σ H x y v u Q I rx ry h => h.elim (fun z => op_gt pins s σ H x y v u Q I rx ry z) fun z => op_gtT hu pins s σ H x y v u Q I rx ry z
end
def tupI (st : Sto) (x : Va) : Option (List Int) := match seqOf st x with
  | some (true, xs) => intsOf xs
  | _ => none
def ltW (x y : Va) (st : Sto) : Rs Va := match x, y with
  | .dat (.int i), .dat (.int j) => oB (decide (i < j)) st
  | x, y => match tupI st x, tupI st y with
    | some ns, some ms => oB (HT.lexLt ns ms) st
    | _, _ => .bad
def gtW (x y : Va) (st : Sto) : Rs Va := match x, y with
  | .dat (.int i), .dat (.int j) => oB (decide (i > j)) st
  | x, y => match tupI st x, tupI st y with
    | some ns, some ms => oB (HT.lexLt ms ns) st
    | _, _ => .bad
section
variable {C : Cfg}
theorem tupI_rel {M0 : Addr → Prop} {m : List Addr} {H : Hp} {st : Sto} {v : V} {x : Va} {ns : List Int} (rh : RH C M0 m H st) (rx : RV C H (Mx M0 m) m v x) (h : tupI st x = some ns) : ∃ a, v = .ref a ∧ SqT C.K H a (ns.map V.int) := by
  unfold tupI at h
  split at h
  · rename_i xs hs
    obtain ⟨a, vs, rfl, rs, sq⟩ := seqOf_rel rh rx hs
    rw [rs.ints h] at sq
    exact ⟨a, rfl, sq⟩
  · cases h
theorem os_ltW : OpS C (rLtW C.K) ltW := by
  intro M0 m H st v u x y E Q rh rx ry fin
  unfold ltW at fin
  split at fin
  · exact .inl ⟨_, _, rx.int_inv, ry.int_inv, FinG.out (R := relV C M0) fin rh (.dat (.bl _))⟩
  · split at fin
    · rename_i ns ms h1 h2
      obtain ⟨a, rfl, sa⟩ := tupI_rel rh rx h1
      obtain ⟨b, rfl, sb⟩ := tupI_rel rh ry h2
      exact .inr ⟨a, b, ns, ms, rfl, rfl, sa, sb, FinG.out (R := relV C M0) fin rh (.dat (.bl _))⟩
    · exact fin.elim
theorem os_gtW : OpS C (rGtW C.K) gtW := by
  intro M0 m H st v u x y E Q rh rx ry fin
  unfold gtW at fin
  split at fin
  · exact .inl ⟨_, _, rx.int_inv, ry.int_inv, FinG.out (R := relV C M0) fin rh (.dat (.bl _))⟩
  · split at fin
    · rename_i ns ms h1 h2
      obtain ⟨a, rfl, sa⟩ := tupI_rel rh rx h1
      obtain ⟨b, rfl, sb⟩ := tupI_rel rh ry h2
      exact .inr ⟨a, b, ns, ms, rfl, rfl, sa, sb, FinG.out (R := relV C M0) fin rh (.dat (.bl _))⟩
    · exact fin.elim
/-! ### the best by a key -/
def keyL (lt : Va → Va → Sto → Rs Va) (l : Lk) (f : Va → Sto → Rs Va) : List Va → Option (Va × Va) → Sto → Rs Va
  | [], b, st => if lkOk l st = true then (match b with
    | some (v, _) => .ok v st
    | none => .bad) else .bad
  | x :: r, b, st => if lkOk l st = true then (f x st).calm.bind fun kx st1 => (match b with
    | none => keyL lt l f r (some (x, kx)) st1
    | some (v, k) => (lt kx k st1).calm.bind fun z st2 => match z with
      | .dat (.bool g) => keyL lt l f r (some (if g = true then (x, kx) else (v, k))) st2
      | _ => .bad) else .bad
def dKey (lt : Va → Va → Sto → Rs Va) (own : List Nat) (a e : CE) : CE := fun ev st => (a ev st).bind fun x st1 => (itemsV x st1).bind fun p st2 => keyL lt p.2 (fun y s => e (putE ev own [y]) s) p.1 none st2
def KRel (C : Cfg) (M0 : Addr → Prop) (H : Hp) (m : List Addr) : Option (V × V) → Option (Va × Va) → Prop
  | none, none => True
  | some (v, k), some (x, y) => RV C H (Mx M0 m) m v x ∧ RV C H (Mx M0 m) m k y
  | _, _ => False
theorem KRel.go {M0 : Addr → Prop} {m m' : List Addr} {H H' : Hp} {b : Option (V × V)} {z : Option (Va × Va)} (h : KRel C M0 H m b z) (g : Go m H m' H') (mu : MutO H m) : KRel C M0 H' m' b z := by
  match b, z, h with
  | none, none, _ => trivial
  | some (v, k), some (x, y), h => exact ⟨h.1.go g mu, h.2.go g mu⟩
theorem key_of {W : WX} {P : Addr} {q : Str} {own : List Nat} {ca ce : CE} {lt : Va → Va → Sto → Rs Va} {rc : R2} (hP : (P, some q) ∈ C.T) (hu : ∀ p ∈ C.T, p.1 = P → p.2 = some q) (hs : OpS C rc lt) (s : L2.St) (H : Hp) (Q : VK) (h : tE C W (dKey lt own ca ce) s H Q) :
    tKey P q own (tE C W ca) (tE C W0 ce) rc C.K s H Q :=
  tG.bind (R := relV) (k := fun x ev st1 => (itemsV x st1).bind fun p st2 => keyL lt p.2 (fun y s => ce (putE ev own [y]) s) p.1 none st2) h fun M0 m ev st x v H1 rh re rv fin => by
    cases hi : itemsV x st with
    | bad => rw [hi] at fin; exact fin.elim
    | err e s2 =>
      unfold itemsV at hi
      split at hi <;> cases hi
    | ok p st0 =>
      rw [hi] at fin
      simp only [Rs.bind_ok] at fin
      unfold itemsV at hi
      split at hi
      · rename_i t xs hsq
        cases hi
        obtain ⟨a, vs, rfl, rs, sq⟩ := seqOf_rel rh rv hsq
        refine ⟨a, rfl, rh.tb _ hP, fun c' H2 lg hco => ?_⟩
        obtain ⟨g2, rh2⟩ := rh.lam hu lg
        have rj := it_seq rh rv hsq
        refine ⟨if t = true then Itt C.K a else Itl C.K a, fun i n b H' => n = xs.length - i ∧ i ≤ xs.length ∧ ∃ m' st' z, KRel C M0 H' m' b z ∧ Go m H1 m' H' ∧ H' c' = some (CodeO c' q) ∧ RH C M0 m' H' st' ∧ RE C H' M0 m' s ev ∧
            Fin C M0 m H1 (WE W s) (keyL lt (lockOf x xs) (fun y s => ce (putE ev own [y]) s) (xs.drop i) z st') Q,
          xs.length, ?_, ⟨rfl, Nat.zero_le _, m, st, none, trivial, g2, hco, rh2, re.go g2 rh.mu, fin⟩, ?_⟩
        · obtain ⟨b, vs2, eb, _, sq2⟩ := seqOf_rel rh2 (rv.go g2 rh.mu) hsq
          cases eb
          cases t with
          | true => exact .inr ⟨⟨vs2, sq2⟩, rfl⟩
          | false => exact .inl ⟨⟨vs2, sq2⟩, rfl⟩
        · rintro i n b H' ⟨rfl, hile, m', st', z, kr, g', hco', rh', re', fin'⟩
          by_cases hlt : i < xs.length
          · rw [List.drop_eq_getElem_cons hlt] at fin'
            unfold keyL at fin'
            cases hl : lkOk (lockOf x xs) st' with
            | false => rw [hl] at fin'; exact fin'.elim
            | true =>
              rw [hl] at fin'
              simp only [if_true] at fin'
              obtain ⟨go, yld⟩ := (rj M0 m' H' st' g' (fun a z => .inl z) rh' hl i).1 hlt
              refine .inr ⟨xs.length - (i + 1), by omega, go, fun y H3 hy => ?_⟩
              obtain ⟨sm, w, ew, rw'⟩ := yld y H3 hy
              rw [List.getElem?_eq_getElem hlt] at ew
              cases ew
              have g3 : Go m' H' m' H3 := Go.same sm
              have rh3 := rh'.same sm
              have re3 := re'.go g3 rh'.mu
              refine ⟨sm _ _ hco', M0, m', putE ev own [xs[i]], st', rh3, re3.put (.cons rw' .nil), ?_⟩
              cases he : ce (putE ev own [xs[i]]) st' with
              | bad => rw [he] at fin'; exact fin'.elim
              | err _ _ => rw [he] at fin'; exact fin'.elim
              | ok kx sk =>
                rw [he] at fin'
                simp only [Rs.calm_ok, Rs.bind_ok] at fin'
                intro kv m4 H4 g4 rh4 rk
                have g34 := g3.trans g4
                have gg := g'.trans g34
                have cok : H4 c' = some (CodeO c' q) := g34.kp c' _ hco' (fun z => by
                  obtain ⟨o, e, mx⟩ := rh'.mu c' z
                  rw [hco'] at e
                  cases e
                  exact mx) (fun ps z => codeO_ne ps z)
                have kr4 := kr.go g34 rh'.mu
                have rx4 := rw'.go g4 rh3.mu
                match b, z, kr4, fin' with
                | none, none, _, fin' => exact ⟨rfl, hlt, m4, sk, some (xs[i], kx), ⟨rx4, rk⟩, gg, cok, rh4, re'.go g34 rh'.mu, fin'⟩
                | some (bv, bk), some (zv, zk), kr4, fin' =>
                  refine hs M0 m4 H4 sk kv bk kx zk (fun _ _ _ => False) _ rh4 rk kr4.2 ?_
                  simp only at fin'
                  cases hlt2 : lt kx zk sk with
                  | bad => rw [hlt2] at fin'; exact fin'.elim
                  | err _ _ => rw [hlt2] at fin'; exact fin'.elim
                  | ok zz s5 =>
                    rw [hlt2] at fin'
                    simp only [Rs.calm_ok, Rs.bind_ok] at fin'
                    intro zv5 m5 H5 g5 rh5 r5
                    have g45 := g34.trans g5
                    have cok5 : H5 c' = some (CodeO c' q) := g5.kp c' _ cok (fun z => by
                      obtain ⟨o, e, mx⟩ := rh4.mu c' z
                      rw [cok] at e
                      cases e
                      exact mx) (fun ps z => codeO_ne ps z)
                    split at fin'
                    · rename_i gb
                      refine ⟨gb, r5.bool_inv, rfl, hlt, m5, s5, _, ?_, g'.trans g45, cok5, rh5, re'.go g45 rh'.mu, fin'⟩
                      cases gb with
                      | true => exact ⟨rx4.go g5 rh4.mu, rk.go g5 rh4.mu⟩
                      | false => exact ⟨kr4.1.go g5 rh4.mu, kr4.2.go g5 rh4.mu⟩
                    · exact fin'.elim
          · have ei : i = xs.length := by omega
            subst ei
            rw [List.drop_length] at fin'
            unfold keyL at fin'
            cases hl : lkOk (lockOf x xs) st' with
            | false => rw [hl] at fin'; exact fin'.elim
            | true =>
              rw [hl] at fin'
              simp only [if_true] at fin'
              have hstop := (rj M0 m' H' st' g' (fun a z => .inl z) rh' hl xs.length).2 (Nat.le_refl _)
              match b, z, kr, fin' with
              | none, none, _, fin' => exact fin'.elim
              | some (bv, bk), some (zv, zk), kr, fin' => exact .inl ⟨hstop, bv, bk, rfl, fin' bv m' H' g' rh' kr.1⟩
      · cases hi
end
section
variable {X : Cx} {C : Cfg} {W : WX} {k : Nat} {c P : Addr} {scope : Scope} {i : Nat} {x : Str} {params : Arguments} {body l : Expr} {p lpos kpos pos : Pos} {ca ce : CE}
variable (hP : (P, some (X.env.qual ++ "<lambda>")) ∈ C.T) (hu : ∀ p ∈ C.T, p.1 = P → p.2 = some (X.env.qual ++ "<lambda>")) (hK : X.K = C.K) (hr : Room (k + 2) X.A) (hc : X.calm = true) (TB : GxR.TabB X.base X.mg c P) (hcode : X.env.code = .ref c) (L : LSc X.N X.env.scope scope [i]) (hN : X.N[i]? = some x) (hloc : scope.names.lookup x = some .local) (hdef : defaultsOf params X.env = ([], []))
    (hbind : ∀ (q : Str) (cl : List (Str × Addr)) (pm cv ctv u : Value), bindArgs (PySem.W.kla_fn "<lambda>" q params body scope cl pm cv ctv) ⟨[u], []⟩ = pure [(x, u)])
    (hl : PE X l (tE C W ca)) (he : ∀ (A : Around) (outer : List Env) (s : Shared) (H : Hp) (f c' : Addr), Room k (A.deeper (lamEnv X scope s.heap.objs.size f c')) → PE (lamCx X A outer s H (fun _ _ _ => False) scope f c') body (tE C W0 ce))
include hP hu hK hr hc TB hcode L hN hloc hdef hbind hl he
theorem fe_minKey (hg : Gl X "min") (hm : X.mg "min" = none) (hst : starEach [l] X.env = (false, eval l X.env) :: starEach [] X.env := by rfl) :
    PE X (.Call (.Name "min" p) [l] [⟨some "key", .Lambda params body scope lpos, kpos⟩] pos) (tE C W (dKey ltW [i] ca ce)) :=
  PE.imp (pe_minKey (rc := rLtW X.K) hr hc ⟨TB.1, TB.2, TB.3⟩ hcode L hN hloc hdef hbind (op_ltW (X := inX X) (by have := hr.un; show X.A.units + 1 < _; omega)) hl he hg hm hst) (by rw [hK]; exact key_of hP hu os_ltW)
theorem fe_maxKey (hg : Gl X "max") (hm : X.mg "max" = none) (hst : starEach [l] X.env = (false, eval l X.env) :: starEach [] X.env := by rfl) :
    PE X (.Call (.Name "max" p) [l] [⟨some "key", .Lambda params body scope lpos, kpos⟩] pos) (tE C W (dKey gtW [i] ca ce)) :=
  PE.imp (pe_maxKey (rc := rGtW X.K) hr hc ⟨TB.1, TB.2, TB.3⟩ hcode L hN hloc hdef hbind (op_gtW (X := inX X) (by have := hr.un; show X.A.units + 1 < _; omega)) hl he hg hm hst) (by rw [hK]; exact key_of hP hu os_gtW)
end
/-- a table has one kind -/
theorem T_uniq {β : Type} {a : Addr} {b b' : β} : ∀ {l : List (Addr × β)}, (l.map Prod.fst).Nodup → (a, b) ∈ l → (a, b') ∈ l → b' = b
  | p :: r, nd, h1, h2 => by
    obtain ⟨n1, n2⟩ : p.1 ∉ r.map Prod.fst ∧ (r.map Prod.fst).Nodup := List.nodup_cons.mp nd
    rcases List.mem_cons.mp h1 with e1 | e1
    · rcases List.mem_cons.mp h2 with e2 | e2
      · rw [← e1] at e2
        exact (Prod.mk.inj e2).2
      · exact absurd (List.mem_map.mpr ⟨_, e2, by rw [← e1]⟩) n1
    · rcases List.mem_cons.mp h2 with e2 | e2
      · exact absurd (List.mem_map.mpr ⟨_, e1, by rw [← e2]⟩) n1
      · exact T_uniq n2 e1 e2
end Sk

set_option maxHeartbeats 1000000
/-! Sk, part 54: a lambda handed to a def: the larger base, the call of what was handed. -/
namespace Sk
open PySem PySem.Spec PyProof.Rows L2
open LamX (CodeO lamCx lamEnv codeO_ne)
open NdefX (clo_cm clo_has)
/-! ### a part of the heap -/
def rstr (h : Heap) (p : Addr → Bool) : Heap := ⟨h.objs.mapIdx fun i o => if p i = true then o else { cls := .none, dict := none, data := .freed, slots := #[] }, h.life⟩
theorem rstr_size (h : Heap) (p : Addr → Bool) : (rstr h p).objs.size = h.objs.size := by simp [rstr]
theorem rstr_yes {h : Heap} {p : Addr → Bool} {b : Addr} (hp : p b = true) : (rstr h p).get? b = h.get? b := by
  unfold rstr Heap.get?
  simp only [Array.getElem?_mapIdx]
  cases h.objs[b]? with
  | none => rfl
  | some o => simp [hp]
theorem rstr_no {h : Heap} {p : Addr → Bool} {b : Addr} (hp : p b = false) : (rstr h p).get? b = none := by
  unfold rstr Heap.get?
  simp only [Array.getElem?_mapIdx]
  cases h.objs[b]? with
  | none => rfl
  | some o => simp [hp]
theorem rstr_get {h : Heap} {p : Addr → Bool} {b : Addr} {o : Obj} (e : (rstr h p).get? b = some o) : p b = true ∧ h.get? b = some o := by
  cases hp : p b with
  | true => rw [rstr_yes hp] at e; exact ⟨rfl, e⟩
  | false => rw [rstr_no hp] at e; cases e
/-- what a closure's base holds -/
structure Clo (X : Cx) (scope : Scope) (σ : L2.St) (B : Heap) : Prop where
  ok : X.Ok
  len : σ.length = X.N.length
  up : ∀ b o, X.base.get? b = some o → B.get? b = some o
  cell : ∀ y c, X.env.cells.lookup y = some c → (cloFrom X.env.cells scope.names []).lookup y = some c → ∃ v, B.IsCell c v
  loc : ∀ (i : Nat) (y : Str) (v : V), X.N[i]? = some y → σ[i]? = some (some v) → scope.names.lookup y = some .free → ∃ u c, RelV v u ∧ X.env.cells.lookup y = some c ∧ B.IsCell c (some u)
theorem cell_up {h h' : Heap} {c : Addr} {v : Option Value} (x : h.IsCell c v) (k : ∀ o, h.get? c = some o → h'.get? c = some o) : h'.IsCell c v := by
  obtain ⟨o, e, d⟩ := x
  exact ⟨o, k o e, d⟩
section
variable {X : Cx} {pins : List (Addr × Obj)} {σ : L2.St} {H : Hp} {s : Shared} {scope : Scope} {own : List Nat} {f : Addr} {fob : Obj}
/-- the larger base: the old one, the function, the cells that it took -/
theorem clo_base (I : Inv X pins σ H s) (hfx : ∀ x, X.fn x = true) (L : LSc X.N X.env.scope scope own) (hf : s.heap.get? f = some fob) (hfn : H f = none) (hfl : f ≠ X.env.locals) (hfs : f ∉ X.fs) :
    ∃ B : Heap, Clo X scope σ B ∧ B.get? f = some fob ∧ Env0 X.prog X.w X.K X.mg B X.A X.stack s H := by
  obtain ⟨cs, hcs⟩ : ∃ cs : List Addr, cs = (cloFrom X.env.cells scope.names []).map (·.2) := ⟨_, rfl⟩
  obtain ⟨p, hp⟩ : ∃ p : Addr → Bool, p = fun b => (X.base.get? b).isSome || b == f || cs.contains b := ⟨_, rfl⟩
  have hfree := L.cells I.ok
  have cm : ∀ y c, (cloFrom X.env.cells scope.names []).lookup y = some c → X.env.cells.lookup y = some c := fun y c e => clo_cm hfree e
  have pin : ∀ b, p b = true → (∃ o, X.base.get? b = some o) ∨ b = f ∨ ∃ y, X.env.cells.lookup y = some b := fun b hb => by
    rw [hp] at hb
    simp only [Bool.or_eq_true, beq_iff_eq, List.contains_iff_mem] at hb
    rcases hb with (hb | hb) | hb
    · exact .inl (Option.isSome_iff_exists.mp hb)
    · exact .inr (.inl hb)
    · rw [hcs] at hb
      obtain ⟨⟨y, c⟩, hm, e⟩ := List.mem_map.mp hb
      have e : c = b := e
      subst e
      rcases cloFrom_mem hm with z | ⟨h1, h2⟩
      · cases z
      · obtain ⟨c1, hc⟩ := hfree _ h1 rfl
        have hc : X.env.cells.lookup y = some c1 := hc
        refine .inr (.inr ⟨y, ?_⟩)
        have : c = c1 := by rw [h2, hc] <;> rfl
        rw [this]
        exact hc
  have upb : ∀ b o, X.base.get? b = some o → (rstr s.heap p).get? b = some o := fun b o e => by
    rw [rstr_yes (by rw [hp]; simp [e])]
    exact I.bk b o e
  have hcell : ∀ y c, (cloFrom X.env.cells scope.names []).lookup y = some c → (rstr s.heap p).get? c = s.heap.get? c := fun y c e => by
    refine rstr_yes ?_
    rw [hp]
    have : c ∈ cs := by
      rw [hcs]
      exact List.mem_map.mpr ⟨(y, c), PySem.mem_of_lookup e, rfl⟩
    simp [this]
  have noFr : ∀ L ∈ frs X.stack, (rstr s.heap p).get? L = none := fun b hb => by
    cases e : (rstr s.heap p).get? b with
    | none => rfl
    | some o =>
      exfalso
      obtain ⟨hpb, ho⟩ := rstr_get e
      rcases List.mem_cons.mp (I.stkSub b hb) with z | z
      · subst z
        rcases pin _ hpb with ⟨o', e'⟩ | h2 | ⟨y, h2⟩
        · exact Nat.lt_irrefl _ (Nat.lt_of_lt_of_le (Heap.lt_size e') (Nat.le_trans I.ok.bsz I.ok.above))
        · exact hfl h2.symm
        · obtain ⟨v, oc, e1, e2⟩ := I.cell y _ h2
          obtain ⟨m, ⟨oL, es, ep, e3, e4, _⟩, _⟩ := I.loc
          rw [e1] at e3
          cases e3
          rw [e2] at e4
          cases e4
      · rcases pin _ hpb with ⟨o', e'⟩ | h2 | ⟨y, h2⟩
        · exact I.ok.nofr e' z
        · exact hfs (h2 ▸ z)
        · have h3 := I.ok.cab y b (hfx y) h2
          obtain ⟨_, o2, e2, _⟩ := I.ok.funs.mem z
          exact Nat.lt_irrefl _ (Nat.lt_of_lt_of_le (Heap.lt_size e2) h3)
  refine ⟨rstr s.heap p, ⟨I.ok, I.len, upb, fun y c e1 e2 => ?_, fun i y v e1 e2 e3 => ?_⟩, ?_, ⟨I.ok.frames, ⟨I.mod.kin.keeps upb, I.mod.glob.keeps upb, ?_, I.mod.nolimit.keeps upb⟩, fun b o e => ?_, by rw [rstr_size]; exact Nat.le_refl _, funFrames_none I.stack noFr, I.stkFree, I.hok, I.bare⟩⟩
  · obtain ⟨v, z⟩ := I.cell y c e1
    exact ⟨v, cell_up z fun o e => by rw [hcell y c e2]; exact e⟩
  · obtain ⟨m, hn, hl⟩ := I.loc
    have hm : (y, NameKind.free) ∈ scope.names := PySem.mem_of_lookup e3
    have kk := L.free _ hm rfl
    obtain ⟨u, r, q⟩ := hl i y v e1 e2 (kk.elim (fun z => .inr (.inl z)) fun z => .inr (.inr z))
    rcases q with ⟨z, _⟩ | ⟨_, c, hc1, z⟩
    · have z : X.env.scope.names.lookup y = some .local := z
      rcases kk with kk | kk
      · rw [show (y, NameKind.free).1 = y from rfl, z] at kk; cases kk
      · rw [show (y, NameKind.free).1 = y from rfl, z] at kk; cases kk
    · exact ⟨u, c, r, hc1, cell_up z fun o e => by rw [hcell y c (clo_has hfree hm hc1)]; exact e⟩
  · rw [rstr_yes (by rw [hp]; simp)]
    exact hf
  · obtain ⟨mb, h1, h2⟩ := I.mod.blt
    exact ⟨mb, h1.keeps upb, h2⟩
  · obtain ⟨hpb, ho⟩ := rstr_get e
    refine ⟨ho, ?_⟩
    rcases pin _ hpb with ⟨o', e'⟩ | h2 | ⟨y, h2⟩
    · exact (I.bs b o' e').2
    · rw [h2]; exact hfn
    · exact I.freeC y b h2
end
/-! ### the frame of the closure, over the larger base -/
section
variable {X : Cx} {σ : L2.St} {HZ : Hp} {s1 : Shared} {scope : Scope} {own : List Nat} {xs : List Str} {us : List Value} {vs : List V} {B : Heap}
theorem clo_begin {A : Around} {outer : List Env} {E : XK} {f c' : Addr} {h₁ : Heap} {tk : Nat} (Q : Clo X scope σ B) (L : LSc X.N X.env.scope scope own) (hx : ∀ (k i : Nat), own[k]? = some i → ∃ x, X.N[i]? = some x ∧ xs[k]? = some x ∧ scope.names.lookup x = some .local)
    (nd : xs.Nodup) (rv : Vals vs us) (hlen : vs.length = own.length) (e0 : Env0 X.prog X.w X.K X.mg B A outer s1 HZ) (hd : A.handled = none)
    (hns : h₁.Ns s1.heap.objs.size fun y => (xs.zip us).reverse.lookup y) (kp : ∀ b o, s1.heap.get? b = some o → h₁.get? b = some o) :
    Inv (lamCx { X with base := B } A outer s1 HZ E scope f c') [] (putS σ own vs) HZ { s1 with heap := h₁, toks := tk } := by
  have hfree := L.cells Q.ok
  have cm : ∀ y c, (cloFrom X.env.cells scope.names []).lookup y = some c → X.env.cells.lookup y = some c := fun y c e => clo_cm hfree e
  have noA : ∀ b : Addr, b ∉ (lamCx { X with base := B } A outer s1 HZ E scope f c').ex := fun b z => absurd (show b ∈ ([] : List Addr) from z) (by simp)
  have cellK : ∀ {c : Addr} {v : Option Value}, B.IsCell c v → h₁.IsCell c v ∧ HZ c = none := fun {c v} ⟨o, ho, hd⟩ => ⟨⟨o, kp _ _ (e0.bs c o ho).1, hd⟩, (e0.bs c o ho).2⟩
  refine ⟨⟨e0.mod, L.kind, rfl, rfl, Nat.le_refl _, fun y z c e1 e2 => Q.ok.inj y z c (cm y c e1) (cm z c e2), fun y hy => ?a1, fun y c z _ => absurd (show false = true from z) (by decide), fun _ => hd, Around.frames_deeper e0.frames, .inr ⟨rfl, rfl⟩, fun b z => absurd z (noA b), e0.bs, e0.bsz,
      fun b _ _ => noA b, fun b z => absurd z (noA b), e0.funs, e0.frf⟩, rfl, e0.bare, Un.kept kp, ⟨_, hns, fun i y v e1 e2 e3 => ?a2⟩, fun y c e => ?a3, e0.hok.fresh (Nat.le_refl _), fun y c e => ?a4, fun q hq => absurd (show q ∈ ([] : List (Addr × Obj)) ++ [] from hq) (by simp), e0.hok.kept kp,
      by rw [putS_len]; exact Q.len⟩
  case a1 =>
    have hy : scope.names.lookup y = some .cell ∨ scope.names.lookup y = some .free := hy
    rcases hy with hy | hy
    · exact absurd rfl (L.cell _ (PySem.mem_of_lookup hy))
    · obtain ⟨c, h⟩ := hfree _ (PySem.mem_of_lookup hy) rfl
      exact ⟨c, clo_has hfree (PySem.mem_of_lookup hy) h⟩
  case a2 =>
    have e3 : Vis scope y := e3
    have e1 : X.N[i]? = some y := e1
    have par : ∀ k : Nat, own[k]? = some i → vs[k]? = some v → ∃ u, RelV v u ∧ (xs.zip us).reverse.lookup y = some u ∧ scope.names.lookup y = some .local := fun k h1 h2 => by
      obtain ⟨x, hx1, hx2, hx3⟩ := hx k i h1
      rw [e1] at hx1
      cases hx1
      obtain ⟨u, hu, ru⟩ := rv.get h2
      exact ⟨u, ru, look_zip nd hx2 hu, hx3⟩
    rcases e3 with k | k | k
    · have hi := L.loc i y e1 k
      rcases putS_at _ _ _ _ _ hlen e2 with ⟨j', h1, h2⟩ | ⟨h1, _⟩
      · obtain ⟨u, r, lk, _⟩ := par j' h1 h2
        exact ⟨u, r, .inl ⟨k, lk⟩⟩
      · exact absurd hi h1
    · exact absurd rfl (L.cell _ (PySem.mem_of_lookup k))
    · rcases putS_at _ _ _ _ _ hlen e2 with ⟨j', h1, h2⟩ | ⟨_, h1⟩
      · obtain ⟨u, r, lk, z⟩ := par j' h1 h2
        rw [z] at k
        cases k
      · obtain ⟨u, c, r, hc1, z⟩ := Q.loc i y v e1 h1 k
        exact ⟨u, r, .inr ⟨.inr k, c, clo_has hfree (PySem.mem_of_lookup k) hc1, (cellK z).1⟩⟩
  case a3 =>
    obtain ⟨w', z⟩ := Q.cell y c (cm y c e) e
    exact ⟨w', (cellK z).1⟩
  case a4 =>
    obtain ⟨w', z⟩ := Q.cell y c (cm y c e) e
    exact (cellK z).2
theorem clo_code {A : Around} {outer : List Env} {E : XK} {k : Nat} {f c' : Addr} {pm ctv : Value} {params : Arguments} {body : Expr} {tb : TE} {Q' : VK} (Q : Clo X scope σ B) (L : LSc X.N X.env.scope scope own)
    (hx : ∀ (k i : Nat), own[k]? = some i → ∃ x, X.N[i]? = some x ∧ xs[k]? = some x ∧ scope.names.lookup x = some .local) (hx2 : xs.length = own.length) (nd : xs.Nodup) (rv : Vals vs us) (hlen : vs.length = own.length)
    (e0 : Env0 X.prog X.w X.K X.mg B A outer s1 HZ) (hr : Room (k + 1) A)
    (hfB : B.get? f = some (PySem.W.kla_obj "<lambda>" (X.env.qual ++ "<lambda>") params body scope (cloFrom X.env.cells scope.names []) pm c' ctv)) (hc : HZ c' = some (CodeO c' (X.env.qual ++ "<lambda>")))
    (hbind : bindArgs (PySem.W.kla_fn "<lambda>" (X.env.qual ++ "<lambda>") params body scope (cloFrom X.env.cells scope.names []) pm (.ref c') ctv) ⟨us, []⟩ = pure (xs.zip us))
    (hb : Room k (A.deeper (lamEnv X scope s1.heap.objs.size f c')) → PE (lamCx { X with base := B } A outer s1 HZ E scope f c') body tb) (ht : tb (putS σ own vs) HZ Q') :
    codeAny (model X.prog X.w) A (.call (.ref f) ⟨us, []⟩) (CR (L2.CX X.prog X.w) outer X.prog X.w HZ s1 Q' E) s1 := by
  obtain ⟨⟨oc, ws, t, hoc, hdc, hvc⟩, _, _⟩ := e0.hok c' _ hc
  have lim : s1.heap.NoLimit := e0.mod.nolimit.keeps fun b o e => (e0.bs b o e).1
  refine PySem.W.kla_callFunE hr.depth (e0.bs f _ hfB).1 rfl L.co L.gen rfl ⟨c', oc, ws, t, rfl, hoc, hdc, hvc⟩ ?_
  rw [hbind]
  refine wpAny_pure (wpAny_newFunctionEnv L.cell (fun y hy => ?_) (fun h₁ hns hsb => ⟨lim.fresh _ hsb, ?_⟩) L.kind)
  · obtain ⟨y1, y2⟩ := y
    obtain ⟨j, hj⟩ := List.getElem?_of_mem (List.of_mem_zip hy).1
    have hjl : j < own.length := by rw [← hx2]; exact (List.getElem?_eq_some_iff.mp hj).1
    obtain ⟨x, _, hx2, hx3⟩ := hx j _ (List.getElem?_eq_getElem hjl)
    rw [hj] at hx2
    cases hx2
    exact hx3
  · show codeAny _ _ (.expr body (lamEnv X scope s1.heap.objs.size f c')) _ _
    have kp : ∀ b o, s1.heap.get? b = some o → h₁.get? b = some o := fun b o e => hsb.extBut b o (Nat.ne_of_lt (Heap.lt_size e)) (Heap.get?_push_of_some _ e)
    have J := clo_begin (f := f) (c' := c') (E := E) (tk := s1.toks + (xs.zip us).length) Q L hx nd rv hlen e0 hr.hd hns kp
    refine PySem.W.kla_codeExpr (wpAny_mono ((hb (hr.deeper _)).run [] _ _ HZ Q' J ht) (fun v s' hq => ?_) fun e s' hq => hq)
    obtain ⟨w', H', J', rv, q⟩ := hq
    exact ⟨w', H', J'.os, J'.bare, J'.base, J'.hok, rv, q⟩
end
end Sk

set_option maxHeartbeats 1000000
/-! Sk, part 55: a def that calls the lambda that it got. -/
namespace Sk
open PySem PySem.Spec PyProof.Rows L2
open LamX (CodeO lamCx lamEnv codeO_ne)
/-! ### what it computes -/
def dCallL (L : Fn) (i : Nat) (as : CA) : CE := fun ev st => match ev[i]? with
  | some (some (.fn 0)) => (as ev st).bind fun xs st1 => L xs st1
  | _ => .bad
def lamF (env : Ev) (own : List Nat) (ce : CE) : Fn := fun ys s => if (ys.length == own.length) = true then ce (putE env own ys) s else .bad
/-- the slots that the lambda takes along -/
def capE (caps : List Nat) : Nat → Ev → Ev
  | _, [] => []
  | k, o :: r => (if caps.contains k = true then o else none) :: capE caps (k + 1) r
def datE : Ev → Bool
  | [] => true
  | none :: r => datE r
  | some (.dat _) :: r => datE r
  | some _ :: _ => false
def callPL (F : Fn) (xs : List Va) (st : Sto) : Rs Va := match allDat xs with
  | some _ => (match F (xs ++ [.fn 0]) [] with
    | .ok y st2 => (match outV 8 st2 y with
      | some (.dat d) => .ok (.dat d) st
      | _ => .bad)
    | .err e _ => .err e st
    | .bad => .bad)
  | none => .bad
def dCallPL (F : Fn → Fn) (caps own : List Nat) (ce : CE) (as : CA) : CE := fun ev st => (as ev st).bind fun xs st1 => if datE (capE caps 0 ev) = true then callPL (F (lamF (capE caps 0 ev) own ce)) xs st1 else .bad
/-! ### what is taken along stays known -/
def hidL : L2.St → Ev → List (V × PyData)
  | some v :: s, some (.dat d) :: r => (v, d) :: hidL s r
  | _ :: s, _ :: r => hidL s r
  | _, _ => []
theorem capE_len (caps : List Nat) : ∀ (k : Nat) (ev : Ev), (capE caps k ev).length = ev.length
  | _, [] => rfl
  | k, o :: r => by simp [capE, capE_len caps (k + 1) r]
theorem capE_some (caps : List Nat) : ∀ (k : Nat) (ev : Ev) (i : Nat) (x : Va), (capE caps k ev)[i]? = some (some x) → ev[i]? = some (some x)
  | _, [], i, x, h => by simp [capE] at h
  | k, o :: r, 0, x, h => by
    simp only [capE, List.getElem?_cons_zero, Option.some.injEq] at h ⊢
    split at h
    · exact h
    · cases h
  | k, o :: r, i + 1, x, h => by
    simp only [capE, List.getElem?_cons_succ] at h ⊢
    exact capE_some caps (k + 1) r i x h
theorem datE_at : ∀ (ev : Ev), datE ev = true → ∀ (i : Nat) (x : Va), ev[i]? = some (some x) → ∃ d, x = .dat d
  | [], _, i, x, h => by simp at h
  | none :: r, hd, 0, x, h => by simp at h
  | none :: r, hd, i + 1, x, h => datE_at r hd i x (by simpa using h)
  | some (.dat d) :: r, hd, 0, x, h => by simp at h; exact ⟨d, h.symm⟩
  | some (.dat d) :: r, hd, i + 1, x, h => datE_at r hd i x (by simpa using h)
  | some (.ref _) :: r, hd, _, x, h => nomatch hd
  | some (.seq _ _) :: r, hd, _, x, h => nomatch hd
  | some (.fn _) :: r, hd, _, x, h => nomatch hd
theorem hidL_mem : ∀ (s : L2.St) (ev : Ev) (i : Nat) (v : V) (d : PyData), s[i]? = some (some v) → ev[i]? = some (some (.dat d)) → (v, d) ∈ hidL s ev
  | [], _, i, v, d, h, _ => by simp at h
  | _ :: _, [], i, v, d, _, h => by simp at h
  | some v' :: s, some (.dat d') :: r, 0, v, d, h1, h2 => by
    simp at h1 h2
    subst h1
    subst h2
    simp [hidL]
  | none :: s, o :: r, 0, v, d, h1, h2 => by simp at h1
  | some v' :: s, none :: r, 0, v, d, h1, h2 => by simp at h2
  | some v' :: s, some (.ref _) :: r, 0, v, d, h1, h2 => by simp at h2
  | some v' :: s, some (.seq _ _) :: r, 0, v, d, h1, h2 => by simp at h2
  | some v' :: s, some (.fn _) :: r, 0, v, d, h1, h2 => by simp at h2
  | a :: s, o :: r, i + 1, v, d, h1, h2 => by
    have ih := hidL_mem s r i v d (by simpa using h1) (by simpa using h2)
    unfold hidL
    split
    · rename_i e1 e2
      cases e1
      cases e2
      exact List.mem_cons_of_mem _ ih
    · rename_i e1 e2
      cases e1
      cases e2
      exact ih
    · rename_i h
      exact absurd rfl (h _ _ _ _ rfl)
theorem mem_hidL : ∀ (s : L2.St) (ev : Ev) (p : V × PyData), p ∈ hidL s ev → ∃ i : Nat, s[i]? = some (some p.1) ∧ ev[i]? = some (some (.dat p.2))
  | [], _, p, h => by simp [hidL] at h
  | _ :: _, [], p, h => by simp [hidL] at h
  | a :: s, o :: r, p, h => by
    unfold hidL at h
    split at h
    · rename_i e1 e2
      cases e1
      cases e2
      rcases List.mem_cons.mp h with h | h
      · subst h; exact ⟨0, rfl, rfl⟩
      · obtain ⟨i, h1, h2⟩ := mem_hidL s r p h
        exact ⟨i + 1, by simpa using h1, by simpa using h2⟩
    · rename_i e1 e2
      cases e1
      cases e2
      obtain ⟨i, h1, h2⟩ := mem_hidL s r p h
      exact ⟨i + 1, by simpa using h1, by simpa using h2⟩
    · simp at h
/-- the lambda's slots, as the callee knows them -/
def HidOk (C : Cfg) (σ : L2.St) (env : Ev) : Prop := σ.length = env.length ∧ ∀ (i : Nat) (x : Va), env[i]? = some (some x) → ∃ v d, x = .dat d ∧ σ[i]? = some (some v) ∧ (v, d) ∈ C.hid
theorem re_hid {C : Cfg} {M0 : Addr → Prop} {m : List Addr} {H : Hp} {st : Sto} {σ : L2.St} {env : Ev} (rh : RH C M0 m H st) (h : HidOk C σ env) : RE C H M0 m σ env :=
  ⟨h.1, fun i x e => by
    obtain ⟨v, d, rfl, es, hm⟩ := h.2 i x e
    exact ⟨v, es, .dat (rh.hd _ hm)⟩⟩
/-! ### the callee's call of it -/
/-- a(..), in any frame over the base B -/
def Act (P : Program) (w : World) (K : PySem.W.Frag) (mg : Str → Option Value) (B : Heap) (C : Cfg) (k : Nat) (a : Str) (L : Fn) : Prop :=
  ∀ (Z : Cx) (W : WX) (es : List Expr) (as : CA) (i : Nat) (p1 p2 : Pos), Z.prog = P → Z.w = w → Z.K = K → Z.mg = mg → Z.base = B → Z.N[i]? = some a → Vis Z.env.scope a → Room k Z.A → Takes Z W → PA Z es (tA C W as) →
    (es = [] ∨ ∃ e r, es = e :: r ∧ starEach (e :: r) Z.env = (false, eval e Z.env) :: starEach r Z.env ∧ (backTo p2 (starEach r Z.env)).any (·.1) = false) → PE Z (.Call (.Name a p1) es [] p2) (tE C W (dCallL L i as))
section
variable {X : Cx} {C : Cfg} {σ : L2.St} {env : Ev} {scope : Scope} {own : List Nat} {xs : List Str} {B : Heap} {k : Nat} {f c' : Addr} {pm ctv : Value} {params : Arguments} {body : Expr} {ce : CE}
theorem act_of {a : Str} (Q : Clo X scope σ B) (L : LSc X.N X.env.scope scope own) (hx : ∀ (k i : Nat), own[k]? = some i → ∃ x, X.N[i]? = some x ∧ xs[k]? = some x ∧ scope.names.lookup x = some .local) (hx2 : xs.length = own.length) (nd : xs.Nodup)
    (hfB : B.get? f = some (PySem.W.kla_obj "<lambda>" (X.env.qual ++ "<lambda>") params body scope (cloFrom X.env.cells scope.names []) pm c' ctv)) (hcl : C.cl 0 = some f) (hko : (c', CodeO c' (X.env.qual ++ "<lambda>")) ∈ C.ko) (hh : HidOk C σ env)
    (hbind : ∀ us : List Value, us.length = own.length → bindArgs (PySem.W.kla_fn "<lambda>" (X.env.qual ++ "<lambda>") params body scope (cloFrom X.env.cells scope.names []) pm (.ref c') ctv) ⟨us, []⟩ = pure (xs.zip us))
    (he : ∀ (A : Around) (outer : List Env) (s : Shared) (H : Hp) (E : XK), Room k (A.deeper (lamEnv X scope s.heap.objs.size f c')) → PE (lamCx { X with base := B } A outer s H E scope f c') body (tE C (fun c d _ H => E c d H) ce))
    (hda : (a == ("__debug__" : Str)) = false) (hca : (a == ("__classdict__" : Str)) = false) : Act X.prog X.w X.K X.mg B C (k + 1) a (lamF env own ce) := by
  intro Z W es as i p1 p2 hp hw hK hmg hB hN hv hr tk ha hes
  refine ⟨fun pins s σZ H Qz I h => ?_⟩
  obtain ⟨M0, m, ev, st, rh, re, fin⟩ := h
  unfold dCallL at fin
  split at fin
  · rename_i hev
    obtain ⟨v, hs, rv⟩ := re.vr i _ hev
    have ev0 : v = .ref f := by
      cases rv with
      | fn h => rw [hcl] at h; cases h; rfl
    subst ev0
    have fnAt : ∀ {pins' : List (Addr × Obj)} {σ' : L2.St} {H' : Hp} {s' : Shared}, Inv Z pins' σ' H' s' → PySem.W.FnAt f s'.heap := fun I' => ⟨_, _, _, _, I'.bk f _ (by rw [hB]; exact hfB)⟩
    refine wpAny_Call_Name_kw (thn ((pe_var (pos := p1) (i := i) hN hv hda hca).run pins s σZ H (fun v H1 => v = .ref f ∧ H1 = H) I ⟨.ref f, hs, rfl, rfl⟩) fun u s1 ⟨v, H1, I1, r1, q1⟩ => ?_)
    obtain ⟨rfl, rfl⟩ := q1
    obtain rfl : u = Value.ref f := r1
    have go : ∀ (us : List Value) (s2 : Shared), AP Z pins σZ (fun vs H2 => ∃ m1 st1 ys, Go m H1 m1 H2 ∧ RH C M0 m1 H2 st1 ∧ RVs C H2 (Mx M0 m1) m1 vs ys ∧ Fin C M0 m1 H2 (WE W σZ) (lamF env own ce ys st1) Qz) us s2 → wpAny (model Z.prog Z.w) Z.A (call (.ref f) us) (EP Z pins σZ Qz) Z.xe s2 := by
      rintro us s2 ⟨vs, H2, I2, ru, m1, st1, ys, g, rh1, rvs, fin1⟩
      unfold lamF at fin1
      obtain ⟨hl, fin1⟩ := ifGoG fin1
      have hl : vs.length = own.length := by rw [rvs.len]; exact eq_of_beq hl
      have e0 := I2.env0
      rw [hp, hw, hK, hmg, hB] at e0
      have rc := clo_code (A := Z.A) (outer := Z.stack) (E := WE W σZ) (tb := tE C (fun c d _ H => WE W σZ c d H) ce) (Q' := Qz) Q L hx hx2 nd ru hl e0 hr hfB (rh1.ko _ hko).1 (hbind us (by rw [← ru.length]; exact hl)) (fun hr2 => he Z.A Z.stack s2 H2 (WE W σZ) hr2) ⟨M0, m1, putE env own ys, st1, rh1, (re_hid rh1 hh).put rvs, fin1⟩
      have tk' := tk
      rw [hp, hw]
      refine wpAny_call (codeAny_mono rc fun r s' hq => ?_)
      cases r with
      | error e =>
        refine tk e s' (XE.of_call I2 (fun cls d H' h => h) ?_)
        rw [hp, hw]
        exact hq
      | ok fl =>
        cases fl with
        | ret w' =>
          refine I2.after ?_
          rw [hp, hw]
          exact hq
        | next => exact False.elim hq
        | brk => exact False.elim hq
        | cont => exact False.elim hq
    have hA : tA C W as σZ H1 (fun vs H2 => ∃ m1 st1 ys, Go m H1 m1 H2 ∧ RH C M0 m1 H2 st1 ∧ RVs C H2 (Mx M0 m1) m1 vs ys ∧ Fin C M0 m1 H2 (WE W σZ) (lamF env own ce ys st1) Qz) := ⟨M0, m, ev, st, rh, re, FinG.bind (R := relVs C M0) fin⟩
    have run := ha.run p2 pins s1 σZ H1 _ I1 hA
    rcases hes with rfl | ⟨e, r, rfl, h1, h2⟩
    · refine PySem.W.callWith_F0 (fnAt I1) ?_
      have hq : wpAny (model Z.prog Z.w) Z.A (pure ([] : List Value)) (AP Z pins σZ (fun vs H2 => ∃ m1 st1 ys, Go m H1 m1 H2 ∧ RH C M0 m1 H2 st1 ∧ RVs C H2 (Mx M0 m1) m1 vs ys ∧ Fin C M0 m1 H2 (WE W σZ) (lamF env own ce ys st1) Qz)) Z.xe s1 := run
      exact fun Γ p hΓ => go [] s1 (hq Γ p hΓ) Γ p hΓ
    · exact PySem.W.callWith_F (fnAt I1) (thn run fun us s2 hq => ⟨by obtain ⟨_, _, I2, _⟩ := hq; exact fnAt I2, go us s2 hq⟩) h1 h2
  · exact fin.elim
end
end Sk

set_option maxHeartbeats 1000000
/-! Sk, part 56: a def called with a lambda behind its other arguments. -/
namespace Sk
open PySem PySem.Spec PyProof.Rows L2
open LamX (CodeO lamCx lamEnv codeO_ne)
/-- the callee's knowledge -/
def Cfg.lam (C : Cfg) (f : Addr) (hid : List (V × PyData)) (ko : List (Addr × HO)) : Cfg := { C with cl := fun n => if n = 0 then some f else none, hid := hid, ko := ko }
section
variable {C : Cfg} {M0 : Addr → Prop} {m m1 : List Addr} {H H1 : Hp} {st : Sto} {f : Addr} {hid : List (V × PyData)} {ko : List (Addr × HO)}
theorem RH.apartC (rh : RH C M0 m H st) (g : Go [] H m1 H1) (tb : ∀ p ∈ C.T, TbOk H1 p) : RH C M0 m H1 st := by
  refine ⟨fun a h => ?_, rh.len, rh.nd, rh.dj, fun a ha => ?_, fun n o hn => ?_, tb, fun p hp => (rh.hd p hp).go g.apart rh.mu, fun p hp => ⟨g.kp _ _ (rh.ko p hp).1 (by simp) (rh.ko p hp).2.1, (rh.ko p hp).2⟩⟩
  · obtain ⟨o, e⟩ := rh.m0 a h
    exact g.ex e (by simp)
  · obtain ⟨o, e, x⟩ := rh.mu a ha
    exact ⟨o, g.kp a o e (by simp) (mut_notbl x), x⟩
  · obtain ⟨a, ha, r⟩ := rh.ob n o hn
    obtain ⟨u, e, x⟩ := rh.mu a (List.mem_of_getElem? ha)
    exact ⟨a, ha, r.go g.apart rh.mu (by rw [e]; exact g.kp a u e (by simp) (mut_notbl x))⟩
theorem allDat_rel {M M' : Addr → Prop} {n n' : List Addr} {C' : Cfg} (hK : C'.K = C.K) (hM : ∀ a, M' a → M a) : ∀ {vs : List V} {xs : List Va} {ds : List PyData}, RVs C H M n vs xs → allDat xs = some ds → RVs C' H M' n' vs xs
  | _, _, _, .nil, _ => .nil
  | _, _, _, .cons (.dat r) rs, e => by
    obtain ⟨l, e1, _⟩ := Option.map_eq_some_iff.mp (show (allDat _).map _ = some _ from e)
    exact .cons (.dat (by rw [hK]; exact r.less hM)) (allDat_rel hK hM rs e1)
  | _, _, _, .cons (.ref _) _, e => nomatch e
  | _, _, _, .cons (.lst _ _ _) _, e => nomatch e
  | _, _, _, .cons (.frz _ _) _, e => nomatch e
  | _, _, _, .cons (.tup _ _) _, e => nomatch e
  | _, _, _, .cons (.fn _) _, e => nomatch e
theorem RVs.snoc {M : Addr → Prop} {n : List Addr} : ∀ {vs : List V} {xs : List Va} {v : V} {x : Va}, RVs C H M n vs xs → RV C H M n v x → RVs C H M n (vs ++ [v]) (xs ++ [x])
  | _, _, _, _, .nil, r => .cons r .nil
  | _, _, _, _, .cons a b, r => .cons a (b.snoc r)
theorem callPL_rel {E : XK} {Q : VK} {F : Fn} {xs : List Va} {vs : List V} {n : Nat} (hn : vs.length + 1 = n) (rh : RH C M0 m H st) (rv : RVs C H (Mx M0 m) m vs xs) (hh : ∀ p ∈ hid, RD C.K H (Mx M0 m) p.1 p.2) (hk : ∀ p ∈ ko, H p.1 = some p.2 ∧ NoTbl p.2 ∧ ¬ MutX p.2)
    (fin : Fin C M0 m H E (callPL F xs st) Q) : spF (C.lam f hid ko) n F (vs ++ [.ref f]) H Q E := by
  unfold callPL at fin
  split at fin
  · rename_i ds hds
    have out : ∀ a, Mx (Mx M0 m) [] a → Mx M0 m a := fun a z => z.elim id fun z => absurd z (by simp)
    refine ⟨by rw [List.length_append]; exact hn, Mx M0 m, [], xs ++ [.fn 0], [], ⟨fun a z => ?_, rfl, .nil, fun a z => (by simp at z), fun a z => (by simp at z), fun n o z => (by simp at z), rh.tb, fun p hp => (hh p hp).less out, hk⟩, (allDat_rel (C := C) (C' := C.lam f hid ko) rfl out rv hds).snoc (.fn rfl), ?_⟩
    · rcases z with z | z
      · exact rh.m0 a z
      · obtain ⟨o, e, _⟩ := rh.mu a z
        exact ⟨o, e⟩
    · cases hF : F (xs ++ [.fn 0]) [] with
      | bad => rw [hF] at fin; exact fin.elim
      | err e s2 =>
        rw [hF] at fin
        intro c d m' H' g' rh' x
        exact fin c d m H' g'.apart (rh.apartC g' rh'.tb) (x.less fun a z => .inl z)
      | ok y s2 =>
        rw [hF] at fin
        simp only at fin
        intro v m' H' g' rh' x
        split at fin
        · rename_i d hz
          have r := outV_rel (M := Mx M0 m) (m2 := m) rh' (fun a z => z) 8 v y _ x hz
          refine fin v m H' g'.apart (rh.apartC g' rh'.tb) ?_
          cases r with
          | dat rd => exact .dat rd
        · exact fin.elim
  · exact fin.elim
end
section
variable {X : Cx} {C : Cfg} {W : WX} {k kg : Nat} {c P g : Addr} {fd : FuncData} {ps xs : List Str} {scope : Scope} {own caps : List Nat} {params : Arguments} {body : Expr} {p lpos pos : Pos} {ce : CE} {F : Fn → Fn} {gx a : Str}
/-- the last step: all is evaluated, the lambda is made, the def is called -/
theorem callPL_run (hP : (P, some (X.env.qual ++ "<lambda>")) ∈ C.T) (hu : ∀ p ∈ C.T, p.1 = P → p.2 = some (X.env.qual ++ "<lambda>")) (hK : X.K = C.K) (hfx : ∀ x, X.fn x = true) (hr : Room kg X.A) (tk : Takes X W) (TB : GxR.TabB X.base X.mg c P) (hcode : X.env.code = .ref c) (L : LSc X.N X.env.scope scope own)
    (hx : ∀ (k i : Nat), own[k]? = some i → ∃ x, X.N[i]? = some x ∧ xs[k]? = some x ∧ scope.names.lookup x = some .local) (hx2 : xs.length = own.length) (nd : xs.Nodup) (hdef : defaultsOf params X.env = ([], []))
    (hbind : ∀ (q : Str) (cl : List (Str × Addr)) (pm cv ctv : Value) (us : List Value), us.length = own.length → bindArgs (PySem.W.kla_fn "<lambda>" q params body scope cl pm cv ctv) ⟨us, []⟩ = pure (xs.zip us))
    (hg : Gl X gx) (hm : X.mg gx = some (.ref g)) (hk : PySem.W.keepIn X.K (.ref g) = true) (hb : L2.Binds X.K fd ps [])
    (hF : ∀ (B : Heap) (f : Addr) (hid : List (V × PyData)) (ko : List (Addr × HO)) (L : Fn), (∀ b o, X.base.get? b = some o → B.get? b = some o) → Act X.prog X.w X.K X.mg B (C.lam f hid ko) (k + 1) a L → FnOk X.prog X.w X.K X.mg B (L2.CX X.prog X.w) kg g fd ps (spF (C.lam f hid ko) ps.length (F L)))
    (he : ∀ (B : Heap) (f c' : Addr) (hid : List (V × PyData)) (ko : List (Addr × HO)) (A : Around) (outer : List Env) (s : Shared) (H : Hp) (E : XK), (∀ b o, X.base.get? b = some o → B.get? b = some o) → Room k (A.deeper (lamEnv X scope s.heap.objs.size f c')) → PE (lamCx { X with base := B } A outer s H E scope f c') body (tE (C.lam f hid ko) (fun c d _ H => E c d H) ce))
    (hda : (a == ("__debug__" : Str)) = false) (hca : (a == ("__classdict__" : Str)) = false) (hdb : (gx == ("__debug__" : Str)) = false)
    {pins : List (Addr × Obj)} {s1 : Shared} {σ : L2.St} {H1 : Hp} {Q : VK} {us : List Value} {vs : List V} {ys : List Va} {M0 : Addr → Prop} {m : List Addr} {ev : Ev} {st : Sto} (hps : ps.length = vs.length + 1) (I1 : Inv X pins σ H1 s1) (ru : Vals vs us) (rh : RH C M0 m H1 st) (re : RE C H1 M0 m σ ev) (rv : RVs C H1 (Mx M0 m) m vs ys)
    (fin : Fin C M0 m H1 (WE W σ) (if datE (capE caps 0 ev) = true then callPL (F (lamF (capE caps 0 ev) own ce)) ys st else .bad) Q) {R : Value → Shared → Prop} {E' : Value → Shared → Prop}
    (hR : ∀ (f : Addr) (s2 : Shared), X.K.In s2.heap → wpAny (model X.prog X.w) X.A (call (.ref g) (us ++ [.ref f])) (EP X pins σ Q) X.xe s2 → R (.ref f) s2) :
    wpAny (model X.prog X.w) X.A (eval (.Lambda params body scope lpos) X.env) R E' s1 := by
  obtain ⟨hd, fin⟩ := ifGoG fin
  refine lam_made I1 ⟨TB.1, TB.2, TB.3⟩ hcode L (rh.tb _ hP) hdef fun f c' pm ctv H2 s2 I2 lg hco hf hfn hfs => hR f s2 I2.kIn ?_
  obtain ⟨g2, rh2⟩ := rh.lam hu lg
  have re2 := re.go g2 rh.mu
  have rv2 : RVs C H2 (Mx M0 m) m vs ys := rv.go g2 rh.mu
  have fin2 := FinG.rebase fin g2
  have hfl : f ≠ X.env.locals := Nat.ne_of_gt (Nat.lt_of_lt_of_le I1.lt hfs)
  have hfo : f ∉ X.fs := fun y => Nat.lt_irrefl _ (Nat.lt_of_lt_of_le (by obtain ⟨_, o, e, _⟩ := I1.ok.funs.mem y; exact Nat.lt_of_lt_of_le (Heap.lt_size e) I1.sz) hfs)
  obtain ⟨B, clo, hfB, e0⟩ := clo_base I2 hfx L hf hfn hfl hfo
  obtain ⟨env, henv⟩ : ∃ env, env = capE caps 0 ev := ⟨_, rfl⟩
  rw [← henv] at fin2 hd
  have sub : ∀ (i : Nat) (x : Va), env[i]? = some (some x) → ∃ v d, x = .dat d ∧ σ[i]? = some (some v) ∧ RD C.K H2 (Mx M0 m) v d := fun i x e => by
    obtain ⟨d, rfl⟩ := datE_at env hd i x e
    rw [henv] at e
    obtain ⟨v, e1, r⟩ := re2.vr i _ (capE_some caps 0 ev i _ e)
    cases r with
    | dat rd => exact ⟨v, d, rfl, e1, rd⟩
  have act := act_of (C := C.lam f (hidL σ env) [(c', CodeO c' (X.env.qual ++ "<lambda>"))]) (a := a) (k := k) (env := env) (ce := ce) clo L hx hx2 nd hfB rfl (List.mem_singleton.mpr rfl) ⟨by rw [henv, capE_len]; exact re.len, fun i x e => by
    obtain ⟨v, d, rfl, e1, _⟩ := sub i x e
    exact ⟨v, d, rfl, e1, hidL_mem σ env i v d e1 e⟩⟩ (fun us h => hbind _ _ _ _ _ us h) (fun A outer s H E hr2 => he B f c' _ _ A outer s H E clo.up hr2) hda hca
  have sp := callPL_rel (f := f) (hid := hidL σ env) (ko := [(c', CodeO c' (X.env.qual ++ "<lambda>"))]) (n := ps.length) hps.symm rh2 rv2 (fun q hq => by
    obtain ⟨i, h1, h2⟩ := mem_hidL σ env q hq
    obtain ⟨v, d, e1, e2, rd⟩ := sub i _ h2
    cases e1
    rw [h1] at e2
    cases e2
    exact rd) (fun q hq => by rw [List.mem_singleton.mp hq]; exact ⟨hco, fun ps z => codeO_ne ps z, fun z => z⟩) fin2
  have rc := (hF B f _ _ _ clo.up act).run X.A X.stack s2 H2 ⟨us ++ [.ref f], []⟩ (us ++ [.ref f]) (vs ++ [.ref f]) Q (WE W σ) hr e0 (by
    have z := hb s2 (us ++ [.ref f]) I2.kIn (by rw [List.append_nil, List.length_append, ← ru.length, hps]; rfl)
    rw [List.append_nil] at z
    exact z) (ru.append (.cons (show L2.RelV (.ref f) (.ref f) from rfl) .nil)) sp
  refine wpAny_call (codeAny_mono rc fun r s' hq => ?_)
  cases r with
  | error e => exact tk e s' (XE.of_call I2 (fun cls d H' h => h) hq)
  | ok fl =>
    cases fl with
    | ret w' => exact I2.after hq
    | next => exact False.elim hq
    | brk => exact False.elim hq
    | cont => exact False.elim hq
theorem fe_callPL0 (hP : (P, some (X.env.qual ++ "<lambda>")) ∈ C.T) (hu : ∀ p ∈ C.T, p.1 = P → p.2 = some (X.env.qual ++ "<lambda>")) (hK : X.K = C.K) (hfx : ∀ x, X.fn x = true) (hr : Room kg X.A) (tk : Takes X W) (TB : GxR.TabB X.base X.mg c P) (hcode : X.env.code = .ref c) (L : LSc X.N X.env.scope scope own)
    (hx : ∀ (k i : Nat), own[k]? = some i → ∃ x, X.N[i]? = some x ∧ xs[k]? = some x ∧ scope.names.lookup x = some .local) (hx2 : xs.length = own.length) (nd : xs.Nodup) (hdef : defaultsOf params X.env = ([], []))
    (hbind : ∀ (q : Str) (cl : List (Str × Addr)) (pm cv ctv : Value) (us : List Value), us.length = own.length → bindArgs (PySem.W.kla_fn "<lambda>" q params body scope cl pm cv ctv) ⟨us, []⟩ = pure (xs.zip us))
    (hg : Gl X gx) (hm : X.mg gx = some (.ref g)) (hk : PySem.W.keepIn X.K (.ref g) = true) (hb : L2.Binds X.K fd ps [])
    (hF : ∀ (B : Heap) (f : Addr) (hid : List (V × PyData)) (ko : List (Addr × HO)) (L : Fn), (∀ b o, X.base.get? b = some o → B.get? b = some o) → Act X.prog X.w X.K X.mg B (C.lam f hid ko) (k + 1) a L → FnOk X.prog X.w X.K X.mg B (L2.CX X.prog X.w) kg g fd ps (spF (C.lam f hid ko) ps.length (F L)))
    (he : ∀ (B : Heap) (f c' : Addr) (hid : List (V × PyData)) (ko : List (Addr × HO)) (A : Around) (outer : List Env) (s : Shared) (H : Hp) (E : XK), (∀ b o, X.base.get? b = some o → B.get? b = some o) → Room k (A.deeper (lamEnv X scope s.heap.objs.size f c')) → PE (lamCx { X with base := B } A outer s H E scope f c') body (tE (C.lam f hid ko) (fun c d _ H => E c d H) ce))
    (hda : (a == ("__debug__" : Str)) = false) (hca : (a == ("__classdict__" : Str)) = false) (hdb : (gx == ("__debug__" : Str)) = false) (hps : ps.length = 1)
    (h1 : starEach [.Lambda params body scope lpos] X.env = [(false, eval (.Lambda params body scope lpos) X.env)] := by rfl) : PE X (.Call (.Name gx p) [.Lambda params body scope lpos] [] pos) (tE C W (dCallPL F caps own ce dNil)) := by
  refine ⟨fun pins s σ H Q I h => wpAny_Call_Name_kw (ld_glob I hg hm ?_ hdb)⟩
  refine PySem.W.callWith_K (h₀ := X.base) I.ok.mod.kin hk ?_ h1 rfl
  rw [h1]
  obtain ⟨M0, m, ev, st, rh, re, fin⟩ := h
  refine Calls.spliced_cons (callPL_run (lpos := lpos) hP hu hK hfx hr tk TB hcode L hx hx2 nd hdef hbind hg hm hk hb hF he hda hca hdb (caps := caps) (vs := []) (us := []) hps I .nil rh re .nil fin fun f s2 kin q => ?_)
  exact Calls.spliced_nil ⟨kin, q⟩
theorem fe_callPL2 (hP : (P, some (X.env.qual ++ "<lambda>")) ∈ C.T) (hu : ∀ p ∈ C.T, p.1 = P → p.2 = some (X.env.qual ++ "<lambda>")) (hK : X.K = C.K) (hfx : ∀ x, X.fn x = true) (hr : Room kg X.A) (tk : Takes X W) (TB : GxR.TabB X.base X.mg c P) (hcode : X.env.code = .ref c) (L : LSc X.N X.env.scope scope own)
    (hx : ∀ (k i : Nat), own[k]? = some i → ∃ x, X.N[i]? = some x ∧ xs[k]? = some x ∧ scope.names.lookup x = some .local) (hx2 : xs.length = own.length) (nd : xs.Nodup) (hdef : defaultsOf params X.env = ([], []))
    (hbind : ∀ (q : Str) (cl : List (Str × Addr)) (pm cv ctv : Value) (us : List Value), us.length = own.length → bindArgs (PySem.W.kla_fn "<lambda>" q params body scope cl pm cv ctv) ⟨us, []⟩ = pure (xs.zip us))
    (hg : Gl X gx) (hm : X.mg gx = some (.ref g)) (hk : PySem.W.keepIn X.K (.ref g) = true) (hb : L2.Binds X.K fd ps [])
    (hF : ∀ (B : Heap) (f : Addr) (hid : List (V × PyData)) (ko : List (Addr × HO)) (L : Fn), (∀ b o, X.base.get? b = some o → B.get? b = some o) → Act X.prog X.w X.K X.mg B (C.lam f hid ko) (k + 1) a L → FnOk X.prog X.w X.K X.mg B (L2.CX X.prog X.w) kg g fd ps (spF (C.lam f hid ko) ps.length (F L)))
    (he : ∀ (B : Heap) (f c' : Addr) (hid : List (V × PyData)) (ko : List (Addr × HO)) (A : Around) (outer : List Env) (s : Shared) (H : Hp) (E : XK), (∀ b o, X.base.get? b = some o → B.get? b = some o) → Room k (A.deeper (lamEnv X scope s.heap.objs.size f c')) → PE (lamCx { X with base := B } A outer s H E scope f c') body (tE (C.lam f hid ko) (fun c d _ H => E c d H) ce))
    (hda : (a == ("__debug__" : Str)) = false) (hca : (a == ("__classdict__" : Str)) = false) (hdb : (gx == ("__debug__" : Str)) = false) (hps : ps.length = 3) {e1 e2 : Expr} {c1 c2 : CE} (a1 : PE X e1 (tE C W c1)) (a2 : PE X e2 (tE C W c2))
    (h1 : starEach [e1, e2, .Lambda params body scope lpos] X.env = [(false, eval e1 X.env), (false, eval e2 X.env), (false, eval (.Lambda params body scope lpos) X.env)] := by rfl) (h2 : starEach [e2, .Lambda params body scope lpos] X.env = [(false, eval e2 X.env), (false, eval (.Lambda params body scope lpos) X.env)] := by rfl) : PE X (.Call (.Name gx p) [e1, e2, .Lambda params body scope lpos] [] pos) (tE C W (dCallPL F caps own ce (dCons c1 (dCons c2 dNil)))) := by
  refine ⟨fun pins s σ H Q I h => wpAny_Call_Name_kw (ld_glob I hg hm ?_ hdb)⟩
  refine PySem.W.callWith_K (h₀ := X.base) I.ok.mod.kin hk ?_ (by rw [h1, h2]) (by rw [h2]; rfl)
  rw [h1]
  obtain ⟨M0, m, ev, st, rh, re, fin⟩ := h
  have fin : Fin C M0 m H (WE W σ) (((c1 ev st).bind fun x st1 => (dCons c2 dNil ev st1).bind fun xs st2 => .ok (x :: xs) st2).bind fun xs st1 => if datE (capE caps 0 ev) = true then callPL (F (lamF (capE caps 0 ev) own ce)) xs st1 else .bad) Q := fin
  have w1 : tE C W c1 σ H (fun v1 H1 => ∃ m1 st1 x1, Go m H m1 H1 ∧ RH C M0 m1 H1 st1 ∧ RV C H1 (Mx M0 m1) m1 v1 x1 ∧ Fin C M0 m1 H1 (WE W σ) (((c2 ev st1).bind fun y st2 => .ok [x1, y] st2).bind fun xs st1 => if datE (capE caps 0 ev) = true then callPL (F (lamF (capE caps 0 ev) own ce)) xs st1 else .bad) Q) := by
    refine ⟨M0, m, ev, st, rh, re, ?_⟩
    cases hc1 : c1 ev st with
    | bad => rw [hc1] at fin; exact fin.elim
    | err e s2 => rw [hc1] at fin; exact fin
    | ok x1 s2 =>
      rw [hc1] at fin
      intro v1 m' H' g' rh' r'
      refine ⟨m', s2, x1, g', rh', r', FinG.rebase ?_ g'⟩
      simp only [Rs.bind_ok, dCons, dNil] at fin ⊢
      cases hc2 : c2 ev s2 with
      | bad => rw [hc2] at fin; exact fin.elim
      | err e s3 => rw [hc2] at fin; exact fin
      | ok x2 s3 => rw [hc2] at fin; simpa using fin
  refine Calls.spliced_cons (thn (a1.run pins s σ H _ I w1) fun u1 s1 ⟨v1, H1, I1, r1, m1, st1, x1, g1, rh1, rv1, fin1⟩ => ?_)
  have w2 : tE C W c2 σ H1 (fun v2 H2 => ∃ m2 st2 x2, Go m1 H1 m2 H2 ∧ RH C M0 m2 H2 st2 ∧ RV C H2 (Mx M0 m2) m2 v2 x2 ∧ Fin C M0 m2 H2 (WE W σ) (if datE (capE caps 0 ev) = true then callPL (F (lamF (capE caps 0 ev) own ce)) [x1, x2] st2 else .bad) Q) := by
    refine ⟨M0, m1, ev, st1, rh1, re.go g1 rh.mu, ?_⟩
    cases hc2 : c2 ev st1 with
    | bad => rw [hc2] at fin1; exact fin1.elim
    | err e s2 => rw [hc2] at fin1; exact fin1
    | ok x2 s2 =>
      rw [hc2] at fin1
      intro v2 m' H' g' rh' r'
      exact ⟨m', s2, x2, g', rh', r', FinG.rebase fin1 g'⟩
  refine Calls.spliced_cons (thn (a2.run pins s1 σ H1 _ I1 w2) fun u2 s2 ⟨v2, H2, I2, r2, m2, st2, x2, g2, rh2, rv2, fin2⟩ => ?_)
  refine Calls.spliced_cons (callPL_run (lpos := lpos) hP hu hK hfx hr tk TB hcode L hx hx2 nd hdef hbind hg hm hk hb hF he hda hca hdb (caps := caps) (vs := [v1, v2]) (us := [u1, u2]) hps I2 (.cons r1 (.cons r2 .nil)) rh2 ((re.go g1 rh.mu).go g2 rh1.mu) (.cons (rv1.go g2 rh1.mu) (.cons rv2 .nil)) fin2 fun f s3 kin q => ?_)
  exact Calls.spliced_nil ⟨kin, q⟩
end
/-! ### for the printed texts -/
/-- what a callee knows more -/
structure Xt where
  cl : Nat → Option Addr
  hid : List (V × PyData)
  ko : List (Addr × HO)
def x0 : Xt := ⟨fun _ => none, [], []⟩
def xl (f : Addr) (hid : List (V × PyData)) (ko : List (Addr × HO)) : Xt := ⟨fun n => if n = 0 then some f else none, hid, ko⟩
theorem hx_0 {N : List Str} {scope : Scope} : ∀ (k i : Nat), ([] : List Nat)[k]? = some i → ∃ x, N[i]? = some x ∧ ([] : List Str)[k]? = some x ∧ scope.names.lookup x = some .local := fun k i h => by simp at h
theorem hx_1 {N : List Str} {scope : Scope} {j : Nat} {y : Str} (h1 : N[j]? = some y) (h2 : scope.names.lookup y = some .local) : ∀ (k i : Nat), [j][k]? = some i → ∃ x, N[i]? = some x ∧ [y][k]? = some x ∧ scope.names.lookup x = some .local := fun k i h => by
  cases k with
  | zero => cases h; exact ⟨y, h1, rfl, h2⟩
  | succ k => simp at h
theorem hx_2 {N : List Str} {scope : Scope} {j l : Nat} {y z : Str} (h1 : N[j]? = some y) (h2 : scope.names.lookup y = some .local) (h3 : N[l]? = some z) (h4 : scope.names.lookup z = some .local) : ∀ (k i : Nat), [j, l][k]? = some i → ∃ x, N[i]? = some x ∧ [y, z][k]? = some x ∧ scope.names.lookup x = some .local := fun k i h => by
  rcases k with _ | _ | k
  · cases h; exact ⟨y, h1, rfl, h2⟩
  · cases h; exact ⟨z, h3, rfl, h4⟩
  · simp at h
end Sk

set_option maxHeartbeats 1000000
/-! Sk, part 57: calls with defaults; grids made, moved; sums and bounds of grids. -/
namespace Sk
open PySem PySem.Spec PyProof.Rows L2 GxR
def dCallPD (F : Fn) (n : Nat) (ds : List Int) (as : CA) : CE := fun ev st => (as ev st).bind fun xs st1 => callP F n (xs ++ ds.map fun i => .dat (.int i)) st1
section
variable {X : Cx} {C : Cfg} {W : WX} {k : Nat} {f : Addr} {fd : FuncData} {ps : List Str} {n : Nat} {F : Fn} {x : Str} {p pos : Pos} {e : Expr} {es : List Expr} {ca : CA} {is : List Int} {ds : List Value}
theorem RVs.app2 {H : Hp} {M : Addr → Prop} {m : List Addr} {ws : List V} {ys : List Va} (h : RVs C H M m ws ys) : ∀ {vs : List V} {xs : List Va}, RVs C H M m vs xs → RVs C H M m (vs ++ ws) (xs ++ ys)
  | _, _, .nil => h
  | _, _, .cons a b => .cons a (RVs.app2 h b)
theorem fe_callPD (hF : FnOk X.prog X.w X.K X.mg X.base (L2.CX X.prog X.w) k f fd ps (spF C n F)) (hr : Room k X.A) (hg : Gl X x) (hm : X.mg x = some (.ref f)) (hk : PySem.W.keepIn X.K (.ref f) = true) (hb : Binds X.K fd ps ds) (hv : Vals (is.map V.int) ds) (tk : Takes X W)
    (ha : PA X (e :: es) (tA C W ca)) (hdb : (x == ("__debug__" : Str)) = false := by decide) (he : starEach (e :: es) X.env = (false, eval e X.env) :: starEach es X.env := by rfl) (hpl : (backTo pos (starEach es X.env)).any (·.1) = false := by rfl) :
    PE X (.Call (.Name x p) (e :: es) [] pos) (tE C W (dCallPD F n is ca)) :=
  PE.imp (pe_callSD hF hr hg hm hk hb hv (fun σ => passAt tk σ) ha hdb he hpl) fun s H Q h => tG.bind (R := relVs) (k := fun xs _ st1 => callP F n (xs ++ is.map fun i => .dat (.int i)) st1) h fun M0 m ev st xs vs H1 rh re rv fin => callP_rel rh (RVs.app2 (rvs_ints is) rv) fin
end
section
variable {ev : Ev} {st : Sto}
@[simp] theorem eCallPD (F : Fn) (n : Nat) (ds : List Int) (as : CA) : dCallPD F n ds as ev st = (as ev st).bind fun xs st1 => callP F n (xs ++ ds.map fun i => .dat (.int i)) st1 := rfl
@[simp] theorem eCallPL (F : Fn → Fn) (caps own : List Nat) (ce : CE) (as : CA) : dCallPL F caps own ce as ev st = (as ev st).bind fun xs st1 => if datE (capE caps 0 ev) = true then callPL (F (lamF (capE caps 0 ev) own ce)) xs st1 else .bad := rfl
@[simp] theorem eCallL (L : Fn) (i : Nat) (as : CA) : dCallL L i as ev st = match ev[i]? with
  | some (some (.fn 0)) => (as ev st).bind fun xs st1 => L xs st1
  | _ => .bad := rfl
@[simp] theorem eKey (lt : Va → Va → Sto → Rs Va) (own : List Nat) (a e : CE) : dKey lt own a e ev st = (a ev st).bind fun x st1 => (itemsV x st1).bind fun p st2 => keyL lt p.2 (fun y s => e (putE ev own [y]) s) p.1 none st2 := rfl
theorem callPL_ok {F : Fn} {ds : List PyData} {d : PyData} {s2 : Sto} (h : F (ds.map .dat ++ [.fn 0]) [] = .ok (.dat d) s2) : callPL F (ds.map .dat) st = .ok (.dat d) st := by
  simp [callPL, allDat_map, h]
theorem callPL_2 {F : Fn} {a b d : PyData} {s2 : Sto} (h : F [.dat a, .dat b, .fn 0] [] = .ok (.dat d) s2) : callPL F [.dat a, .dat b] st = .ok (.dat d) st := callPL_ok (ds := [a, b]) h
theorem callPL_0 {F : Fn} {d : PyData} {s2 : Sto} (h : F [.fn 0] [] = .ok (.dat d) s2) : callPL F [] st = .ok (.dat d) st := callPL_ok (ds := []) h
end
def c_made (L : Fn) : CS :=
    (dRet (dCallB tupleV (dCons (dComp asF (dRange (dCons (dVar 0) dNil)) [4] (gN 4) dYes (dCallB tupleV (dCons (dComp asF (dRange (dCons (dVar 1) dNil)) [3] (gN 3) dYes (dCallL L 2 (dCons (dVar 4) (dCons (dVar 3) dNil)))) dNil))) dNil)))
def F_made (L : Fn) : Fn := mkFn 5 (c_made L)
def c_moved : CS :=
    (dSeq (dAsg (dCallP F_size_of 1 (dCons (dVar 0) dNil)) (gTp 2 (gsCons (gN 3) (gsCons (gN 4) gsNil))))
    (dRet (dCallPL F_made [0, 1, 2, 3, 4] [5, 6] (dBin ixV (dBin ixV (dVar 0) (dBin modV (dBin subV (dVar 5) (dVar 1)) (dVar 3))) (dBin modV (dBin subV (dVar 6) (dVar 2)) (dVar 4))) (dCons (dVar 3) (dCons (dVar 4) dNil)))))
def F_moved : Fn := mkFn 7 c_moved
def c_total : CS :=
    (dRet (dGen eatSum (.dat (.int 0)) (dIter (dVar 0)) [1] (gN 1) (dCallB sumF (dCons (dVar 1) dNil))))
def F_total : Fn := mkFn 2 c_total
def c_least : CS :=
    (dRet (dCallB minF (dCons (dComp asF (dIter (dVar 0)) [1] (gN 1) dYes (dCallB minF (dCons (dVar 1) dNil))) dNil)))
def F_least : Fn := mkFn 2 c_least
def c_greatest : CS :=
    (dRet (dCallB maxF (dCons (dComp asF (dIter (dVar 0)) [1] (gN 1) dYes (dCallB maxF (dCons (dVar 1) dNil))) dNil)))
def F_greatest : Fn := mkFn 2 c_greatest
/-! ### made, moved -/
theorem made_D {r c : Nat} {f : Gr} {L : Fn} (hr : r ≤ 1000) (hc : c ≤ 1000) (hL : ∀ i j : Nat, i < r → j < c → L [.dat (.int i), .dat (.int j)] [] = .ok (.dat (.int (f i j))) []) : F_made L [.dat (.int r), .dat (.int c), .fn 0] [] = .ok (.dat (gD r c f)) [] := by
  have g1 := rangeV_1 (n := r) (st := []) (by omega)
  have g2 := rangeV_1 (n := c) (st := []) (by omega)
  have fr : few r = true := few_lit (by omega)
  have fc : few c = true := few_lit (by omega)
  simp [F_made, mkFn, c_made, mkEv, g1, fr, wipeE]
  rw [compL_map (G := fun i : Nat => .dat (rD c (f i)))]
  rotate_left
  · intro i hi
    have hi : i < r := by simpa using hi
    simp [Sk.compTurn, g2, fc, wipeE]
    rw [compL_map (G := fun j : Nat => .dat (.int (f i j)))]
    rotate_left
    · intro j hj
      have hj : j < c := by simpa using hj
      simp [Sk.compTurn, hL i j hi hj]
    simp [asF, mkL_fun (fun j : Nat => PyData.int (f i j)), rD_eq]
  simp [asF, mkL_fun (fun i : Nat => rD c (f i)), asRet, gD_eq]
/-- moved round the edges -/
def mvd (r c : Nat) (down along : Int) (f : Gr) : Gr := fun i j => f (((i : Int) - down) % r).toNat (((j : Int) - along) % c).toNat
theorem emod_nat {a : Int} {n : Nat} (h : 0 < n) : ∃ k : Nat, a % n = (k : Int) ∧ k < n ∧ (a % n).toNat = k := by
  have h1 := Int.emod_nonneg a (show (n : Int) ≠ 0 by omega)
  have h2 := Int.emod_lt_of_pos a (show (0 : Int) < n by omega)
  exact ⟨(a % n).toNat, by omega, by omega, rfl⟩
theorem moved_D {r c : Nat} {f : Gr} (r1 : 1 ≤ r) (hr : r ≤ 1000) (c1 : 1 ≤ c) (hc : c ≤ 1000) (down along : Int) (st : Sto) : callP F_moved 3 [.dat (gD r c f), .dat (.int down), .dat (.int along)] st = .ok (.dat (gD r c (mvd r c down along f))) st := by
  refine callP_3 (s2 := []) ?_
  have e1 := size_D (c := c) (f := f) [] r1
  simp [F_moved, mkFn, c_moved, mkEv, e1, capE, datE]
  rw [callPL_2 (made_D (f := mvd r c down along f) hr hc fun i j hi hj => ?_)]
  · simp [asRet]
  · obtain ⟨a, ha, ha2, ha3⟩ := emod_nat (a := (i : Int) - down) (n := r) (by omega)
    obtain ⟨b, hb, hb2, hb3⟩ := emod_nat (a := (j : Int) - along) (n := c) (by omega)
    have m1 := modV_i (st := []) (i := (i : Int) - down) (j := (r : Int)) (by omega)
    have m2 := modV_i (st := []) (i := (j : Int) - along) (j := (c : Int)) (by omega)
    rw [ha] at m1
    rw [hb] at m2
    simp [lamF, putE, m1, m2, gD_at _ ha2, rD_at _ hb2, mvd, ha3, hb3]
/-! ### sums and bounds -/
theorem total_D {r c : Nat} {f : Gr} {B : Int} (hr : r ≤ 1000) (hc : c ≤ 1000) (hB : 0 ≤ B) (hB2 : B ≤ 1000000000) (hb : ∀ i j, i < r → j < c → -B ≤ f i j ∧ f i j ≤ B) (st : Sto) : callP F_total 1 [.dat (gD r c f)] st = .ok (.dat (.int (tot r c f))) st := by
  refine callP_1 (s2 := []) ?_
  have hrow : ∀ i, i < r → -(B * 1000) ≤ ((List.range c).map (f i)).sum ∧ ((List.range c).map (f i)).sum ≤ B * 1000 := fun i hi => by
    have h1 := sum_ge (f i) (-B) (List.range c) fun j hj => (hb i j hi (by simpa using hj)).1
    have h2 := sum_le (f i) B (List.range c) fun j hj => (hb i j hi (by simpa using hj)).2
    rw [List.length_range] at h1 h2
    have h3 : B * (c : Int) ≤ B * 1000 := Int.mul_le_mul_of_nonneg_left (by omega) hB
    rw [Int.neg_mul] at h1
    omega
  have key := genL_sum (f := genTurn (gN 1) (dCallB sumF (dCons (dVar 1) dNil))) (ev := [some (.dat (gD r c f)), none]) (st := []) (h := fun i : Nat => Va.dat (rD c (f i))) (g := fun i => ((List.range c).map (f i)).sum) (B := B * 1000) (by omega) (xs := List.range r) (a0 := 0) (fun i _ => by simp [genTurn, rD_sum]) (fun i hi => hrow i (by simpa using hi)) (by
    have h3 : B * 1000 * (r : Int) ≤ B * 1000 * 1000 := Int.mul_le_mul_of_nonneg_left (by omega) (by omega)
    have h4 : 0 ≤ B * 1000 * (r : Int) := Int.mul_nonneg (by omega) (by omega)
    rw [List.length_range]
    omega)
  simp [F_total, mkFn, c_total, mkEv, wipeE, key, asRet, tot_eq]
theorem minF_lf {α : Type} (g : α → Int) {xs : List α} (h : xs ≠ []) (st : Sto) : minF [.dat (.list (xs.map fun a => .int (g a)))] st = .ok (.dat (.int (leastI (xs.map g)))) st := by
  have := minF_l (xs := xs.map g) st (by simpa using h)
  simpa [Function.comp_def] using this
theorem maxF_lf {α : Type} (g : α → Int) {xs : List α} (h : xs ≠ []) (st : Sto) : maxF [.dat (.list (xs.map fun a => .int (g a)))] st = .ok (.dat (.int (mostI (xs.map g)))) st := by
  have := maxF_l (xs := xs.map g) st (by simpa using h)
  simpa [Function.comp_def] using this
theorem range_ne {n : Nat} (h : 1 ≤ n) : List.range n ≠ [] := by
  intro z
  have := congrArg List.length z
  simp at this
  omega
theorem pls_ne {r c : Nat} (h : 1 ≤ r) (h2 : 1 ≤ c) : pls r c ≠ [] := fun z => by
  have := pls_len r c
  rw [z] at this
  have h3 : 1 * 1 ≤ r * c := Nat.mul_le_mul h h2
  simp at this
  omega
def lst (r c : Nat) (f : Gr) : Int := leastI ((pls r c).map fun p => f p.1 p.2)
def mst (r c : Nat) (f : Gr) : Int := mostI ((pls r c).map fun p => f p.1 p.2)
theorem least_D {r c : Nat} {f : Gr} (r1 : 1 ≤ r) (hr : r ≤ 1000) (c1 : 1 ≤ c) (st : Sto) : callP F_least 1 [.dat (gD r c f)] st = .ok (.dat (.int (lst r c f))) st := by
  refine callP_1 (s2 := []) ?_
  have fr : few r = true := few_lit (by omega)
  simp [F_least, mkFn, c_least, mkEv, fr, wipeE]
  rw [compL_map (G := fun i : Nat => .dat (.int (leastI ((List.range c).map (f i)))))]
  rotate_left
  · intro i hi
    have : minF [.dat (rD c (f i))] [] = .ok (.dat (.int (leastI ((List.range c).map (f i))))) [] := minF_t [] (by simpa using range_ne c1)
    simp [Sk.compTurn, this]
  have e : leastI ((List.range r).map fun i => leastI ((List.range c).map (f i))) = lst r c f := by
    symm
    refine leastI_eq ?_ fun y hy => ?_
    · have h1 := least_mem (xs := (List.range r).map fun i => leastI ((List.range c).map (f i))) (by simpa using range_ne r1)
      obtain ⟨i, hi, e⟩ := List.mem_map.mp h1
      have h2 := least_mem (xs := (List.range c).map (f i)) (by simpa using range_ne c1)
      obtain ⟨j, hj, e2⟩ := List.mem_map.mp h2
      rw [← e, ← e2]
      exact List.mem_map.mpr ⟨(i, j), pls_mem.mpr ⟨by simpa using hi, by simpa using hj⟩, rfl⟩
    · obtain ⟨⟨i, j⟩, hp, rfl⟩ := List.mem_map.mp hy
      obtain ⟨hi, hj⟩ := pls_mem.mp hp
      have h1 := least_le (xs := (List.range r).map fun i => leastI ((List.range c).map (f i))) (List.mem_map.mpr ⟨i, by simpa using hi, rfl⟩)
      have h2 := least_le (xs := (List.range c).map (f i)) (List.mem_map.mpr ⟨j, by simpa using hj, rfl⟩)
      exact Int.le_trans h1 h2
  simp [asF, mkL_fun (fun i : Nat => PyData.int (leastI ((List.range c).map (f i)))), minF_lf _ (range_ne r1), asRet, e]
theorem greatest_D {r c : Nat} {f : Gr} (r1 : 1 ≤ r) (hr : r ≤ 1000) (c1 : 1 ≤ c) (st : Sto) : callP F_greatest 1 [.dat (gD r c f)] st = .ok (.dat (.int (mst r c f))) st := by
  refine callP_1 (s2 := []) ?_
  have fr : few r = true := few_lit (by omega)
  simp [F_greatest, mkFn, c_greatest, mkEv, fr, wipeE]
  rw [compL_map (G := fun i : Nat => .dat (.int (mostI ((List.range c).map (f i)))))]
  rotate_left
  · intro i hi
    have : maxF [.dat (rD c (f i))] [] = .ok (.dat (.int (mostI ((List.range c).map (f i))))) [] := maxF_t [] (by simpa using range_ne c1)
    simp [Sk.compTurn, this]
  have e : mostI ((List.range r).map fun i => mostI ((List.range c).map (f i))) = mst r c f := by
    symm
    refine mostI_eq ?_ fun y hy => ?_
    · have h1 := most_mem (xs := (List.range r).map fun i => mostI ((List.range c).map (f i))) (by simpa using range_ne r1)
      obtain ⟨i, hi, e⟩ := List.mem_map.mp h1
      have h2 := most_mem (xs := (List.range c).map (f i)) (by simpa using range_ne c1)
      obtain ⟨j, hj, e2⟩ := List.mem_map.mp h2
      rw [← e, ← e2]
      exact List.mem_map.mpr ⟨(i, j), pls_mem.mpr ⟨by simpa using hi, by simpa using hj⟩, rfl⟩
    · obtain ⟨⟨i, j⟩, hp, rfl⟩ := List.mem_map.mp hy
      obtain ⟨hi, hj⟩ := pls_mem.mp hp
      have h1 := le_most (xs := (List.range r).map fun i => mostI ((List.range c).map (f i))) (List.mem_map.mpr ⟨i, by simpa using hi, rfl⟩)
      have h2 := le_most (xs := (List.range c).map (f i)) (List.mem_map.mpr ⟨j, by simpa using hj, rfl⟩)
      exact Int.le_trans h2 h1
  simp [asF, mkL_fun (fun i : Nat => PyData.int (mostI ((List.range c).map (f i)))), maxF_lf _ (range_ne r1), asRet, e]
/-! ### in a list of data -/
theorem Gd.inB {α : Type} [DecidableEq α] {f : α → PyData} {k : Nat} (g : Gd f k) (hk : k ≤ 63) (a : α) (xs : List α) (st : Sto) : Sk.inB (.dat (f a)) (.dat (.list (xs.map f))) st = some (decide (a ∈ xs)) := by
  have h1 := g.shaped (by omega) a
  have h2 := (gd_lst g).shaped (by omega) xs
  have h3 : ((xs.map f).any fun z => PyData.eqv z (f a)) = decide (a ∈ xs) := by
    rw [Bool.eq_iff_iff, List.any_eq_true, decide_eq_true_eq]
    constructor
    · rintro ⟨z, hz, e⟩
      obtain ⟨y, hy, rfl⟩ := List.mem_map.mp hz
      rw [← (g.3 y a).mp e]
      exact hy
    · exact fun h => ⟨f a, List.mem_map.mpr ⟨a, h, rfl⟩, (g.3 a a).mpr rfl⟩
  have hd : dicOf st (.dat (.list (xs.map f))) = none := rfl
  unfold Sk.inB
  simp only [hd, rdD_dat, h1, h2, Bool.and_self, if_true, h3]
theorem Gd.inV {α : Type} [DecidableEq α] {f : α → PyData} {k : Nat} (g : Gd f k) (hk : k ≤ 63) (a : α) (xs : List α) (st : Sto) : Sk.inV (.dat (f a)) (.dat (.list (xs.map f))) st = .ok (.dat (.bool (decide (a ∈ xs)))) st := by
  simp only [Sk.inV, g.inB hk, oB]
theorem Gd.notInV {α : Type} [DecidableEq α] {f : α → PyData} {k : Nat} (g : Gd f k) (hk : k ≤ 63) (a : α) (xs : List α) (st : Sto) : Sk.notInV (.dat (f a)) (.dat (.list (xs.map f))) st = .ok (.dat (.bool (!decide (a ∈ xs)))) st := by
  simp only [Sk.notInV, g.inB hk, oB]
theorem psD_neV (r c : Nat) (st : Sto) : neV (.dat (psD r c)) (.dat (psD r c)) st = .ok (.dat (.bool false)) st := same_neV (gd_lst gd_pl) (by omega) (pls r c) st
theorem ints_neV (ns : List Int) (st : Sto) : neV (.dat (.tuple (ns.map .int))) (.dat (.tuple (ns.map .int))) st = .ok (.dat (.bool false)) st := same_neV (gd_tup gd_int) (by omega) ns st
theorem at_T {r c i j : Nat} {f : Gr} (hi : i < r) (hj : j < c) (st : Sto) : callP F_at 2 [.dat (gD r c f), .dat (.tuple [.int i, .int j])] st = .ok (.dat (.int (f i j))) st := at_eq hi hj st
theorem isGrid_D {r c : Nat} {f : Gr} {lo hi : Int} (r1 : 1 ≤ r) (r2 : r ≤ 40) (c1 : 1 ≤ c) (c2 : c ≤ 40) (hb : ∀ i j, i < r → j < c → lo ≤ f i j ∧ f i j ≤ hi) (st : Sto) : callP F_is_grid 3 [.dat (gD r c f), .dat (.int lo), .dat (.int hi)] st = .ok (.dat (.bool true)) st := by
  have e := callP_3 (st := st) (isGrid_eq (lo := lo) (hi := hi) (mkG_rect r c f) r1 r2 c1 c2)
  rw [all_bnd.mpr ((bnd_gv (mkG_rect r c f)).mpr fun i j hi hj => by rw [gv_mkG hi hj]; exact hb i j hi hj)] at e
  exact e
end Sk

set_option maxHeartbeats 1000000
/-! Sk, part 58: rows built line by line. -/
namespace Sk
open PySem PySem.Spec PyProof.Rows L2 GxR
theorem tupleV_at {st : Sto} {n : Nat} {ds : List PyData} (h : st[n]? = some (some (.lst (ds.map .dat)))) : tupleV [.ref n] st = .ok (.dat (.tuple ds)) st := by
  have := tupleV_ref (f := fun d : PyData => d) (xs := ds) (st := st) (n := n) (by simpa using h)
  simpa using this
theorem rows_loop {fnd l rw col nf r c : Nat} {outIt inIt : CI} {inB : CS} {ks ki : List Nat} {d : Nat → Nat → PyData} {ev0 : Ev} {st0 : Sto} (k1 : rw ∈ ks) (k2 : l ∈ ks) (k3 : col ∈ ks) (k4 : fnd ∉ ks) (k5 : ∀ k ∈ ki, k ∈ ks) (k6 : rw ∉ ki) (k7 : l ∉ ki) (k8 : col ≠ rw ∧ col ≠ l ∧ rw ≠ l)
    (l1 : rw < ev0.length) (l2 : l < ev0.length) (l3 : col < ev0.length) (hr : r ≤ 1000) (hc : c ≤ 1000) (hf : ev0[fnd]? = some (some (.ref nf))) (hst : st0[nf]? = some (some (.lst []))) (hout : outIt ev0 st0 = .ok ((List.range r).map (fun i : Nat => Va.dat (.int (i : Int))), none) st0)
    (hin : ∀ ev st, Up ks ev0 ev → inIt ev st = .ok ((List.range c).map (fun i : Nat => Va.dat (.int (i : Int))), none) st)
    (hb : ∀ (i j : Nat) (ev : Ev) (st : Sto) (n : Nat) (ys : List Va), i < r → j < c → Up ks ev0 ev → ev[rw]? = some (some (.dat (.int (i : Int)))) → ev[col]? = some (some (.dat (.int (j : Int)))) → ev[l]? = some (some (.ref n)) → st[n]? = some (some (.lst ys)) → ys.length ≤ 1000 →
      Goes inB ev st fun ev' s => s = st.set n (some (.lst (ys ++ [.dat (d i j)]))) ∧ Up ki ev ev') :
    Goes (dFor outIt (gN rw) (dSeq (dAsg (dLstM dNil) (gN l)) (dSeq (dFor inIt (gN col) inB) (dDo (dMt (lstM appendG) (dVar fnd) (dCons (dCallB tupleV (dCons (dVar l) dNil)) dNil)))))) ev0 st0 fun ev s => Up ks ev0 ev ∧ s[nf]? = some (some (.lst ((List.range r).map fun i => .dat (.tuple ((List.range c).map (d i)))))) := by
  have hnf : nf < st0.length := (List.getElem?_eq_some_iff.mp hst).1
  refine (Goes.loop (xs := List.range r) (h := fun i : Nat => Va.dat (.int (i : Int))) (fun k ev s => Up ks ev0 ev ∧ s[nf]? = some (some (.lst ((List.range k).map fun i => .dat (.tuple ((List.range c).map (d i))))))) hout ⟨Up.refl _ _, by simpa using hst⟩ ?_).mono fun ev s h => by simpa using h
  rintro k a ev st ha ⟨hu, hs⟩
  obtain ⟨rfl, hk⟩ := range_at ha
  have hnl : nf < st.length := (List.getElem?_eq_some_iff.mp hs).1
  have e0 : ev.length = ev0.length := hu.1
  refine Goes.turn (ev1 := ev.set rw (some (.dat (.int (a : Int))))) (st1 := st) rfl ?_
  refine Goes.seq (ev1 := (ev.set rw (some (.dat (.int (a : Int))))).set l (some (.ref st.length))) (st1 := st ++ [some (.lst [])]) (by simp [newL]) ?_
  have u1 : Up ks ev0 ((ev.set rw (some (.dat (.int (a : Int))))).set l (some (.ref st.length))) := by simpa [k1, k2] using hu
  have a1 : ((ev.set rw (some (.dat (.int (a : Int))))).set l (some (.ref st.length)))[rw]? = some (some (.dat (.int (a : Int)))) := by
    rw [List.getElem?_set_ne (Ne.symm k8.2.2), List.getElem?_set_self (by omega)]
  have a2 : ((ev.set rw (some (.dat (.int (a : Int))))).set l (some (.ref st.length)))[l]? = some (some (.ref st.length)) := List.getElem?_set_self (by rw [List.length_set]; omega)
  generalize (ev.set rw (some (.dat (.int (a : Int))))).set l (some (.ref st.length)) = ev1 at *
  refine Goes.seqG (Goes.loop (xs := List.range c) (h := fun i : Nat => Va.dat (.int (i : Int))) (fun j ev s => Up ks ev0 ev ∧ ev[rw]? = some (some (.dat (.int (a : Int)))) ∧ ev[l]? = some (some (.ref st.length)) ∧ s = st ++ [some (.lst ((List.range j).map fun j => .dat (d a j)))]) (hin ev1 _ u1) ⟨u1, a1, a2, by simp⟩ ?_) ?_
  · rintro j b ev2 s2 hj ⟨u2, b1, b2, rfl⟩
    obtain ⟨rfl, hjc⟩ := range_at hj
    refine Goes.turn (ev1 := ev2.set col (some (.dat (.int (b : Int))))) (st1 := _) rfl ?_
    have e2 : ev2.length = ev0.length := u2.1
    refine (hb a b _ _ st.length ((List.range b).map fun j => .dat (d a j)) hk hjc (by simpa [k3] using u2) (by rw [List.getElem?_set_ne k8.1]; exact b1) (List.getElem?_set_self (by omega)) (by rw [List.getElem?_set_ne k8.2.1]; exact b2) (by rw [List.getElem?_append_right (Nat.le_refl _)]; simp) (by simp; omega)).mono ?_
    rintro ev3 s3 ⟨rfl, u3⟩
    have u3' : Up ks (ev2.set col (some (.dat (.int (b : Int))))) ev3 := u3.wide k5
    refine ⟨(by simpa [k3] using u2 : Up ks ev0 (ev2.set col (some (.dat (.int (b : Int)))))).trans u3', ?_, ?_, ?_⟩
    · rw [u3.2 rw k6, List.getElem?_set_ne k8.1]; exact b1
    · rw [u3.2 l k7, List.getElem?_set_ne k8.2.1]; exact b2
    · rw [List.set_append_right _ _ (Nat.le_refl _), List.range_succ, List.map_append]
      simp
  · rintro ev2 s2 ⟨u2, b1, b2, rfl⟩
    rw [List.length_range]
    have hfn : ev2[fnd]? = some (some (.ref nf)) := by rw [u2.2 fnd k4]; exact hf
    have hs2 : (st ++ [some (Ob.lst ((List.range c).map fun j => Va.dat (d a j)))])[nf]? = some (some (.lst ((List.range a).map fun i => .dat (.tuple ((List.range c).map (d i)))))) := by
      rw [List.getElem?_append_left hnl]; exact hs
    have ht := tupleV_at (st := st ++ [some (Ob.lst ((List.range c).map fun j => Va.dat (d a j)))]) (n := st.length) (ds := (List.range c).map (d a)) (by rw [List.getElem?_append_right (Nat.le_refl _)]; simp)
    have hap := append_at hs2 (by simp; omega) (.dat (.tuple ((List.range c).map (d a))))
    have hil := isLst_at hs2
    generalize st ++ [some (Ob.lst ((List.range c).map fun j => Va.dat (d a j)))] = S2 at *
    refine Goes.fin ?_
    simp [-getElem?_pos, hfn, hil, b2, ht, hap]
    refine ⟨u2, ?_⟩
    rw [List.getElem?_set_self (by have := (List.getElem?_eq_some_iff.mp hs2).1; exact this), List.range_succ, List.map_append]
    simp
theorem rows_for {fnd l rw col nf r c : Nat} {inIt : CI} {inB : CS} {ks ki : List Nat} {d : Nat → Nat → PyData} {ev0 : Ev} {st0 : Sto} (k1 : rw ∈ ks) (k2 : l ∈ ks) (k3 : col ∈ ks) (k4 : fnd ∉ ks) (k5 : ∀ k ∈ ki, k ∈ ks) (k6 : rw ∉ ki) (k7 : l ∉ ki) (k8 : col ≠ rw ∧ col ≠ l ∧ rw ≠ l)
    (l1 : rw < ev0.length) (l2 : l < ev0.length) (l3 : col < ev0.length) (hr : r ≤ 1000) (hc : c ≤ 1000) (hf : ev0[fnd]? = some (some (.ref nf))) (hst : st0[nf]? = some (some (.lst [])))
    (hin : ∀ ev st, Up ks ev0 ev → inIt ev st = .ok ((List.range c).map (fun i : Nat => Va.dat (.int (i : Int))), none) st)
    (hb : ∀ (i j : Nat) (ev : Ev) (st : Sto) (n : Nat) (ys : List Va), i < r → j < c → Up ks ev0 ev → ev[rw]? = some (some (.dat (.int (i : Int)))) → ev[col]? = some (some (.dat (.int (j : Int)))) → ev[l]? = some (some (.ref n)) → st[n]? = some (some (.lst ys)) → ys.length ≤ 1000 →
      Goes inB ev st fun ev' s => s = st.set n (some (.lst (ys ++ [.dat (d i j)]))) ∧ Up ki ev ev') :
    ∃ ev s, forS none (dTurn (gN rw) (dSeq (dAsg (dLstM dNil) (gN l)) (dSeq (dFor inIt (gN col) inB) (dDo (dMt (lstM appendG) (dVar fnd) (dCons (dCallB tupleV (dCons (dVar l) dNil)) dNil)))))) ((List.range r).map (fun i : Nat => Va.dat (.int (i : Int)))) ev0 st0 = .ok (.nx ev) s ∧ Up ks ev0 ev ∧ s[nf]? = some (some (.lst ((List.range r).map fun i => .dat (.tuple ((List.range c).map (d i)))))) := by
  obtain ⟨ev, s, e, h⟩ := rows_loop (outIt := fun _ st => .ok ((List.range r).map (fun i : Nat => Va.dat (.int (i : Int))), none) st) k1 k2 k3 k4 k5 k6 k7 k8 l1 l2 l3 hr hc hf hst rfl hin hb
  exact ⟨ev, s, e, h⟩
end Sk

set_option maxHeartbeats 1000000
/-! Sk, part 59: cells that live and die. -/
namespace Sk
open PySem PySem.Spec PyProof.Rows L2 GxR
def k_EIGHT : Va := (.seq true [(.seq true [(.dat (.int (-1))), (.dat (.int (-1)))]), (.seq true [(.dat (.int (-1))), (.dat (.int 0))]), (.seq true [(.dat (.int (-1))), (.dat (.int 1))]), (.seq true [(.dat (.int 0)), (.dat (.int (-1)))]), (.seq true [(.dat (.int 0)), (.dat (.int 1))]), (.seq true [(.dat (.int 1)), (.dat (.int (-1)))]), (.seq true [(.dat (.int 1)), (.dat (.int 0))]), (.seq true [(.dat (.int 1)), (.dat (.int 1))])])
def c__law_life : CS :=
    (dSeq (dAsg (dTup (dCons (dBin addV (dC (.int 1)) (dCallO F__law_roll 2 (dCons (dVar 0) (dCons (dVar 1) dNil)))) (dCons (dBin addV (dC (.int 1)) (dCallO F__law_roll 2 (dCons (dVar 0) (dCons (dVar 1) dNil)))) dNil))) (gTp 2 (gsCons (gN 3) (gsCons (gN 4) gsNil))))
    (dSeq (dIfS (dTest (dVar 2)) (dAsg (dTup (dCons (dBin mulI (dC (.int 2)) (dVar 3)) (dCons (dBin mulI (dC (.int 2)) (dVar 4)) dNil))) (gTp 2 (gsCons (gN 3) (gsCons (gN 4) gsNil)))) dSkip)
    (dRet (dCallB tupleV (dCons (dComp asF (dRange (dCons (dVar 3) dNil)) [6] (gN 6) dYes (dCallB tupleV (dCons (dComp asF (dRange (dCons (dVar 4) dNil)) [5] (gN 5) dYes (dCallO F__law_roll 2 (dCons (dVar 0) (dCons (dC (.int 2)) dNil)))) dNil))) dNil)))))
def F__law_life : Fn := mkFn 7 c__law_life
def c__law_rule : CS :=
    (dSeq (dAsg (dCallB tupleV (dCons (dComp asF (dRange (dCons (dC (.int 9)) dNil)) [2] (gN 2) (dTest (dBin eqV (dCallO F__law_roll 2 (dCons (dVar 0) (dCons (dC (.int 3)) dNil))) (dC (.int 0)))) (dVar 2)) dNil)) (gN 1))
    (dRet (dTup (dCons (dVar 1) (dCons (dCallB tupleV (dCons (dComp asF (dRange (dCons (dC (.int 9)) dNil)) [2] (gN 2) (dTest (dBin eqV (dCallO F__law_roll 2 (dCons (dVar 0) (dCons (dC (.int 3)) dNil))) (dC (.int 0)))) (dVar 2)) dNil)) dNil)))))
def F__law_rule : Fn := mkFn 3 c__law_rule
def fb_is_rule1 : CS :=
    (dSeq (dIfS (dOrT (dNotT (dTest (dUn (isiV "tuple") (dVar 1)))) (dNotT (dTest (dGen eatAll (.dat (.bool true)) (dIter (dVar 1)) [2] (gN 2) (dCallP F_is_whole 3 (dCons (dVar 2) (dCons (dC (.int 0)) (dCons (dC (.int 8)) dNil)))))))) (dRet (dC (.bool false))) dSkip)
    (dIfS (dNotT (dTest (dGen eatAll (.dat (.bool true)) (dRange (dCons (dBin subV (dCallB lenV (dCons (dVar 1) dNil)) (dC (.int 1))) dNil)) [3] (gN 3) (dBin ltV (dBin ixV (dVar 1) (dVar 3)) (dBin ixV (dVar 1) (dBin addV (dVar 3) (dC (.int 1)))))))) (dRet (dC (.bool false))) dSkip))
def c_is_rule : CS :=
    (dSeq (dIfS (dOrT (dNotT (dTest (dUn (isiV "tuple") (dVar 0)))) (dTest (dBin neV (dCallB lenV (dCons (dVar 0) dNil)) (dC (.int 2))))) (dRet (dC (.bool false))) dSkip)
    (dSeq (dFor (dIter (dVar 0)) (gN 1) fb_is_rule1)
    (dRet (dC (.bool true)))))
def F_is_rule : Fn := mkFn 4 c_is_rule
def c_check_rule : CS :=
    (dIfS (dNotT (dTest (dCallP F_is_rule 1 (dCons (dVar 0) dNil)))) (dRaise 3) dSkip)
def F_check_rule : Fn := mkFn 1 c_check_rule
def c_around : CS :=
    (dSeq (dAsg (dCallP F_size_of 1 (dCons (dVar 0) dNil)) (gTp 2 (gsCons (gN 3) (gsCons (gN 4) gsNil))))
    (dRet (dComp asF (dIter (dVar 2)) [5, 6] (gTp 2 (gsCons (gN 5) (gsCons (gN 6) gsNil))) dYes (dTup (dCons (dBin modV (dBin addV (dBin ixV (dVar 1) (dC (.int 0))) (dVar 5)) (dVar 3)) (dCons (dBin modV (dBin addV (dBin ixV (dVar 1) (dC (.int 1))) (dVar 6)) (dVar 4)) dNil))))))
def F_around : Fn := mkFn 7 c_around
def c_living_beside : CS :=
    (dSeq (dAsg (dIf (dTest (dVar 2)) (dCallP F_around 3 (dCons (dVar 0) (dCons (dVar 1) (dCons (dVal k_EIGHT) dNil)))) (dCallP F_beside 3 (dCons (dVar 0) (dCons (dVar 1) (dCons (dVal k_EIGHT) dNil))))) (gN 3))
    (dRet (dGen eatSum (.dat (.int 0)) (dIter (dVar 3)) [4] (gN 4) (dCallP F_at 2 (dCons (dVar 0) (dCons (dVar 4) dNil))))))
def F_living_beside : Fn := mkFn 5 c_living_beside
def fb_next_state1 : CS :=
    (dSeq (dAsg (dCallP F_living_beside 3 (dCons (dVar 0) (dCons (dTup (dCons (dVar 4) (dCons (dVar 6) dNil))) (dCons (dVar 2) dNil)))) (gN 7))
    (dDo (dMt (lstM appendG) (dVar 5) (dCons (dCallB intF (dCons (dBin inV (dVar 7) (dBin ixV (dVar 1) (dBin ixV (dBin ixV (dVar 0) (dVar 4)) (dVar 6)))) dNil)) dNil))))
def fb_next_state2 : CS :=
    (dSeq (dAsg (dLstM dNil) (gN 5))
    (dSeq (dFor (dRange (dCons (dCallB lenV (dCons (dBin ixV (dVar 0) (dC (.int 0))) dNil)) dNil)) (gN 6) fb_next_state1)
    (dDo (dMt (lstM appendG) (dVar 3) (dCons (dCallB tupleV (dCons (dVar 5) dNil)) dNil)))))
def c_next_state : CS :=
    (dSeq (dDo (dCallP F_check_grid 3 (dCons (dVar 0) (dCons (dC (.int 0)) (dCons (dC (.int 1)) dNil)))))
    (dSeq (dDo (dCallP F_check_rule 1 (dCons (dVar 1) dNil)))
    (dSeq (dAsg (dLstM dNil) (gN 3))
    (dSeq (dFor (dRange (dCons (dCallB lenV (dCons (dVar 0) dNil)) dNil)) (gN 4) fb_next_state2)
    (dRet (dCallB tupleV (dCons (dVar 3) dNil)))))))
def F_next_state : Fn := mkFn 8 c_next_state
def fb__law_next1 : CS :=
    (dSeq (dPar 12 13 (dCons (dBin addV (dVar 6) (dVar 10)) (dCons (dBin addV (dVar 8) (dVar 11)) dNil)))
    (dIfS (dAndT (dTest (dBin neV (dTup (dCons (dVar 10) (dCons (dVar 11) dNil))) (dTup (dCons (dC (.int 0)) (dCons (dC (.int 0)) dNil))))) (dOrT (dTest (dVar 2)) (dAndT (dTest (dChain leV ltV (dC (.int 0)) (dVar 12) (dVar 3))) (dTest (dChain leV ltV (dC (.int 0)) (dVar 13) (dVar 4)))))) (dAsg (dBin addV (dVar 9) (dBin ixV (dBin ixV (dVar 0) (dBin modV (dCallB intF (dCons (dVar 12) dNil)) (dVar 3))) (dBin modV (dCallB intF (dCons (dVar 13) dNil)) (dVar 4)))) (gN 9)) dSkip))
def fb__law_next2 : CS :=
    (dFor (dIter (dLst (dCons (dBin subV (dC (.int 0)) (dC (.int 1))) (dCons (dC (.int 0)) (dCons (dC (.int 1)) dNil))))) (gN 11) fb__law_next1)
def fb__law_next3 : CS :=
    (dSeq (dAsg (dC (.int 0)) (gN 9))
    (dSeq (dFor (dIter (dLst (dCons (dBin subV (dC (.int 0)) (dC (.int 1))) (dCons (dC (.int 0)) (dCons (dC (.int 1)) dNil))))) (gN 10) fb__law_next2)
    (dDo (dMt (lstM appendG) (dVar 7) (dCons (dCallB intF (dCons (dBin inV (dVar 9) (dBin ixV (dVar 1) (dBin ixV (dBin ixV (dVar 0) (dVar 6)) (dVar 8)))) dNil)) dNil)))))
def fb__law_next4 : CS :=
    (dSeq (dAsg (dLstM dNil) (gN 7))
    (dSeq (dFor (dRange (dCons (dVar 4) dNil)) (gN 8) fb__law_next3)
    (dDo (dMt (lstM appendG) (dVar 5) (dCons (dCallB tupleV (dCons (dVar 7) dNil)) dNil)))))
def c__law_next : CS :=
    (dSeq (dPar3 3 4 5 (dCons (dCallB lenV (dCons (dVar 0) dNil)) (dCons (dCallB lenV (dCons (dBin ixV (dVar 0) (dC (.int 0))) dNil)) (dCons (dLstM dNil) dNil))))
    (dSeq (dFor (dRange (dCons (dVar 3) dNil)) (gN 6) fb__law_next4)
    (dRet (dCallB tupleV (dCons (dVar 5) dNil)))))
def F__law_next : Fn := mkFn 14 c__law_next
def fb_after_turns1 : CS :=
    (dAsg (dCallP F_next_state 3 (dCons (dVar 0) (dCons (dVar 1) (dCons (dVar 2) dNil)))) (gN 0))
def c_after_turns : CS :=
    (dSeq (dFor (dRange (dCons (dVar 3) dNil)) (gN 4) fb_after_turns1)
    (dRet (dVar 0)))
def F_after_turns : Fn := mkFn 5 c_after_turns
/-! ### in a tuple -/
theorem Gd.inBt {α : Type} [DecidableEq α] {f : α → PyData} {k : Nat} (g : Gd f k) (hk : k ≤ 63) (a : α) (xs : List α) (st : Sto) : Sk.inB (.dat (f a)) (.dat (.tuple (xs.map f))) st = some (decide (a ∈ xs)) := by
  have h1 := g.shaped (by omega) a
  have h2 := (gd_lst g).shaped (by omega) xs
  have h3 : ((xs.map f).any fun z => PyData.eqv z (f a)) = decide (a ∈ xs) := by
    rw [Bool.eq_iff_iff, List.any_eq_true, decide_eq_true_eq]
    constructor
    · rintro ⟨z, hz, e⟩
      obtain ⟨y, hy, rfl⟩ := List.mem_map.mp hz
      rw [← (g.3 y a).mp e]
      exact hy
    · exact fun h => ⟨f a, List.mem_map.mpr ⟨a, h, rfl⟩, (g.3 a a).mpr rfl⟩
  have hd : dicOf st (.dat (.tuple (xs.map f))) = none := rfl
  unfold Sk.inB
  simp only [hd, rdD_dat, h1, h2, Bool.and_self, if_true, h3]
theorem inRow (n : Int) (B : List Int) (st : Sto) : inV (.dat (.int n)) (.dat (rowD B)) st = .ok (.dat (.bool (decide (n ∈ B)))) st := by
  have : inB (.dat (.int n)) (.dat (rowD B)) st = some (decide (n ∈ B)) := gd_int.inBt (by omega) n B st
  simp only [inV, this, oB]
theorem notInRow (n : Int) (B : List Int) (st : Sto) : notInV (.dat (.int n)) (.dat (rowD B)) st = .ok (.dat (.bool (!decide (n ∈ B)))) st := by
  have : inB (.dat (.int n)) (.dat (rowD B)) st = some (decide (n ∈ B)) := gd_int.inBt (by omega) n B st
  simp only [notInV, this, oB]
/-! ### rules -/
structure RowOk (B : List Int) : Prop where
  bd : ∀ x ∈ B, 0 ≤ x ∧ x ≤ 8
  up : ∀ k, k + 1 < B.length → vl B k < vl B (k + 1)
  len : B.length ≤ 1000
abbrev Rl := List Int × List Int
def ruleD (R : Rl) : PyData := .tuple [rowD R.1, rowD R.2]
theorem row_ix {B : List Int} {k : Nat} (h : k < B.length) (st : Sto) : ixV (.dat (rowD B)) (.dat (.int (k : Int))) st = .ok (.dat (.int (vl B k))) st := ixV_t (f := PyData.int) (atI_pos (at_vl h) rfl)
theorem isRule_turn {B : List Int} (h : RowOk B) (o0 o1 o2 o3 : Option Va) : dTurn (gN 1) fb_is_rule1 (.dat (rowD B)) [o0, o1, none, none] [] = .ok (.nx [o0, some (.dat (rowD B)), none, none]) [] := by
  have t1 : isiV "tuple" (.dat (rowD B)) [] = .ok (.dat (.bool true)) [] := rfl
  have it : itemsV (.dat (rowD B)) [] = .ok (B.map fun i => .dat (.int i), none) [] := by simp [rowD]
  have ln : lenV [.dat (rowD B)] [] = .ok (.dat (.int B.length)) [] := by simp [rowD]
  have g1 : genL none (genTurn (gN 2) (dCallP F_is_whole 3 (dCons (dVar 2) (dCons (dC (.int 0)) (dCons (dC (.int 8)) dNil))))) eatAll (B.map fun i => .dat (.int i)) (.dat (.bool true)) [o0, some (.dat (rowD B)), none, none] [] = .ok (.dat (.bool true)) [] := by
    have := genL_all (f := genTurn (gN 2) (dCallP F_is_whole 3 (dCons (dVar 2) (dCons (dC (.int 0)) (dCons (dC (.int 8)) dNil))))) (ev := [o0, some (.dat (rowD B)), none, none]) (st := []) (h := fun i : Int => Va.dat (.int i)) (p := fun x => decide (0 ≤ x) && decide (x ≤ 8)) (xs := B) fun a _ => by simp [genTurn, whole_D]
    rw [this]
    congr 3
    rw [List.all_eq_true]
    intro x hx
    simp [h.bd x hx]
  have g2 : genL none (genTurn (gN 3) (dBin ltV (dBin ixV (dVar 1) (dVar 3)) (dBin ixV (dVar 1) (dBin addV (dVar 3) (dC (.int 1)))))) eatAll ((List.range ((B.length : Int) - 1).toNat).map fun i : Nat => Va.dat (.int (i : Int))) (.dat (.bool true)) [o0, some (.dat (rowD B)), none, none] [] = .ok (.dat (.bool true)) [] := by
    have := genL_all (f := genTurn (gN 3) (dBin ltV (dBin ixV (dVar 1) (dVar 3)) (dBin ixV (dVar 1) (dBin addV (dVar 3) (dC (.int 1)))))) (ev := [o0, some (.dat (rowD B)), none, none]) (st := []) (h := fun i : Nat => Va.dat (.int (i : Int))) (p := fun k => decide (vl B k < vl B (k + 1))) (xs := List.range ((B.length : Int) - 1).toNat) fun k hk => by
      have hk : k < ((B.length : Int) - 1).toNat := by simpa using hk
      have e1 := row_ix (B := B) (k := k) (by omega) []
      have e2 := row_ix (B := B) (k := k + 1) (by omega) []
      rw [show ((k + 1 : Nat) : Int) = (k : Int) + 1 by omega] at e2
      simp [genTurn, e1, e2]
    rw [this]
    congr 3
    rw [List.all_eq_true]
    intro k hk
    have hk : k < ((B.length : Int) - 1).toNat := by simpa using hk
    simp [h.up k (by omega)]
  have hl := h.len
  have rg := rangeV_1i (n := (B.length : Int) - 1) (st := []) (by omega) (by omega)
  generalize rowD B = R at *
  generalize (List.range ((B.length : Int) - 1).toNat).map (fun i : Nat => Va.dat (.int (i : Int))) = Z at *
  simp [fb_is_rule1, t1, it, wipeE, g1, ln, rg, g2]
theorem isRule_D {R : Rl} (h1 : RowOk R.1) (h2 : RowOk R.2) (st : Sto) : callP F_is_rule 1 [.dat (ruleD R)] st = .ok (.dat (.bool true)) st := by
  refine callP_1 (s2 := []) ?_
  have t1 : isiV "tuple" (.dat (ruleD R)) [] = .ok (.dat (.bool true)) [] := rfl
  have ln : lenV [.dat (ruleD R)] [] = .ok (.dat (.int 2)) [] := rfl
  have it : itemsV (.dat (ruleD R)) [] = .ok ([.dat (rowD R.1), .dat (rowD R.2)], none) [] := rfl
  have e1 := isRule_turn h1 (some (.dat (ruleD R))) none none none
  have e2 := isRule_turn h2 (some (.dat (ruleD R))) (some (.dat (rowD R.1))) none none
  have key : forS none (dTurn (gN 1) fb_is_rule1) [.dat (rowD R.1), .dat (rowD R.2)] [some (.dat (ruleD R)), none, none, none] [] = .ok (.nx [some (.dat (ruleD R)), some (.dat (rowD R.2)), none, none]) [] := by
    generalize fb_is_rule1 = fb at *
    simp only [forS, lkOk_none, if_true, e1, e2]
  generalize ruleD R = G at *
  simp [F_is_rule, mkFn, c_is_rule, mkEv, t1, ln, it, key, asRet]
theorem checkRule_D {R : Rl} (h1 : RowOk R.1) (h2 : RowOk R.2) (st : Sto) : callP F_check_rule 1 [.dat (ruleD R)] st = .ok (.dat .none) st := by
  refine callP_1 (s2 := []) ?_
  simp [F_check_rule, mkFn, c_check_rule, mkEv, isRule_D h1 h2, asRet]
theorem checkRule_bad {d : PyData} (h : F_is_rule [.dat d] [] = .ok (.dat (.bool false)) []) (st : Sto) : callP F_check_rule 1 [.dat d] st = .err ⟨3, none⟩ st := by
  refine callP_e1 (s2 := []) ?_
  simp [F_check_rule, mkFn, c_check_rule, mkEv, callP_1 h]
/-! ### the eight cells beside one -/
def eights : List (Int × Int) := [(-1, -1), (-1, 0), (-1, 1), (0, -1), (0, 1), (1, -1), (1, 0), (1, 1)]
def wr (n : Nat) (x : Int) : Nat := (x % n).toNat
theorem wr_lt {n : Nat} (h : 0 < n) (x : Int) : wr n x < n ∧ ((wr n x : Nat) : Int) = x % n := by
  obtain ⟨k, h1, h2, h3⟩ := emod_nat (a := x) h
  unfold wr
  rw [h3]
  exact ⟨h2, h1.symm⟩
theorem wr_in {n : Nat} {x : Int} (h0 : 0 ≤ x) (h1 : x < n) : ((wr n x : Nat) : Int) = x := by
  rw [(wr_lt (by omega) x).2]
  exact Int.emod_eq_of_lt h0 h1
def nbv (w : Bool) (r c : Nat) (f : Gr) (i j : Nat) (p : Int × Int) : Int := if (w || inGr r c ((i : Int) + p.1) ((j : Int) + p.2)) = true then f (wr r ((i : Int) + p.1)) (wr c ((j : Int) + p.2)) else 0
def cnt (w : Bool) (r c : Nat) (f : Gr) (i j : Nat) : Int := (eights.map (nbv w r c f i j)).sum
def stp (w : Bool) (R : Rl) (r c : Nat) (f : Gr) : Gr := fun i j => if cnt w r c f i j ∈ (if f i j = 0 then R.1 else R.2) then 1 else 0
def Bit (r c : Nat) (f : Gr) : Prop := ∀ i j, i < r → j < c → f i j = 0 ∨ f i j = 1
theorem stp_bit {w : Bool} {R : Rl} {r c : Nat} {f : Gr} : Bit r c (stp w R r c f) := fun i j _ _ => by
  unfold stp
  by_cases h : cnt w r c f i j ∈ (if f i j = 0 then R.1 else R.2)
  · rw [if_pos h]; exact .inr rfl
  · rw [if_neg h]; exact .inl rfl
theorem sum_filter {α : Type} (p : α → Bool) (g : α → Int) : ∀ xs : List α, ((xs.filter p).map g).sum = (xs.map fun a => if p a = true then g a else 0).sum
  | [] => rfl
  | a :: s => by
    cases h : p a with
    | true => simp [h, sum_filter p g s]
    | false => simp [h, sum_filter p g s]
section
variable {r c : Nat} {f : Gr} {i j : Nat}
theorem eight_out (st : Sto) : outV 8 st k_EIGHT = some k_EIGHT := by simp [outV, mapO, k_EIGHT]
def pt (i j : Nat) (p : Int × Int) : Int × Int := ((i : Int) + p.1, (j : Int) + p.2)
theorem around_8 (r1 : 1 ≤ r) (c1 : 1 ≤ c) (st : Sto) : callP F_around 3 [.dat (gD r c f), .dat (plD (i, j)), k_EIGHT] st = .ok (.dat (.list (eights.map fun p => zpD (((i : Int) + p.1) % r) (((j : Int) + p.2) % c)))) st := by
  refine callP_ok (ys := [.dat (gD r c f), .dat (plD (i, j)), k_EIGHT]) (s2 := []) rfl (by simp only [mapO, outV_dat, eight_out, Option.bind_some, Option.map_some]) ?_ rfl
  have p0 : ∀ st, ixV (.dat (plD (i, j))) (.dat (.int 0)) st = .ok (.dat (.int i)) st := fun _ => rfl
  have p1 : ∀ st, ixV (.dat (plD (i, j))) (.dat (.int 1)) st = .ok (.dat (.int j)) st := fun _ => rfl
  have m1 : ∀ (x : Int) st, modV (.dat (.int x)) (.dat (.int (r : Int))) st = .ok (.dat (.int (x % r))) st := fun x st => modV_i (by omega)
  have m2 : ∀ (x : Int) st, modV (.dat (.int x)) (.dat (.int (c : Int))) st = .ok (.dat (.int (x % c))) st := fun x st => modV_i (by omega)
  have it1 : ∀ st, itemsV k_EIGHT st = .ok (eights.map fun p => .seq true [.dat (.int p.1), .dat (.int p.2)], none) st := fun _ => rfl
  have f8 : few 8 = true := few_lit (by omega)
  have fl : few eights.length = true := f8
  have e1 := size_D (c := c) (f := f) [] r1
  generalize k_EIGHT = K8 at *
  simp [F_around, mkFn, c_around, mkEv, e1, it1, fl, wipeE]
  rw [compL_map (G := fun p : Int × Int => .dat (zpD (((i : Int) + p.1) % r) (((j : Int) + p.2) % c)))]
  rotate_left
  · rintro ⟨a, b⟩ _
    generalize plD (i, j) = P at *
    simp [Sk.compTurn, p0, p1, m1, m2, zpD]
  simp [asF, mkL_fun (fun p : Int × Int => zpD (((i : Int) + p.1) % r) (((j : Int) + p.2) % c)), asRet]
theorem beside_8 (hi : i < r) (hj : j < c) (st : Sto) : callP F_beside 3 [.dat (gD r c f), .dat (plD (i, j)), k_EIGHT] st = .ok (.dat (.list (((eights.map (pt i j)).filter fun p => inGr r c p.1 p.2).map fun p => zpD p.1 p.2))) st := by
  refine callP_ok (ys := [.dat (gD r c f), .dat (plD (i, j)), k_EIGHT]) (s2 := []) rfl (by simp only [mapO, outV_dat, eight_out, Option.bind_some, Option.map_some]) ?_ rfl
  have p0 : ∀ st, ixV (.dat (plD (i, j))) (.dat (.int 0)) st = .ok (.dat (.int i)) st := fun _ => rfl
  have p1 : ∀ st, ixV (.dat (plD (i, j))) (.dat (.int 1)) st = .ok (.dat (.int j)) st := fun _ => rfl
  have it1 : ∀ st, itemsV k_EIGHT st = .ok (eights.map fun p => .seq true [.dat (.int p.1), .dat (.int p.2)], none) st := fun _ => rfl
  have fl : few eights.length = true := few_lit (by decide)
  generalize k_EIGHT = K8 at *
  simp [F_beside, mkFn, c_beside, mkEv, it1, fl, wipeE]
  rw [compL_map (G := fun p : Int × Int => .dat (zpD (pt i j p).1 (pt i j p).2))]
  rotate_left
  · rintro ⟨a, b⟩ _
    generalize plD (i, j) = P at *
    simp [Sk.compTurn, p0, p1, zpD, pt]
  have m1 := mkL_fun (fun p : Int × Int => zpD (pt i j p).1 (pt i j p).2) eights
  have e3 : (eights.map fun p => zpD (pt i j p).1 (pt i j p).2) = (eights.map (pt i j)).map fun p => zpD p.1 p.2 := by rw [List.map_map]; rfl
  rw [e3] at m1
  have fl2 : few (eights.map (pt i j)).length = true := by rw [List.length_map]; exact fl
  have it2 : ∀ st, itemsV (.dat (.list ((eights.map (pt i j)).map fun p => zpD p.1 p.2))) st = .ok ((eights.map (pt i j)).map fun p => .dat (zpD p.1 p.2), none) st := fun st => by simp
  generalize eights.map (pt i j) = E8 at *
  simp only [asF, m1, Rs.bind_ok]
  generalize PyData.list (E8.map fun p => zpD p.1 p.2) = LL at *
  simp [it2, fl2, wipeE]
  rw [compL_filter (G := fun p : Int × Int => .dat (zpD p.1 p.2)) (p := fun p => inGr r c p.1 p.2)]
  rotate_left
  · rintro p _
    have e := within_D (c := c) (f := f) [] (show 1 ≤ r by omega) p.1 p.2
    generalize zpD p.1 p.2 = P at *
    cases hb : inGr r c p.1 p.2 <;> simp [Sk.compTurn, e, hb]
  simp [asF, mkL_fun (fun p : Int × Int => zpD p.1 p.2), asRet]
theorem at_zp {x y : Int} (h1 : 0 ≤ x) (h2 : x < r) (h3 : 0 ≤ y) (h4 : y < c) (st : Sto) : callP F_at 2 [.dat (gD r c f), .dat (zpD x y)] st = .ok (.dat (.int (f (wr r x) (wr c y)))) st := by
  have a1 := wr_in (n := r) h1 h2
  have a2 := wr_in (n := c) h3 h4
  have := at_D (f := f) st (wr_lt (n := r) (by omega) x).1 (wr_lt (n := c) (by omega) y).1
  rw [show plD (wr r x, wr c y) = zpD x y by simp [plD, zpD, a1, a2]] at this
  exact this
theorem living_D (w : Bool) (hi : i < r) (hj : j < c) (hb : Bit r c f) (st : Sto) : callP F_living_beside 3 [.dat (gD r c f), .dat (plD (i, j)), .dat (.bool w)] st = .ok (.dat (.int (cnt w r c f i j))) st := by
  refine callP_3 (s2 := []) ?_
  have bd : ∀ x y, x < r → y < c → -1 ≤ f x y ∧ f x y ≤ 1 := fun x y hx hy => by rcases hb x y hx hy with h | h <;> omega
  cases w with
  | true =>
    have e1 := around_8 (r := r) (c := c) (f := f) (i := i) (j := j) (by omega) (by omega) []
    have it : itemsV (.dat (.list (eights.map fun p => zpD (((i : Int) + p.1) % r) (((j : Int) + p.2) % c)))) [] = .ok (eights.map fun p => .dat (zpD (((i : Int) + p.1) % r) (((j : Int) + p.2) % c)), none) [] := by simp
    have ww : ∀ (n : Nat) (x : Int), 0 < n → wr n (x % n) = wr n x := fun n x hn => by
      unfold wr
      rw [Int.emod_emod_of_dvd _ (Int.dvd_refl _)]
    have key := genL_sum (f := genTurn (gN 4) (dCallP F_at 2 (dCons (dVar 0) (dCons (dVar 4) dNil)))) (ev := [some (.dat (gD r c f)), some (.dat (plD (i, j))), some (.dat (.bool true)), some (.dat (.list (eights.map fun p => zpD (((i : Int) + p.1) % r) (((j : Int) + p.2) % c)))), none]) (st := []) (h := fun p : Int × Int => Va.dat (zpD (((i : Int) + p.1) % r) (((j : Int) + p.2) % c))) (g := nbv true r c f i j) (B := 1) (by omega) (xs := eights) (a0 := 0) (fun p _ => by
        have h1 := Int.emod_nonneg ((i : Int) + p.1) (show (r : Int) ≠ 0 by omega)
        have h2 := Int.emod_lt_of_pos ((i : Int) + p.1) (show (0 : Int) < r by omega)
        have h3 := Int.emod_nonneg ((j : Int) + p.2) (show (c : Int) ≠ 0 by omega)
        have h4 := Int.emod_lt_of_pos ((j : Int) + p.2) (show (0 : Int) < c by omega)
        have e := at_zp (f := f) h1 h2 h3 h4 []
        rw [ww r _ (by omega), ww c _ (by omega)] at e
        simp [genTurn, e, nbv]) (fun p _ => by
        simp only [nbv, Bool.true_or, if_true]
        exact bd _ _ (wr_lt (by omega) _).1 (wr_lt (by omega) _).1) (by decide)
    rw [Int.zero_add] at key
    unfold cnt
    generalize PyData.list (eights.map fun p => zpD (((i : Int) + p.1) % r) (((j : Int) + p.2) % c)) = LL at *
    simp [F_living_beside, mkFn, c_living_beside, mkEv, e1, it, wipeE, key, asRet]
  | false =>
    have e1 := beside_8 (r := r) (c := c) (f := f) hi hj []
    have it : itemsV (.dat (.list (((eights.map (pt i j)).filter fun p => inGr r c p.1 p.2).map fun p => zpD p.1 p.2))) [] = .ok (((eights.map (pt i j)).filter fun p => inGr r c p.1 p.2).map fun p => .dat (zpD p.1 p.2), none) [] := by simp
    have hlen : ((eights.map (pt i j)).filter fun p => inGr r c p.1 p.2).length ≤ 8 := Nat.le_trans (List.length_filter_le _ _) (by simp [eights])
    have hin : ∀ p ∈ (eights.map (pt i j)).filter fun p => inGr r c p.1 p.2, 0 ≤ p.1 ∧ p.1 < r ∧ 0 ≤ p.2 ∧ p.2 < c := fun p hp => by
      have := (List.mem_filter.mp hp).2
      simp [inGr] at this
      omega
    have key := genL_sum (f := genTurn (gN 4) (dCallP F_at 2 (dCons (dVar 0) (dCons (dVar 4) dNil)))) (ev := [some (.dat (gD r c f)), some (.dat (plD (i, j))), some (.dat (.bool false)), some (.dat (.list (((eights.map (pt i j)).filter fun p => inGr r c p.1 p.2).map fun p => zpD p.1 p.2))), none]) (st := []) (h := fun p : Int × Int => Va.dat (zpD p.1 p.2)) (g := fun p => f (wr r p.1) (wr c p.2)) (B := 1) (by omega) (xs := (eights.map (pt i j)).filter fun p => inGr r c p.1 p.2) (a0 := 0) (fun p hp => by
        obtain ⟨h1, h2, h3, h4⟩ := hin p hp
        have e := at_zp (f := f) h1 h2 h3 h4 []
        simp [genTurn, e]) (fun p hp => bd _ _ (wr_lt (by omega) _).1 (wr_lt (by omega) _).1) (by omega)
    rw [Int.zero_add, sum_filter, List.map_map] at key
    have ec : cnt false r c f i j = (eights.map ((fun p : Int × Int => if inGr r c p.1 p.2 = true then f (wr r p.1) (wr c p.2) else 0) ∘ pt i j)).sum := by
      unfold cnt
      congr 1
    rw [ec]
    generalize PyData.list (((eights.map (pt i j)).filter fun p => inGr r c p.1 p.2).map fun p => zpD p.1 p.2) = LL at *
    simp [F_living_beside, mkFn, c_living_beside, mkEv, e1, it, wipeE, key, asRet]
end
end Sk

set_option maxHeartbeats 1000000
/-! Sk, part 60: a turn of a rule, by the program and by the law; drawn lives and rules. -/
namespace Sk
open PySem PySem.Spec PyProof.Rows L2 GxR
section
variable {r c : Nat} {f : Gr} {R : Rl} {w : Bool}
theorem rule_ix {v : Int} (h : v = 0 ∨ v = 1) (st : Sto) : ixV (.dat (ruleD R)) (.dat (.int v)) st = .ok (.dat (rowD (if v = 0 then R.1 else R.2))) st := by
  rcases h with rfl | rfl
  · rfl
  · rfl
theorem living_T (w : Bool) {i j : Nat} (hi : i < r) (hj : j < c) (hb : Bit r c f) (st : Sto) : callP F_living_beside 3 [.dat (gD r c f), .dat (.tuple [.int i, .int j]), .dat (.bool w)] st = .ok (.dat (.int (cnt w r c f i j))) st := living_D w hi hj hb st
theorem stp_int (i j : Nat) : (if decide (cnt w r c f i j ∈ (if f i j = 0 then R.1 else R.2)) = true then (1 : Int) else 0) = stp w R r c f i j := by
  unfold stp
  by_cases h : cnt w r c f i j ∈ (if f i j = 0 then R.1 else R.2)
  · rw [if_pos h, if_pos (by simpa using h)]
  · rw [if_neg h, if_neg (by simpa using h)]
theorem next_D (r1 : 1 ≤ r) (r2 : r ≤ 40) (c1 : 1 ≤ c) (c2 : c ≤ 40) (hb : Bit r c f) (h1 : RowOk R.1) (h2 : RowOk R.2) (st : Sto) : callP F_next_state 3 [.dat (gD r c f), .dat (ruleD R), .dat (.bool w)] st = .ok (.dat (gD r c (stp w R r c f))) st := by
  suffices h : ∃ s2, F_next_state [.dat (gD r c f), .dat (ruleD R), .dat (.bool w)] [] = .ok (.dat (gD r c (stp w R r c f))) s2 by
    obtain ⟨s2, h⟩ := h
    exact callP_3 h
  have cg := checkGrid_D (f := f) (lo := 0) (hi := 1) [] r1 r2 c1 c2 fun i j hi hj => by rcases hb i j hi hj with h | h <;> omega
  have cr := checkRule_D h1 h2 []
  obtain ⟨ev', st', e, hu, hs⟩ := rows_for (fnd := 3) (l := 5) (rw := 4) (col := 6) (nf := 0) (r := r) (c := c) (inIt := dRange (dCons (dCallB lenV (dCons (dBin ixV (dVar 0) (dC (.int 0))) dNil)) dNil)) (inB := fb_next_state1) (ks := [4, 5, 6, 7]) (ki := [7]) (d := fun i j => .int (stp w R r c f i j)) (ev0 := [some (.dat (gD r c f)), some (.dat (ruleD R)), some (.dat (.bool w)), some (.ref 0), none, none, none, none]) (st0 := [some (.lst [])])
    (by decide) (by decide) (by decide) (by decide) (by decide) (by decide) (by decide) (by decide) (by simp) (by simp) (by simp) (by omega) (by omega) rfl rfl (fun ev st hu => by
      have g0 : ev[0]? = some (some (.dat (gD r c f))) := hu.at rfl
      simp [-getElem?_pos, g0, gD_at0 _ r1, rangeV_1 (n := c) (by omega)])
    (fun i j ev st n ys hi hj hu e4 e6 e5 hst hy => by
      have g0 : ev[0]? = some (some (.dat (gD r c f))) := hu.at rfl
      have g1 : ev[1]? = some (some (.dat (ruleD R))) := hu.at rfl
      have g2 : ev[2]? = some (some (.dat (.bool w))) := hu.at rfl
      have gl : ev.length = 8 := hu.1
      have hap := append_at hst (by omega) (.dat (.int (stp w R r c f i j)))
      have hil := isLst_at hst
      unfold fb_next_state1
      refine Goes.s1 ?_
      simp [-getElem?_pos, g0, g2, e4, e6, living_T w hi hj hb]
      refine Goes.fin ?_
      simp [-getElem?_pos, List.getElem?_set, gl, g0, g1, e4, e5, e6, hil, gD_at _ hi, rD_at _ hj, rule_ix (hb i j hi hj), inRow, Up.refl]
      have := stp_int (w := w) (R := R) (r := r) (c := c) (f := f) i j
      simp only [decide_eq_true_eq] at this
      rw [this, hap]
      simp [Up.refl])
  have h3 : ev'[3]? = some (some (.ref 0)) := hu.at rfl
  have ht := tupleV_at (st := st') (n := 0) (ds := (List.range r).map fun i => .tuple ((List.range c).map fun j => .int (stp w R r c f i j))) (by rw [hs, List.map_map]; rfl)
  refine ⟨st', ?_⟩
  have hg : gD r c (stp w R r c f) = .tuple ((List.range r).map fun i => .tuple ((List.range c).map fun j => .int (stp w R r c f i j))) := by
    rw [gD_eq]
    simp only [rD_eq]
  rw [hg]
  generalize PyData.tuple ((List.range r).map fun i => PyData.tuple ((List.range c).map fun j => .int (stp w R r c f i j))) = GG at *
  have e : forS none (dTurn (gN 4) fb_next_state2) ((List.range r).map (fun i : Nat => Va.dat (.int (i : Int)))) [some (.dat (gD r c f)), some (.dat (ruleD R)), some (.dat (.bool w)), some (.ref 0), none, none, none, none] [some (.lst [])] = .ok (.nx ev') st' := e
  have rg := rangeV_1 (n := r) (st := [some (.lst [])]) (by omega)
  simp [F_next_state, mkFn, c_next_state, mkEv, cg, cr, newL, rg, e, h3, ht, asRet]
theorem next_bad {d : PyData} (r1 : 1 ≤ r) (r2 : r ≤ 40) (c1 : 1 ≤ c) (c2 : c ≤ 40) (hb : Bit r c f) (h : F_is_rule [.dat d] [] = .ok (.dat (.bool false)) []) (st : Sto) : callP F_next_state 3 [.dat (gD r c f), .dat d, .dat (.bool w)] st = .err ⟨3, none⟩ st := by
  have cg := checkGrid_D (f := f) (lo := 0) (hi := 1) [] r1 r2 c1 c2 fun i j hi hj => by rcases hb i j hi hj with h | h <;> omega
  refine callP_e3 (s2 := []) ?_
  simp [F_next_state, mkFn, c_next_state, mkEv, cg, checkRule_bad h]
/-! ### by the law -/
def nines : List (Int × Int) := [(-1, -1), (-1, 0), (-1, 1), (0, -1), (0, 0), (0, 1), (1, -1), (1, 0), (1, 1)]
def nbz (w : Bool) (r c : Nat) (f : Gr) (i j : Nat) (p : Int × Int) : Int := if p = (0, 0) then 0 else nbv w r c f i j p
theorem nines_sum (i j : Nat) : (nines.map (nbz w r c f i j)).sum = cnt w r c f i j := by
  simp [nines, cnt, eights, nbz]
theorem lawNext_in {i j : Nat} {d a : Int} (hi : i < r) (hj : j < c) {m : Int} {ev : Ev} {st : Sto} (hl : ev.length = 14) (g0 : ev[0]? = some (some (.dat (gD r c f)))) (g2 : ev[2]? = some (some (.dat (.bool w)))) (g3 : ev[3]? = some (some (.dat (.int r)))) (g4 : ev[4]? = some (some (.dat (.int c)))) (g6 : ev[6]? = some (some (.dat (.int i)))) (g8 : ev[8]? = some (some (.dat (.int j)))) (g9 : ev[9]? = some (some (.dat (.int m)))) (g10 : ev[10]? = some (some (.dat (.int d)))) :
    Goes (dTurn (gN 11) fb__law_next1 (.dat (.int a))) ev st fun ev' s => s = st ∧ ev'[9]? = some (some (.dat (.int (m + nbz w r c f i j (d, a))))) ∧ Up [9, 11, 12, 13] ev ev' := by
  refine Goes.turn (ev1 := ev.set 11 (some (.dat (.int a)))) (st1 := st) rfl ?_
  unfold fb__law_next1
  refine Goes.seq (ev1 := ((ev.set 11 (some (.dat (.int a)))).set 12 (some (.dat (.int ((i : Int) + d))))).set 13 (some (.dat (.int ((j : Int) + a))))) (st1 := st) ?_ ?_
  · simp [-getElem?_pos, List.getElem?_set, hl, g6, g8, g10]
  have ne : ∀ st, neV (.dat (.tuple [.int d, .int a])) (.dat (.tuple [.int 0, .int 0])) st = .ok (.dat (.bool (!decide (d = 0 ∧ a = 0)))) st := fun st => by
    have := (gd_tup gd_int).neV (by omega) [d, a] [0, 0] st
    simpa using this
  obtain ⟨p, hp1, hp2, _⟩ := emod_nat (a := (i : Int) + d) (n := r) (by omega)
  obtain ⟨q, hq1, hq2, _⟩ := emod_nat (a := (j : Int) + a) (n := c) (by omega)
  have mo1 : ∀ st, modV (.dat (.int ((i : Int) + d))) (.dat (.int (r : Int))) st = .ok (.dat (.int (p : Int))) st := fun st => by rw [modV_i (by omega), hp1]
  have mo2 : ∀ st, modV (.dat (.int ((j : Int) + a))) (.dat (.int (c : Int))) st = .ok (.dat (.int (q : Int))) st := fun st => by rw [modV_i (by omega), hq1]
  have w1 : wr r ((i : Int) + d) = p := by unfold wr; rw [hp1]; rfl
  have w2 : wr c ((j : Int) + a) = q := by unfold wr; rw [hq1]; rfl
  refine Goes.fin ?_
  by_cases h0 : d = 0 ∧ a = 0
  · obtain ⟨rfl, rfl⟩ := h0
    simp [-getElem?_pos, List.getElem?_set, hl, g10, ne, g9, nbz, Up.refl]
  · have hz : nbz w r c f i j (d, a) = nbv w r c f i j (d, a) := by
      unfold nbz
      rw [if_neg (by simpa using h0)]
    rw [hz]
    by_cases hin : (w || inGr r c ((i : Int) + d) ((j : Int) + a)) = true
    · have hv : nbv w r c f i j (d, a) = f p q := by
        unfold nbv
        rw [if_pos hin, w1, w2]
      rw [hv]
      cases w with
      | true => simp [-getElem?_pos, List.getElem?_set, hl, g10, ne, h0, g9, g2, g0, g3, g4, mo1, mo2, gD_at _ hp2, rD_at _ hq2, Up.refl]
      | false =>
        simp [inGr] at hin
        obtain ⟨⟨i1, i2⟩, i3, i4⟩ := hin
        simp [-getElem?_pos, List.getElem?_set, hl, g10, ne, h0, g9, g2, g0, g3, g4, mo1, mo2, gD_at _ hp2, rD_at _ hq2, i1, i2, i3, i4, Up.refl]
    · have hv : nbv w r c f i j (d, a) = 0 := by
        unfold nbv
        rw [if_neg hin]
      rw [hv]
      cases w with
      | true => simp at hin
      | false =>
        simp only [Bool.false_or] at hin
        unfold inGr at hin
        by_cases i1 : 0 ≤ (i : Int) + d <;> by_cases i2 : (i : Int) + d < r <;> by_cases i3 : 0 ≤ (j : Int) + a <;> by_cases i4 : (j : Int) + a < c <;> first | (exfalso; apply hin; simp [i1, i2, i3, i4]; done) | simp [-getElem?_pos, List.getElem?_set, hl, g10, ne, h0, g9, g2, g3, g4, i1, i2, i3, i4, Up.refl]
end
end Sk

set_option maxHeartbeats 1000000
/-! Sk, part 61: the law's own turn of a rule; drawn lives and rules; turns repeated. -/
namespace Sk
open PySem PySem.Spec PyProof.Rows L2 GxR
section
variable {r c : Nat} {f : Gr} {R : Rl} {w : Bool}
theorem it3 (ev : Ev) (st : Sto) : dIter (dLst (dCons (dBin subV (dC (.int 0)) (dC (.int 1))) (dCons (dC (.int 0)) (dCons (dC (.int 1)) dNil)))) ev st = .ok (([-1, 0, 1] : List Int).map fun a => Va.dat (.int a), none) st := by
  simp
theorem lawNext_2 {i j : Nat} {d : Int} (hi : i < r) (hj : j < c) {m : Int} {ev : Ev} {st : Sto} (hl : ev.length = 14) (g0 : ev[0]? = some (some (.dat (gD r c f)))) (g2 : ev[2]? = some (some (.dat (.bool w)))) (g3 : ev[3]? = some (some (.dat (.int r)))) (g4 : ev[4]? = some (some (.dat (.int c)))) (g6 : ev[6]? = some (some (.dat (.int i)))) (g8 : ev[8]? = some (some (.dat (.int j)))) (g9 : ev[9]? = some (some (.dat (.int m)))) :
    Goes (dTurn (gN 10) fb__law_next2 (.dat (.int d))) ev st fun ev' s => s = st ∧ ev'[9]? = some (some (.dat (.int (m + (([-1, 0, 1] : List Int).map fun a => nbz w r c f i j (d, a)).sum)))) ∧ Up [9, 10, 11, 12, 13] ev ev' := by
  refine Goes.turn (ev1 := ev.set 10 (some (.dat (.int d)))) (st1 := st) rfl ?_
  unfold fb__law_next2
  refine (Goes.loop (xs := ([-1, 0, 1] : List Int)) (h := fun a => Va.dat (.int a)) (fun k ev' s => s = st ∧ ev'[9]? = some (some (.dat (.int (m + ((([-1, 0, 1] : List Int).take k).map fun a => nbz w r c f i j (d, a)).sum)))) ∧ Up [9, 11, 12, 13] (ev.set 10 (some (.dat (.int d)))) ev') (it3 _ _) ⟨rfl, by simp [-getElem?_pos, g9], Up.refl _ _⟩ ?_).mono ?_
  · rintro k a ev1 s ha ⟨rfl, h9, hu⟩
    have l1 : ev1.length = 14 := hu.len (by simpa using hl)
    refine (lawNext_in (f := f) (w := w) (a := a) (d := d) hi hj l1 (hu.at (by simp [-getElem?_pos, g0])) (hu.at (by simp [-getElem?_pos, g2])) (hu.at (by simp [-getElem?_pos, g3])) (hu.at (by simp [-getElem?_pos, g4])) (hu.at (by simp [-getElem?_pos, g6])) (hu.at (by simp [-getElem?_pos, g8])) h9 (hu.at (by simp [-getElem?_pos, List.getElem?_set, hl]))).mono ?_
    rintro ev2 s2 ⟨rfl, h92, hu2⟩
    refine ⟨rfl, ?_, hu.trans hu2⟩
    rw [h92, take_at ha, List.map_append, List.sum_append]
    simp [Int.add_assoc]
  · rintro ev1 s ⟨rfl, h9, hu⟩
    refine ⟨rfl, by simpa using h9, ?_⟩
    have : Up [9, 10, 11, 12, 13] ev (ev.set 10 (some (.dat (.int d)))) := by simp [Up.refl]
    exact this.trans hu.wide
theorem lawNext_3 {i j n : Nat} {ys : List Va} (hb : Bit r c f) (hi : i < r) (hj : j < c) {ev : Ev} {st : Sto} (hl : ev.length = 14) (g0 : ev[0]? = some (some (.dat (gD r c f)))) (g1 : ev[1]? = some (some (.dat (ruleD R)))) (g2 : ev[2]? = some (some (.dat (.bool w)))) (g3 : ev[3]? = some (some (.dat (.int r)))) (g4 : ev[4]? = some (some (.dat (.int c)))) (g6 : ev[6]? = some (some (.dat (.int i)))) (g7 : ev[7]? = some (some (.ref n))) (g8 : ev[8]? = some (some (.dat (.int j)))) (hst : st[n]? = some (some (.lst ys))) (hy : ys.length ≤ 1000) :
    Goes fb__law_next3 ev st fun ev' s => s = st.set n (some (.lst (ys ++ [.dat (.int (stp w R r c f i j))]))) ∧ Up [9, 10, 11, 12, 13] ev ev' := by
  unfold fb__law_next3
  refine Goes.seq (ev1 := ev.set 9 (some (.dat (.int 0)))) (st1 := st) rfl ?_
  refine Goes.seqG (Goes.loop (xs := ([-1, 0, 1] : List Int)) (h := fun a => Va.dat (.int a)) (fun k ev' s => s = st ∧ ev'[9]? = some (some (.dat (.int ((([-1, 0, 1] : List Int).take k).map fun d => (([-1, 0, 1] : List Int).map fun a => nbz w r c f i j (d, a)).sum).sum))) ∧ Up [9, 10, 11, 12, 13] ev ev') (it3 _ _) ⟨rfl, by simp [-getElem?_pos, List.getElem?_set, hl], by simp [Up.refl]⟩ ?_) ?_
  · rintro k d ev1 s ha ⟨rfl, h9, hu⟩
    refine (lawNext_2 (f := f) (w := w) (d := d) hi hj (hu.len hl) (hu.at g0) (hu.at g2) (hu.at g3) (hu.at g4) (hu.at g6) (hu.at g8) h9).mono ?_
    rintro ev2 s2 ⟨rfl, h92, hu2⟩
    refine ⟨rfl, ?_, hu.trans hu2⟩
    rw [h92, take_at ha, List.map_append, List.sum_append]
    simp
  · rintro ev1 s ⟨rfl, h9, hu⟩
    have hs : ((([-1, 0, 1] : List Int).take ([-1, 0, 1] : List Int).length).map fun d => (([-1, 0, 1] : List Int).map fun a => nbz w r c f i j (d, a)).sum).sum = cnt w r c f i j := by
      rw [← nines_sum]
      simp [nines]
      omega
    rw [hs] at h9
    have hap := append_at hst (by omega) (.dat (.int (stp w R r c f i j)))
    have hil := isLst_at hst
    have b0 := hu.at g0
    have b1 := hu.at g1
    have b6 := hu.at g6
    have b7 := hu.at g7
    have b8 := hu.at g8
    refine Goes.fin ?_
    simp [-getElem?_pos, b0, b1, b6, b7, b8, h9, hil, gD_at _ hi, rD_at _ hj, rule_ix (hb i j hi hj), inRow]
    have := stp_int (w := w) (R := R) (r := r) (c := c) (f := f) i j
    simp only [decide_eq_true_eq] at this
    rw [this, hap]
    simp [hu]
theorem lawNext_D (r1 : 1 ≤ r) (r2 : r ≤ 1000) (c1 : 1 ≤ c) (c2 : c ≤ 1000) (hb : Bit r c f) (st : Sto) : callP F__law_next 3 [.dat (gD r c f), .dat (ruleD R), .dat (.bool w)] st = .ok (.dat (gD r c (stp w R r c f))) st := by
  suffices h : ∃ s2, F__law_next [.dat (gD r c f), .dat (ruleD R), .dat (.bool w)] [] = .ok (.dat (gD r c (stp w R r c f))) s2 by
    obtain ⟨s2, h⟩ := h
    exact callP_3 h
  obtain ⟨ev', st', e, hu, hs⟩ := rows_for (fnd := 5) (l := 7) (rw := 6) (col := 8) (nf := 0) (r := r) (c := c) (inIt := dRange (dCons (dVar 4) dNil)) (inB := fb__law_next3) (ks := [6, 7, 8, 9, 10, 11, 12, 13]) (ki := [9, 10, 11, 12, 13]) (d := fun i j => .int (stp w R r c f i j)) (ev0 := [some (.dat (gD r c f)), some (.dat (ruleD R)), some (.dat (.bool w)), some (.dat (.int r)), some (.dat (.int c)), some (.ref 0), none, none, none, none, none, none, none, none]) (st0 := [some (.lst [])])
    (by decide) (by decide) (by decide) (by decide) (by decide) (by decide) (by decide) (by decide) (by simp) (by simp) (by simp) (by omega) (by omega) rfl rfl (fun ev st hu => by
      have g4 : ev[4]? = some (some (.dat (.int c))) := hu.at rfl
      simp [-getElem?_pos, g4, rangeV_1 (n := c) (by omega)])
    (fun i j ev st n ys hi hj hu e4 e6 e5 hst hy => lawNext_3 hb hi hj hu.1 (hu.at rfl) (hu.at rfl) (hu.at rfl) (hu.at rfl) (hu.at rfl) e4 e5 e6 hst hy)
  have h3 : ev'[5]? = some (some (.ref 0)) := hu.at rfl
  have ht := tupleV_at (st := st') (n := 0) (ds := (List.range r).map fun i => .tuple ((List.range c).map fun j => .int (stp w R r c f i j))) (by rw [hs, List.map_map]; rfl)
  refine ⟨st', ?_⟩
  have hg : gD r c (stp w R r c f) = .tuple ((List.range r).map fun i => .tuple ((List.range c).map fun j => .int (stp w R r c f i j))) := by
    rw [gD_eq]
    simp only [rD_eq]
  rw [hg]
  generalize PyData.tuple ((List.range r).map fun i => PyData.tuple ((List.range c).map fun j => .int (stp w R r c f i j))) = GG at *
  have e : forS none (dTurn (gN 6) fb__law_next4) ((List.range r).map (fun i : Nat => Va.dat (.int (i : Int)))) [some (.dat (gD r c f)), some (.dat (ruleD R)), some (.dat (.bool w)), some (.dat (.int r)), some (.dat (.int c)), some (.ref 0), none, none, none, none, none, none, none, none] [some (.lst [])] = .ok (.nx ev') st' := e
  have rg := rangeV_1 (n := r) (st := [some (.lst [])]) (by omega)
  simp [F__law_next, mkFn, c__law_next, mkEv, dPar3, gD_at0 _ r1, newL, rg, e, h3, ht, asRet]
/-! ### turns repeated -/
def stN (w : Bool) (R : Rl) (r c : Nat) : Nat → Gr → Gr
  | 0, f => f
  | n + 1, f => stp w R r c (stN w R r c n f)
theorem stN_bit (hb : Bit r c f) : ∀ n, Bit r c (stN w R r c n f)
  | 0 => hb
  | n + 1 => stp_bit
theorem after_D (r1 : 1 ≤ r) (r2 : r ≤ 40) (c1 : 1 ≤ c) (c2 : c ≤ 40) (hb : Bit r c f) (h1 : RowOk R.1) (h2 : RowOk R.2) {n : Nat} (hn : n ≤ 1000) (st : Sto) : callP F_after_turns 4 [.dat (gD r c f), .dat (ruleD R), .dat (.bool w), .dat (.int n)] st = .ok (.dat (gD r c (stN w R r c n f))) st := by
  refine callP_4 (s2 := []) ?_
  have g := rangeV_1 (n := n) (st := []) (by omega)
  obtain ⟨ev', st', e, rfl, o4, rfl⟩ := forS_inv (b := dTurn (gN 4) fb_after_turns1) (h := fun i : Nat => Va.dat (.int (i : Int))) (fun k ev s => s = [] ∧ ∃ o4, ev = [some (.dat (gD r c (stN w R r c k f))), some (.dat (ruleD R)), some (.dat (.bool w)), some (.dat (.int n)), o4]) (xs := List.range n) (k := 0) (ev := [some (.dat (gD r c f)), some (.dat (ruleD R)), some (.dat (.bool w)), some (.dat (.int n)), none]) (st := []) ⟨rfl, _, rfl⟩ fun i a ev s ha hI => by
    rw [Nat.zero_add] at *
    obtain ⟨rfl, o4, rfl⟩ := hI
    refine ⟨_, _, .inl ?_, rfl, some (.dat (.int (a : Int))), rfl⟩
    simp [fb_after_turns1, next_D (w := w) r1 r2 c1 c2 (stN_bit (w := w) (R := R) hb i) h1 h2, stN]
  rw [Nat.zero_add, List.length_range] at e
  simp [F_after_turns, mkFn, c_after_turns, mkEv, g, e, asRet]
end
/-! ### drawn -/
theorem life_draw {D n : Nat} {st : Sto} (h : Dic D st) (hn : n < D) {most : Nat} (m1 : 1 ≤ most) (m2 : most ≤ 20) (even : Bool) : ∃ (f : Gr) (r c : Nat) (st' : Sto), callO F__law_life 3 [.ref n, .dat (.int most), .dat (.bool even)] st = .ok (.dat (gD r c f)) st' ∧ 1 ≤ r ∧ r ≤ 2 * most ∧ 1 ≤ c ∧ c ≤ 2 * most ∧ (even = false → r ≤ most ∧ c ≤ most) ∧ (even = true → r % 2 = 0 ∧ c % 2 = 0) ∧ Bit r c f ∧ Dic D st' ∧ Kp D st st' := by
  obtain ⟨r, st1, p1, p2, e1, d1, k1⟩ := roll_dic (m := most) h hn (by omega) (by omega)
  obtain ⟨c, st2, q1, q2, e2, d2, k2⟩ := roll_dic (m := most) d1 hn (by omega) (by omega)
  obtain ⟨rn, hrn, hr1, hr2⟩ : ∃ rn : Nat, (if even = true then 2 * (1 + r) else 1 + r) = (rn : Int) ∧ 1 ≤ rn ∧ rn ≤ 2 * most ∧ (even = false → rn ≤ most) ∧ (even = true → rn % 2 = 0) := by
    cases even with
    | true => exact ⟨(2 * (1 + r)).toNat, by simp; omega, by omega, by omega, fun h => (by cases h), fun _ => by omega⟩
    | false => exact ⟨(1 + r).toNat, by simp; omega, by omega, by omega, fun _ => by omega, fun h => by cases h⟩
  obtain ⟨cn, hcn, hc1, hc2⟩ : ∃ cn : Nat, (if even = true then 2 * (1 + c) else 1 + c) = (cn : Int) ∧ 1 ≤ cn ∧ cn ≤ 2 * most ∧ (even = false → cn ≤ most) ∧ (even = true → cn % 2 = 0) := by
    cases even with
    | true => exact ⟨(2 * (1 + c)).toNat, by simp; omega, by omega, by omega, fun h => (by cases h), fun _ => by omega⟩
    | false => exact ⟨(1 + c).toNat, by simp; omega, by omega, by omega, fun _ => by omega, fun h => by cases h⟩
  have hfc : few cn = true := few_lit (by omega)
  have hfr : few rn = true := few_lit (by omega)
  obtain ⟨ys, st3, e3, l3, r3, d3, k3⟩ := compL_draw (f := Sk.compTurn (gN 6) dYes (dCallB tupleV (dCons (dComp asF (dRange (dCons (dVar 4) dNil)) [5] (gN 5) dYes (dCallO F__law_roll 2 (dCons (dVar 0) (dCons (dC (.int 2)) dNil)))) dNil))) (ev := [some (.ref n), some (.dat (.int most)), some (.dat (.bool even)), some (.dat (.int rn)), some (.dat (.int cn)), none, none]) (h := fun i : Nat => Va.dat (.int (i : Int))) (G := fun row : List Int => Va.dat (rowD row)) (P := fun s => Dic D s ∧ Kp D st2 s)
    (R := fun row => row.length = cn ∧ ∀ x ∈ row, x = 0 ∨ x = 1) (xs := List.range rn) (st := st2) (fun a _ s hs => by
      obtain ⟨ys, s', ey, ly, ry, dy⟩ := compL_draw (f := Sk.compTurn (gN 5) dYes (dCallO F__law_roll 2 (dCons (dVar 0) (dCons (dC (.int 2)) dNil)))) (ev := [some (.ref n), some (.dat (.int most)), some (.dat (.bool even)), some (.dat (.int rn)), some (.dat (.int cn)), none, some (.dat (.int (a : Int)))]) (h := fun i : Nat => Va.dat (.int (i : Int))) (G := fun i : Int => Va.dat (.int i)) (P := fun s => Dic D s ∧ Kp D st2 s) (R := fun x => x = 0 ∨ x = 1) (xs := List.range cn) (st := s) (fun b _ s hs => by
        obtain ⟨z, s', z1, z2, ez, dz, kz⟩ := roll_dic (m := 2) hs.1 hn (by omega) (by omega)
        refine ⟨z, s', ?_, ⟨dz, hs.2.trans kz⟩, by omega⟩
        simp [Sk.compTurn, ez]) hs
      have hmk : mkL (ys.map fun i : Int => Va.dat (.int i)) = .dat (.list (ys.map .int)) := mkL_fun _ _
      have hr2 := rangeV_1 (n := cn) (st := s) (by omega)
      refine ⟨ys, s', ?_, dy, by simpa using ly, ry⟩
      simp [Sk.compTurn, hr2, hfc, wipeE, ey, asF, hmk, rowD]) ⟨d2, Kp.refl _ _⟩
  have hR : Rect ys rn cn := ⟨by simpa using l3, fun row h => (r3 row h).1⟩
  refine ⟨gv ys, rn, cn, st3, ?_, hr1, hr2.1, hc1, hc2.1, fun h => ⟨hr2.2.1 h, hc2.2.1 h⟩, fun h => ⟨hr2.2.2 h, hc2.2.2 h⟩, fun i j hi hj => ?_, d3, (k1.trans k2).trans k3⟩
  · have hmk : mkL (ys.map fun row : List Int => Va.dat (rowD row)) = .dat (.list (ys.map rowD)) := mkL_fun _ _
    refine (callO_eq (n := 3) rfl).trans ?_
    have e1' : callO F__law_roll 2 [.ref n, .dat (.int most)] st = .ok (.dat (.int r)) st1 := e1
    have e2' : callO F__law_roll 2 [.ref n, .dat (.int most)] st1 = .ok (.dat (.int c)) st2 := e2
    have hrr := rangeV_1 (n := rn) (st := st2) (by omega)
    have m2a : ∀ (x : Int) st, mulI (.dat (.int 2)) (.dat (.int x)) st = .ok (.dat (.int (2 * x))) st := fun x st => mulI_l (upto_of (by omega) (by omega))
    unfold gD
    rw [mkG_gv hR]
    cases even with
    | true =>
      simp only [if_true] at hrn hcn
      simp [F__law_life, mkFn, c__law_life, mkEv, e1', e2', m2a, hrn, hcn, hrr, hfr, wipeE, e3, asF, hmk, asRet, gridD]
    | false =>
      simp only [Bool.false_eq_true, if_false] at hrn hcn
      simp [F__law_life, mkFn, c__law_life, mkEv, e1', e2', hrn, hcn, hrr, hfr, wipeE, e3, asF, hmk, asRet, gridD]
  · obtain ⟨row, e, l⟩ := hR.at hi
    have hm := (r3 row (List.mem_of_getElem? e)).2
    have : gv ys i j = row[j]'(by omega) := by
      simp only [gv, List.getD_eq_getElem?_getD, e, Option.getD_some]
      rw [List.getElem?_eq_getElem (by omega)]
      rfl
    rw [this]
    exact hm _ (List.getElem_mem _)
end Sk

set_option maxHeartbeats 1000000
/-! Sk, part 62: rules drawn; a turn of a grid that was turned, moved, or told the other way. -/
namespace Sk
open PySem PySem.Spec PyProof.Rows L2 GxR
/-! ### rules as sieves -/
def rl (p : Nat → Bool) : List Int := ((List.range 9).filter p).map fun k : Nat => (k : Int)
theorem mem_rl {p : Nat → Bool} {k : Nat} : (k : Int) ∈ rl p ↔ k < 9 ∧ p k = true := by
  simp only [rl, List.mem_map, List.mem_filter, List.mem_range]
  constructor
  · rintro ⟨a, h, e⟩
    rw [show k = a by omega]
    exact h
  · exact fun h => ⟨k, h, rfl⟩
theorem rl_ext {p q : Nat → Bool} (h : ∀ k, k < 9 → p k = q k) : rl p = rl q := by
  unfold rl
  congr 1
  exact List.filter_congr fun k hk => h k (by simpa using hk)
theorem rl_up (p : Nat → Bool) : (rl p).Pairwise (· < ·) := by
  unfold rl
  rw [List.pairwise_map]
  have h : (List.range 9).Pairwise (· < ·) := List.pairwise_lt_range
  exact (h.filter p).imp fun h => by omega
theorem rl_ok (p : Nat → Bool) : RowOk (rl p) where
  bd := fun x hx => by
    simp only [rl, List.mem_map, List.mem_filter, List.mem_range] at hx
    obtain ⟨a, h, rfl⟩ := hx
    omega
  up := fun k hk => by
    have h := List.pairwise_iff_getElem.mp (rl_up p) k (k + 1) (by omega) hk (by omega)
    have e1 := vl_at (List.getElem?_eq_getElem (show k < (rl p).length by omega))
    have e2 := vl_at (List.getElem?_eq_getElem hk)
    rw [e1, e2]
    exact h
  len := by
    have := List.length_filter_le p (List.range 9)
    simp only [rl, List.length_map]
    simp only [List.length_range] at this
    omega
theorem compL_sift {α : Type} [DecidableEq α] {f : Va → Ev → Sto → Rs (Option Va)} {ev : Ev} {h G : α → Va} {P : Sto → Prop} : ∀ {xs : List α} {st : Sto}, xs.Nodup → (∀ a ∈ xs, ∀ st, P st → ∃ (b : Bool) (st' : Sto), f (h a) ev st = .ok (if b = true then some (G a) else none) st' ∧ P st') → P st →
    ∃ (p : α → Bool) (st' : Sto), compL none f (xs.map h) ev st = .ok ((xs.filter p).map G) st' ∧ P st'
  | [], st, _, _, hp => ⟨fun _ => true, st, by simp [compL], hp⟩
  | a :: s, st, hn, hf, hp => by
    rw [List.nodup_cons] at hn
    obtain ⟨b, st1, e1, p1⟩ := hf a (by simp) st hp
    obtain ⟨p, st2, e2, p2⟩ := compL_sift (xs := s) hn.2 (fun b hb => hf b (List.mem_cons_of_mem _ hb)) p1
    refine ⟨fun x => if x = a then b else p x, st2, ?_, p2⟩
    have hs : s.filter (fun x => if x = a then b else p x) = s.filter p := List.filter_congr fun x hx => by
      rw [if_neg]
      rintro rfl
      exact hn.1 hx
    simp only [List.map_cons, compL, lkOk_none, if_true, e1, Rs.bind_ok, e2, List.filter_cons, hs]
    cases b with
    | true => simp [consO]
    | false => simp [consO]
theorem rule_draw {D n : Nat} {st : Sto} (h : Dic D st) (hn : n < D) : ∃ (p q : Nat → Bool) (st' : Sto), callO F__law_rule 1 [.ref n] st = .ok (.dat (ruleD (rl p, rl q))) st' ∧ Dic D st' ∧ Kp D st st' := by
  have f9 : few 9 = true := few_lit (by omega)
  have rg : ∀ st, rangeV [.dat (.int 9)] st = .ok (((List.range 9).map fun i : Nat => Va.dat (.int (i : Int))), none) st := fun st => rangeV_1 (n := 9) (st := st) (by omega)
  have step : ∀ (o1 : Option Va) (a : Nat) (s : Sto), (Dic D s ∧ Kp D st s) → ∃ (b : Bool) (s' : Sto), Sk.compTurn (gN 2) (dTest (dBin eqV (dCallO F__law_roll 2 (dCons (dVar 0) (dCons (dC (.int 3)) dNil))) (dC (.int 0)))) (dVar 2) (.dat (.int (a : Int))) [some (.ref n), o1, none] s = .ok (if b = true then some (.dat (.int (a : Int))) else none) s' ∧ (Dic D s' ∧ Kp D st s') := fun o1 a s hs => by
    obtain ⟨z, s', z1, z2, ez, dz, kz⟩ := roll_dic (m := 3) hs.1 hn (by omega) (by omega)
    refine ⟨decide (z = 0), s', ?_, dz, hs.2.trans kz⟩
    by_cases h0 : z = 0
    · subst h0
      simp [Sk.compTurn, ez]
    · simp [Sk.compTurn, ez, h0]
  obtain ⟨p, st1, e1, d1⟩ := compL_sift (f := Sk.compTurn (gN 2) (dTest (dBin eqV (dCallO F__law_roll 2 (dCons (dVar 0) (dCons (dC (.int 3)) dNil))) (dC (.int 0)))) (dVar 2)) (ev := [some (.ref n), none, none]) (h := fun i : Nat => Va.dat (.int (i : Int))) (G := fun i : Nat => Va.dat (.int (i : Int))) (P := fun s => Dic D s ∧ Kp D st s) (xs := List.range 9) (st := st) List.nodup_range (fun a _ s hs => step none a s hs) ⟨h, Kp.refl _ _⟩
  obtain ⟨q, st2, e2, d2⟩ := compL_sift (f := Sk.compTurn (gN 2) (dTest (dBin eqV (dCallO F__law_roll 2 (dCons (dVar 0) (dCons (dC (.int 3)) dNil))) (dC (.int 0)))) (dVar 2)) (ev := [some (.ref n), some (.dat (rowD (rl p))), none]) (h := fun i : Nat => Va.dat (.int (i : Int))) (G := fun i : Nat => Va.dat (.int (i : Int))) (P := fun s => Dic D s ∧ Kp D st s) (xs := List.range 9) (st := st1) List.nodup_range (fun a _ s hs => step _ a s hs) d1
  refine ⟨p, q, st2, ?_, d2.1, d2.2⟩
  refine (callO_eq (n := 1) rfl).trans ?_
  have mk : ∀ p : Nat → Bool, mkL (((List.range 9).filter p).map fun i : Nat => Va.dat (.int (i : Int))) = .dat (.list ((rl p).map .int)) := fun p => by
    rw [mkL_fun (fun i : Nat => PyData.int (i : Int))]
    simp [rl, Function.comp_def]
  have tp : ∀ p st, tupleV [.dat (.list ((rl p).map .int))] st = .ok (.dat (rowD (rl p))) st := fun p st => by simp [rowD]
  have f9 : few ((List.range 9).map fun i : Nat => Va.dat (.int (i : Int))).length = true := by simpa using f9
  generalize (List.range 9).map (fun i : Nat => Va.dat (.int (i : Int))) = Z at *
  simp [F__law_rule, mkFn, c__law_rule, mkEv, rg, f9, wipeE, e1, asF, mk, tp, -tupleV_l]
  simp only [rowD] at e2
  simp [e2, mk, asF, rowD, ruleD, asRet]
/-! ### turned about -/
def abt (p : Nat → Bool) : Nat → Bool := fun k => !p (8 - k)
theorem abt_abt (p : Nat → Bool) : rl (abt (abt p)) = rl p := rl_ext fun k hk => by
  unfold abt
  rw [Bool.not_not, show 8 - (8 - k) = k by omega]
theorem abt_sort (q : Nat → Bool) : sortI (((List.range 9).filter fun k => !q k).map fun k : Nat => (8 : Int) - k) = rl (abt q) := by
  refine (sortI_eq ?_ ((rl_up _).imp fun h => Int.le_of_lt h)).symm
  have h9 : (List.range 9).reverse = (List.range 9).map fun k => 8 - k := by decide
  have e : rl (abt q) = (((List.range 9).filter fun k => !q k).map fun k : Nat => (8 : Int) - k).reverse := by
    rw [← List.map_reverse, ← List.filter_reverse, h9, List.filter_map, List.map_map]
    unfold rl
    refine List.map_congr_left fun k hk => ?_
    have : k < 9 := by
      have := (List.mem_filter.mp hk).1
      simpa using this
    simp only [Function.comp_apply]
    omega
  rw [e]
  exact List.reverse_perm _
/-! ### the same elsewhere -/
section
variable {r c : Nat} {f : Gr} {R : Rl} {w : Bool} {i j : Nat}
theorem wr_back {n : Nat} (hn : 0 < n) (x : Int) : wr n ((n : Int) - 1 - x) = n - 1 - wr n x := by
  obtain ⟨h1, h2⟩ := wr_lt hn x
  obtain ⟨h3, h4⟩ := wr_lt hn ((n : Int) - 1 - x)
  have e1 := Int.emod_add_mul_ediv x n
  have e2 : ((n : Int) - 1 - x) % n = n - 1 - x % n := by
    have e3 : (n : Int) - 1 - x = (n - 1 - x % n) + n * (-(x / n)) := by
      rw [Int.mul_neg]
      omega
    rw [e3, Int.add_mul_emod_self_left]
    exact Int.emod_eq_of_lt (by omega) (by omega)
  omega
theorem wr_add {n : Nat} (hn : 0 < n) (x y : Int) : wr n ((wr n x : Nat) + y) = wr n (x + y) := by
  rw [(wr_lt hn x).2]
  unfold wr
  rw [Int.emod_add_emod]
theorem nbv_mir (hi : i < r) (hj : j < c) (d a : Int) : nbv w r c (mir c f) i j (d, a) = nbv w r c f i (c - 1 - j) (d, -a) := by
  have e := wr_back (n := c) (by omega) ((j : Int) + a)
  have e2 : ((c - 1 - j : Nat) : Int) + -a = (c : Int) - 1 - (j + a) := by omega
  have e3 : inGr r c ((i : Int) + d) ((c : Int) - 1 - (j + a)) = inGr r c ((i : Int) + d) ((j : Int) + a) := by
    unfold inGr
    rw [Bool.eq_iff_iff]
    simp
    omega
  unfold nbv
  simp only [e2, e3, e]
  rfl
theorem nbv_trn (hi : i < c) (hj : j < r) (d a : Int) : nbv w c r (trn r f) i j (d, a) = nbv w r c f (r - 1 - j) i (-a, d) := by
  have e := wr_back (n := r) (by omega) ((j : Int) + a)
  have e2 : ((r - 1 - j : Nat) : Int) + -a = (r : Int) - 1 - (j + a) := by omega
  have e3 : inGr r c ((r : Int) - 1 - (j + a)) ((i : Int) + d) = inGr c r ((i : Int) + d) ((j : Int) + a) := by
    unfold inGr
    rw [Bool.eq_iff_iff]
    simp
    omega
  unfold nbv
  simp only [e2, e3, e]
  rfl
theorem cnt_mir (hi : i < r) (hj : j < c) : cnt w r c (mir c f) i j = cnt w r c f i (c - 1 - j) := by
  simp [cnt, eights, nbv_mir hi hj]
  omega
theorem cnt_trn (hi : i < c) (hj : j < r) : cnt w c r (trn r f) i j = cnt w r c f (r - 1 - j) i := by
  simp [cnt, eights, nbv_trn hi hj]
  omega
theorem cnt_mvd (hi : i < r) (hj : j < c) (dn al : Int) : cnt true r c (mvd r c dn al f) i j = cnt true r c f (wr r ((i : Int) - dn)) (wr c ((j : Int) - al)) := by
  have k1 : ∀ d : Int, wr r ((wr r ((i : Int) - dn) : Nat) + d) = wr r ((i : Int) - dn + d) := fun d => wr_add (by omega) _ _
  have k2 : ∀ d : Int, wr c ((wr c ((j : Int) - al) : Nat) + d) = wr c ((j : Int) - al + d) := fun d => wr_add (by omega) _ _
  have k3 : ∀ d : Int, wr r ((wr r ((i : Int) + d) : Nat) - dn) = wr r ((i : Int) - dn + d) := fun d => by
    have := wr_add (n := r) (by omega) ((i : Int) + d) (-dn)
    rw [Int.sub_eq_add_neg, this]
    congr 1
    omega
  have k4 : ∀ d : Int, wr c ((wr c ((j : Int) + d) : Nat) - al) = wr c ((j : Int) - al + d) := fun d => by
    have := wr_add (n := c) (by omega) ((j : Int) + d) (-al)
    rw [Int.sub_eq_add_neg, this]
    congr 1
    omega
  have hp : ∀ p : Int × Int, nbv true r c (mvd r c dn al f) i j p = nbv true r c f (wr r ((i : Int) - dn)) (wr c ((j : Int) - al)) p := fun p => by
    unfold nbv
    simp only [Bool.true_or, if_true, k1, k2]
    show f (wr r ((wr r ((i : Int) + p.1) : Nat) - dn)) (wr c ((wr c ((j : Int) + p.2) : Nat) - al)) = _
    rw [k3, k4]
  unfold cnt
  congr 1
  exact List.map_congr_left fun p _ => hp p
theorem stp_mir (hi : i < r) (hj : j < c) : stp w R r c (mir c f) i j = mir c (stp w R r c f) i j := by
  show stp w R r c (mir c f) i j = stp w R r c f i (c - 1 - j)
  unfold stp
  rw [cnt_mir hi hj]
  rfl
theorem stp_trn (hi : i < c) (hj : j < r) : stp w R c r (trn r f) i j = trn r (stp w R r c f) i j := by
  show stp w R c r (trn r f) i j = stp w R r c f (r - 1 - j) i
  unfold stp
  rw [cnt_trn hi hj]
  rfl
theorem stp_mvd (hi : i < r) (hj : j < c) (dn al : Int) : stp true R r c (mvd r c dn al f) i j = mvd r c dn al (stp true R r c f) i j := by
  show stp true R r c (mvd r c dn al f) i j = stp true R r c f (wr r ((i : Int) - dn)) (wr c ((j : Int) - al))
  unfold stp
  rw [cnt_mvd hi hj]
  rfl
def oth (f : Gr) : Gr := fun i j => 1 - f i j
theorem nbv_bit (hb : Bit r c f) (r1 : 1 ≤ r) (c1 : 1 ≤ c) (p : Int × Int) : 0 ≤ nbv w r c f i j p ∧ nbv w r c f i j p ≤ 1 := by
  unfold nbv
  have := hb (wr r ((i : Int) + p.1)) (wr c ((j : Int) + p.2)) (wr_lt (by omega) _).1 (wr_lt (by omega) _).1
  split <;> omega
theorem cnt_bd (hb : Bit r c f) (r1 : 1 ≤ r) (c1 : 1 ≤ c) : 0 ≤ cnt w r c f i j ∧ cnt w r c f i j ≤ 8 := by
  have h := fun p => nbv_bit (w := w) (i := i) (j := j) hb r1 c1 p
  simp only [cnt, eights, List.map_cons, List.map_nil, List.sum_cons, List.sum_nil]
  have h1 := h (-1, -1)
  have h2 := h (-1, 0)
  have h3 := h (-1, 1)
  have h4 := h (0, -1)
  have h5 := h (0, 1)
  have h6 := h (1, -1)
  have h7 := h (1, 0)
  have h8 := h (1, 1)
  omega
theorem cnt_cor (hb : Bit r c f) (r1 : 1 ≤ r) (c1 : 1 ≤ c) : cnt false r c f 0 0 ≤ 3 := by
  have h := fun p => nbv_bit (w := false) (i := 0) (j := 0) hb r1 c1 p
  have z : ∀ p : Int × Int, (p.1 < 0 ∨ p.2 < 0) → nbv false r c f 0 0 p = 0 := fun p hp => by
    unfold nbv
    rw [if_neg]
    unfold inGr
    simp
    omega
  simp only [cnt, eights, List.map_cons, List.map_nil, List.sum_cons, List.sum_nil]
  have h1 := z (-1, -1) (by simp)
  have h2 := z (-1, 0) (by simp)
  have h3 := z (-1, 1) (by simp)
  have h4 := z (0, -1) (by simp)
  have h5 := h (0, 1)
  have h6 := z (1, -1) (by simp)
  have h7 := h (1, 0)
  have h8 := h (1, 1)
  omega
theorem cnt_oth (i j : Nat) : cnt true r c (oth f) i j = 8 - cnt true r c f i j := by
  simp [cnt, eights, nbv, oth]
  omega
theorem oth_bit (hb : Bit r c f) : Bit r c (oth f) := fun i j hi hj => by
  unfold oth
  rcases hb i j hi hj with h | h <;> rw [h] <;> omega
theorem stp_oth {p q : Nat → Bool} (hb : Bit r c f) (hi : i < r) (hj : j < c) : stp true (rl (abt q), rl (abt p)) r c (oth f) i j = oth (stp true (rl p, rl q) r c f) i j := by
  obtain ⟨b1, b2⟩ := cnt_bd (w := true) (i := i) (j := j) hb (by omega) (by omega)
  obtain ⟨n, hn⟩ : ∃ n : Nat, cnt true r c f i j = n := ⟨(cnt true r c f i j).toNat, by omega⟩
  have hm : ∀ p : Nat → Bool, (8 - (n : Int)) ∈ rl (abt p) ↔ ¬ (n : Int) ∈ rl p := fun p => by
    rw [show (8 : Int) - n = ((8 - n : Nat) : Int) by omega, mem_rl, mem_rl]
    unfold abt
    rw [show 8 - (8 - n) = n by omega]
    cases p n <;> simp <;> omega
  show _ = 1 - stp true (rl p, rl q) r c f i j
  unfold stp
  rw [cnt_oth, hn]
  show (if 8 - (n : Int) ∈ (if 1 - f i j = 0 then rl (abt q) else rl (abt p)) then (1 : Int) else 0) = 1 - (if (n : Int) ∈ (if f i j = 0 then rl p else rl q) then 1 else 0)
  rcases hb i j hi hj with h | h
  · rw [h, if_neg (show ¬ ((1 : Int) - 0 = 0) by omega), if_pos rfl]
    by_cases hh : (n : Int) ∈ rl p
    · rw [if_pos hh, if_neg (fun z => (hm p).mp z hh)]
      rfl
    · rw [if_neg hh, if_pos ((hm p).mpr hh)]
      rfl
  · rw [h, if_pos (show (1 : Int) - 1 = 0 by omega), if_neg (show ¬ ((1 : Int) = 0) by omega)]
    by_cases hh : (n : Int) ∈ rl q
    · rw [if_pos hh, if_neg (fun z => (hm q).mp z hh)]
      rfl
    · rw [if_neg hh, if_pos ((hm q).mpr hh)]
      rfl
end
end Sk

set_option maxHeartbeats 1000000
/-! Sk, part 63: zip. -/
namespace Sk
open PySem PySem.Spec PyProof.Rows L2 GxR
def zipL : List Va → List Va → List Va
  | x :: r, y :: s => mkT [x, y] :: zipL r s
  | _, _ => []
theorem zipL_len : ∀ xs ys : List Va, (zipL xs ys).length = min xs.length ys.length
  | [], _ => by simp [zipL]
  | _ :: _, [] => by simp [zipL]
  | x :: r, y :: s => by
    simp only [zipL, List.length_cons, zipL_len r s]
    omega
theorem zipL_get : ∀ (xs ys : List Va) (i : Nat) (x y : Va), xs[i]? = some x → ys[i]? = some y → (zipL xs ys)[i]? = some (mkT [x, y])
  | [], _, i, x, y, h, _ => by simp at h
  | _ :: _, [], i, x, y, _, h => by simp at h
  | a :: r, b :: s, 0, x, y, h, k => by
    simp at h k
    subst h
    subst k
    rfl
  | a :: r, b :: s, i + 1, x, y, h, k => by
    simp at h k
    simp only [zipL, List.getElem?_cons_succ]
    exact zipL_get r s i x y h k
theorem zipL_map {α : Type} (f g : α → Va) : ∀ xs : List α, zipL (xs.map f) (xs.map g) = xs.map fun a => mkT [f a, g a]
  | [] => rfl
  | a :: r => by
    simp only [List.map_cons, zipL, zipL_map f g r]
def zipV (zs : List Va) (st : Sto) : Rs (List Va × Lk) := match zs with
  | [x, y] => (match seqOf st x, seqOf st y with
    | some (t, xs), some (t', ys) => if t = t' then (match lockOf x xs with
      | none => .ok (zipL xs ys, lockOf y ys) st
      | some _ => .bad) else .bad
    | _, _ => .bad)
  | _ => .bad
def dZip (c : CA) : CI := fun ev st => (c ev st).bind zipV
section
variable {X : Cx} {C : Cfg} {W : WX}
theorem it_zip {M0 : Addr → Prop} {m : List Addr} {H : Hp} {st : Sto} {x y : Va} {t : Bool} {xs ys : List Va} {a b : Addr} (rh : RH C M0 m H st) (rx : RV C H (Mx M0 m) m (.ref a) x) (ry : RV C H (Mx M0 m) m (.ref b) y) (ex : seqOf st x = some (t, xs)) (ey : seqOf st y = some (t, ys)) (lx : lockOf x xs = none) :
    ItRel C M0 H m (if t = true then RZ.ItzT C.K a b else Itz C.K a b) (zipL xs ys, lockOf y ys) := by
  intro M1 m1 H1 st1 g hM rh1 hl i
  obtain ⟨a', us, ea, rus, su⟩ := seqOf_rel rh1 (rx.goM g rh.mu hM) (seq_later ex (by rw [lx]; rfl))
  obtain ⟨b', vs, eb, rvs, sv⟩ := seqOf_rel rh1 (ry.goM g rh.mu hM) (seq_later ey hl)
  cases ea
  cases eb
  have hlen1 := rus.len
  have hlen2 := rvs.len
  have key : ∀ (T : Addr) (u v : V) (z1 z2 : Va), H1 T = none → RV C H1 (Mx M1 m1) m1 u z1 → RV C H1 (Mx M1 m1) m1 v z2 → xs[i]? = some z1 → ys[i]? = some z2 → Same H1 (upd H1 T (.tup [u, v])) ∧ ∃ y, (zipL xs ys)[i]? = some y ∧ RV C (upd H1 T (.tup [u, v])) (Mx M1 m1) m1 (.ref T) y := by
    intro T u v z1 z2 hT r1 r2 e1 e2
    have sm : Same H1 (upd H1 T (.tup [u, v])) := same_new hT
    exact ⟨sm, _, zipL_get xs ys i z1 z2 e1 e2, RV.mkT upd_same (.cons (r1.go (Go.same sm) rh1.mu) (.cons (r2.go (Go.same sm) rh1.mu) .nil))⟩
  refine ⟨fun hi => ?_, fun hi => ?_⟩
  · have hi : i < min xs.length ys.length := by rw [← zipL_len xs ys]; exact hi
    have h1 : i < xs.length := by omega
    have h2 : i < ys.length := by omega
    obtain ⟨u, hu, ru⟩ := rus.get (List.getElem?_eq_getElem h1)
    obtain ⟨v, hv, rv⟩ := rvs.get (List.getElem?_eq_getElem h2)
    cases t with
    | true =>
      refine ⟨⟨us, vs, u, v, su, sv, hu, hv⟩, fun y H2 hy => ?_⟩
      obtain ⟨T, w1, w2, rfl, hT, rfl, hy1, hy2⟩ := hy
      have e1 := hy1 us su
      have e2 := hy2 vs sv
      rw [hu] at e1
      rw [hv] at e2
      cases e1
      cases e2
      exact key T _ _ _ _ hT ru rv (List.getElem?_eq_getElem h1) (List.getElem?_eq_getElem h2)
    | false =>
      refine ⟨⟨us, vs, u, v, su, sv, hu, hv⟩, fun y H2 hy => ?_⟩
      obtain ⟨T, w1, w2, rfl, hT, rfl, hy1, hy2⟩ := hy
      have e1 := hy1 us su
      have e2 := hy2 vs sv
      rw [hu] at e1
      rw [hv] at e2
      cases e1
      cases e2
      exact key T _ _ _ _ hT ru rv (List.getElem?_eq_getElem h1) (List.getElem?_eq_getElem h2)
  · have hi : min xs.length ys.length ≤ i := by rw [← zipL_len xs ys]; exact hi
    cases t with
    | true => exact ⟨us, vs, su, sv, by omega⟩
    | false => exact ⟨us, vs, su, sv, by omega⟩
variable {e e2 : Expr} {cs : CA} {p pos tpos : Pos} {elts : List Expr} {kk : Nat}
theorem fi_zip (hK : X.K = C.K) (hg : Gl X "zip") (hm : X.mg "zip" = none) (ha : PA X [e, e2] (tA C W cs)) (hs : starEach [e, e2] X.env = (false, eval e X.env) :: starEach [e2] X.env := by rfl) (hpl : (backTo pos (starEach [e2] X.env)).any (·.1) = false := by rfl) :
    PI X (.Tuple elts kk tpos) (.Call (.Name "zip" p) [e, e2] [] pos) (tI C W (dZip cs)) := by
  refine PI.imp (RZ.pi_zipA hg hm ha hs hpl) fun s H R h => tG.bind (R := relVs) (k := fun xs _ st => zipV xs st) h fun M0 m ev st xs vs H1 rh re rs fin => ?_
  unfold zipV at fin
  split at fin
  · obtain ⟨v1, v2, rfl, rv1, rv2⟩ := rs.two
    split at fin
    · rename_i t us t' ws hs1 hs2
      split at fin
      · rename_i htt
        subst htt
        split at fin
        · rename_i hlk
          obtain ⟨a, us', rfl, ru, sq1⟩ := seqOf_rel rh rv1 hs1
          obtain ⟨b, ws', rfl, rw', sq2⟩ := seqOf_rel rh rv2 hs2
          have q := FinG.out (R := relI C M0) fin rh (it_zip rh rv1 rv2 hs1 hs2 hlk)
          rw [hK]
          refine ⟨a, b, us', ws', rfl, ?_⟩
          cases t with
          | true => exact .inr ⟨sq1, sq2, q⟩
          | false => exact .inl ⟨sq1, sq2, q⟩
        · exact fin.elim
      · exact fin.elim
    · exact fin.elim
  · exact fin.elim
@[simp] theorem eZip {ev : Ev} {st : Sto} (r : CA) : dZip r ev st = (r ev st).bind zipV := rfl
end
end Sk

set_option maxHeartbeats 1000000
/-! Sk, part 64: grids joined cell by cell. -/
namespace Sk
open PySem PySem.Spec PyProof.Rows L2 GxR
def c_check_alike : CS :=
    (dIfS (dOrT (dTest (dBin neV (dCallB lenV (dCons (dVar 0) dNil)) (dCallB lenV (dCons (dVar 1) dNil)))) (dTest (dBin neV (dCallB lenV (dCons (dBin ixV (dVar 0) (dC (.int 0))) dNil)) (dCallB lenV (dCons (dBin ixV (dVar 1) (dC (.int 0))) dNil))))) (dRaise 1) dSkip)
def F_check_alike : Fn := mkFn 2 c_check_alike
def c_joined (L : Fn) : CS :=
    (dSeq (dDo (dCallP F_check_alike 2 (dCons (dVar 0) (dCons (dVar 1) dNil))))
    (dRet (dCallB tupleV (dCons (dComp asF (dZip (dCons (dVar 0) (dCons (dVar 1) dNil))) [5, 6] (gTp 2 (gsCons (gN 5) (gsCons (gN 6) gsNil))) dYes (dCallB tupleV (dCons (dComp asF (dZip (dCons (dVar 5) (dCons (dVar 6) dNil))) [3, 4] (gTp 2 (gsCons (gN 3) (gsCons (gN 4) gsNil))) dYes (dCallL L 2 (dCons (dVar 3) (dCons (dVar 4) dNil)))) dNil))) dNil))))
def F_joined (L : Fn) : Fn := mkFn 7 (c_joined L)
theorem capE_at (caps : List Nat) : ∀ (k : Nat) (ev : Ev) (i : Nat), caps.contains (k + i) = true → (capE caps k ev)[i]? = ev[i]?
  | _, [], _, _ => rfl
  | k, o :: r, 0, h => by
    rw [Nat.add_zero] at h
    simp only [capE, h, if_true, List.getElem?_cons_zero]
  | k, o :: r, i + 1, h => by
    simp only [capE, List.getElem?_cons_succ]
    exact capE_at caps (k + 1) r i (by rw [show k + 1 + i = k + (i + 1) by omega]; exact h)
theorem datE_cap (caps : List Nat) : ∀ (k : Nat) (ev : Ev), (∀ i, caps.contains (k + i) = true → ∀ v, ev[i]? = some (some v) → ∃ d, v = .dat d) → datE (capE caps k ev) = true
  | _, [], _ => rfl
  | k, o :: r, h => by
    have ih := datE_cap caps (k + 1) r fun i hi v hv => h (i + 1) (by rw [← hi]; congr 1; omega) v (by simpa using hv)
    unfold capE
    by_cases hc : caps.contains k = true
    · rw [if_pos hc]
      cases o with
      | none => exact ih
      | some v =>
        obtain ⟨d, rfl⟩ := h 0 (by simpa using hc) v rfl
        exact ih
    · rw [if_neg hc]
      exact ih
theorem datE_0 (k : Nat) (ev : Ev) : datE (capE [] k ev) = true := datE_cap [] k ev fun i hi => by simp at hi
theorem natNe (a b : Nat) (st : Sto) : neV (.dat (.int (a : Int))) (.dat (.int (b : Int))) st = .ok (.dat (.bool (!decide (a = b)))) st := by
  rw [neV_i]
  congr 3
  rw [Bool.eq_iff_iff]
  simp
  omega
theorem alike_D {r c r2 c2 : Nat} {f g : Gr} (r1 : 1 ≤ r) (q1 : 1 ≤ r2) (st : Sto) : callP F_check_alike 2 [.dat (gD r c f), .dat (gD r2 c2 g)] st = if r = r2 ∧ c = c2 then .ok (.dat .none) st else .err ⟨1, none⟩ st := by
  have a1 := gD_at0 (c := c) (f := f) ([] : Sto) r1
  have a2 := gD_at0 (c := c2) (f := g) ([] : Sto) q1
  have n1 := natNe r r2 []
  have n2 := natNe c c2 []
  by_cases h1 : r = r2
  · subst h1
    by_cases h2 : c = c2
    · subst h2
      rw [if_pos ⟨rfl, rfl⟩]
      refine callP_2 (s2 := []) ?_
      simp [F_check_alike, mkFn, c_check_alike, mkEv, a1, a2, asRet]
    · rw [if_neg (fun z => h2 z.2)]
      refine callP_e2 (s2 := []) ?_
      have h3 : ¬ ((c : Int) = c2) := by omega
      simp [F_check_alike, mkFn, c_check_alike, mkEv, a1, a2, h3]
  · rw [if_neg (fun z => h1 z.1)]
    refine callP_e2 (s2 := []) ?_
    have h3 : ¬ ((r : Int) = r2) := by omega
    simp [F_check_alike, mkFn, c_check_alike, mkEv, h3]
theorem zip_D {r c : Nat} {f g : Gr} (st : Sto) : zipV [.dat (gD r c f), .dat (gD r c g)] st = .ok ((List.range r).map (fun i : Nat => Va.dat (.tuple [rD c (f i), rD c (g i)])), none) st := by
  have e1 : seqOf st (.dat (gD r c f)) = some (true, (List.range r).map fun i => .dat (rD c (f i))) := by
    rw [gD_eq]
    simp [seqOf, Function.comp_def]
  have e2 : seqOf st (.dat (gD r c g)) = some (true, (List.range r).map fun i => .dat (rD c (g i))) := by
    rw [gD_eq]
    simp [seqOf, Function.comp_def]
  simp only [zipV, e1, e2, if_true, lockOf_dat, zipL_map]
  rfl
theorem zip_r {c : Nat} {f g : Nat → Int} (st : Sto) : zipV [.dat (rD c f), .dat (rD c g)] st = .ok ((List.range c).map (fun i : Nat => Va.dat (.tuple [.int (f i), .int (g i)])), none) st := by
  have e1 : seqOf st (.dat (rD c f)) = some (true, (List.range c).map fun i => .dat (.int (f i))) := by
    rw [rD_eq]
    simp [seqOf, Function.comp_def]
  have e2 : seqOf st (.dat (rD c g)) = some (true, (List.range c).map fun i => .dat (.int (g i))) := by
    rw [rD_eq]
    simp [seqOf, Function.comp_def]
  simp only [zipV, e1, e2, if_true, lockOf_dat, zipL_map]
  rfl
theorem joined_D {r c : Nat} {f g h : Gr} {L : Fn} (r1 : 1 ≤ r) (hr : r ≤ 1000) (hc : c ≤ 1000) (hL : ∀ i j : Nat, i < r → j < c → L [.dat (.int (f i j)), .dat (.int (g i j))] [] = .ok (.dat (.int (h i j))) []) : F_joined L [.dat (gD r c f), .dat (gD r c g), .fn 0] [] = .ok (.dat (gD r c h)) [] := by
  have e0 := alike_D (c := c) (c2 := c) (f := f) (g := g) r1 r1 []
  rw [if_pos ⟨rfl, rfl⟩] at e0
  have fr : few r = true := few_lit (by omega)
  have fc : few c = true := few_lit (by omega)
  simp [F_joined, mkFn, c_joined, mkEv, e0, zip_D, fr, wipeE]
  rw [compL_map (G := fun i : Nat => .dat (rD c (h i)))]
  rotate_left
  · intro i hi
    have hi : i < r := by simpa using hi
    simp [Sk.compTurn, zip_r, fc, wipeE]
    rw [compL_map (G := fun j : Nat => .dat (.int (h i j)))]
    rotate_left
    · intro j hj
      have hj : j < c := by simpa using hj
      simp [Sk.compTurn, hL i j hi hj]
    simp [asF, mkL_fun (fun j : Nat => PyData.int (h i j)), rD_eq]
  simp [asF, mkL_fun (fun i : Nat => rD c (h i)), asRet, gD_eq]
theorem joined_bad {r c r2 c2 : Nat} {f g : Gr} {L : Fn} (r1 : 1 ≤ r) (q1 : 1 ≤ r2) (h : ¬ (r = r2 ∧ c = c2)) : F_joined L [.dat (gD r c f), .dat (gD r2 c2 g), .fn 0] [] = .err ⟨1, none⟩ [] := by
  have e0 := alike_D (c := c) (c2 := c2) (f := f) (g := g) r1 q1 []
  rw [if_neg h] at e0
  simp [F_joined, mkFn, c_joined, mkEv, e0]
end Sk

set_option maxHeartbeats 1000000
/-! Sk, part 65: a list that may change, added to another. -/
namespace Sk
open PySem PySem.Spec PyProof.Rows L2 GxR
def addR (x y : Va) (st : Sto) : Rs Va := match x, y with
  | .dat (.list i), .ref n => (match st[n]? with
    | some (some (.lst ys)) => if few (i.length + ys.length) = true then .ok (mkL (i.map .dat ++ ys)) st else .bad
    | _ => .bad)
  | .ref n, .dat (.list j) => (match st[n]? with
    | some (some (.lst ys)) => if few (ys.length + j.length) = true then .ok (mkL (ys ++ j.map .dat)) st else .bad
    | _ => .bad)
  | x, y => addV x y st
theorem os_addR {C : Cfg} : OpS C (rAddX C.K) addR := by
  intro M0 m H st v u x y E Q rh rx ry fin
  unfold addR at fin
  split at fin
  · rename_i i n
    split at fin
    · rename_i ys hx
      obtain ⟨hk, fin⟩ := Fin.ifGo fin
      obtain ⟨a, vs, rfl, h1, n1, r1⟩ := rx.lst_inv
      cases ry with
      | @ref _ b hn =>
        obtain ⟨b', hb, us, hv, rs⟩ := rh.ob n _ hx
        rw [hn] at hb
        cases hb
        refine .inr (.inr (.inr ⟨a, b, vs, us, rfl, rfl, h1, hv, by rw [r1.len, rs.len]; exact few_le hk, fun p hp => ?_⟩))
        exact Fin.newF fin rh hp (r1.rvs.append rs)
    · exact fin.elim
  · rename_i n j
    split at fin
    · rename_i ys hx
      obtain ⟨hk, fin⟩ := Fin.ifGo fin
      obtain ⟨a, vs, rfl, h1, n1, r1⟩ := ry.lst_inv
      cases rx with
      | @ref _ b hn =>
        obtain ⟨b', hb, us, hv, rs⟩ := rh.ob n _ hx
        rw [hn] at hb
        cases hb
        refine .inr (.inr (.inr ⟨b, a, us, vs, rfl, rfl, hv, h1, by rw [r1.len, rs.len]; exact few_le hk, fun p hp => ?_⟩))
        exact Fin.newF fin rh hp (rs.append r1.rvs)
    · exact fin.elim
  · exact os_add M0 m H st v u _ _ E Q rh rx ry fin
theorem addR_r {ds : List PyData} {n : Nat} {es : List PyData} {st : Sto} (h : st[n]? = some (some (.lst (es.map .dat)))) (hl : ds.length + es.length ≤ 10000000) : addR (.dat (.list ds)) (.ref n) st = .ok (.dat (.list (ds ++ es))) st := by
  have e : mkL (ds.map Va.dat ++ es.map Va.dat) = .dat (.list (ds ++ es)) := by rw [← List.map_append, mkL_map]
  have f : few (ds.length + (es.map Va.dat).length) = true := few_lit (by simpa using hl)
  simp only [addR, h, f, if_true, e]
end Sk

set_option maxHeartbeats 1000000
/-! Sk, part 66: a list's item taken out by its value; a new dict; d.get. -/
namespace Sk
open PySem PySem.Spec PyProof.Rows L2 GxR
/-! ### l.remove(x), x data -/
def rRemD (K : PySem.W.Frag) : V → List V → Hp → VK → Prop := fun x xs H Q => ∃ (l : Addr) (us : List V) (y : V) (d : PyData) (ds : List PyData) (j : Nat), x = .ref l ∧ xs = [y] ∧ H l = some (.lst us) ∧ DpAll K H us ds ∧ Dp K H y d ∧
  PyData.plainAll ds = true ∧ d.plain = true ∧ d.depth ≤ 60 ∧ SeqAt.dataPlace ds d = some j ∧ Q .non (upd H l (.lst (us.eraseIdx j)))
theorem mt_removeD {X : Cx} (hu : X.A.units + 65 < cLine) : MtM X "list.remove" (rRemD X.K) := by
  intro pins s σ H x xs v us Q I rx rxs h
  obtain ⟨l, ws, y, d, ds, j, rfl, rfl, hH, hl, hy, p1, p2, p3, hj, q⟩ := h
  cases rx
  obtain ⟨u, rfl, ru⟩ := rxs.one
  obtain ⟨z, its, n, r, hlen, e⟩ := I.lstM hH
  obtain ⟨bs, r1⟩ := Dp.reads I d y u hy ru
  obtain ⟨as, h4⟩ := Dp.readsAll I ds _ its hl r
  refine SeqAt.remove_list_data (vs := its.toArray) ⟨_, e, rfl, n, rfl⟩ (by simpa using h4) r1 p1 p2 (by omega) hj (by rw [List.size_toArray]; omega) ?_
  have rr := r.eraseIdx j
  refine ⟨.non, _, I.lset (its' := its.eraseIdx j) (t' := s.toks) hH e ?_ rr ?_, rfl, q⟩
  · show its.toArray.eraseIdxIfInBounds j = (its.eraseIdx j).toArray
    rw [List.eraseIdxIfInBounds_toArray]
  · have := List.length_eraseIdx_le ws j
    omega
section
variable {X : Cx} {C : Cfg} {W : WX}
theorem mt_removeX (hu : X.A.units + 65 < cLine) (hK : X.K = C.K := by rfl) : MtM X "list.remove" (rRemD C.K) := hK ▸ mt_removeD hu
def removeD (ys xs : List Va) : Option (Va × List Va) := match allDat ys, xs with
  | some ds, [.dat d] => if (PyData.plainAll ds && d.plain && decide (d.depth ≤ 60)) = true then (SeqAt.dataPlace ds d).map fun j => (.dat .none, ys.eraseIdx j) else none
  | _, _ => none
theorem allDat_eq : ∀ {ys : List Va} {ds : List PyData}, allDat ys = some ds → ys = ds.map .dat
  | [], ds, h => by cases h; rfl
  | .dat d :: r, ds, h => by
    obtain ⟨es, h1, rfl⟩ := Option.map_eq_some_iff.mp (show (allDat r).map (d :: ·) = some ds from h)
    rw [allDat_eq h1]
    rfl
  | .ref _ :: _, _, h => by cases h
  | .seq _ _ :: _, _, h => by cases h
  | .fn _ :: _, _, h => by cases h
theorem RVs.dpA {H : Hp} {M0 : Addr → Prop} {m : List Addr} : ∀ {us : List V} {ds : List PyData}, RVs C H (Mx M0 m) m us (ds.map .dat) → DpAll C.K H us ds
  | us, [], h => by cases h; exact .nil
  | us, d :: r, h => by
    cases h with
    | cons a b =>
      cases a with
      | dat rd => exact .cons rd.dp (RVs.dpA b)
theorem RVs.era {H : Hp} {M : Addr → Prop} {m : List Addr} : ∀ {us : List V} {ys : List Va} (j : Nat), RVs C H M m us ys → RVs C H M m (us.eraseIdx j) (ys.eraseIdx j)
  | _, _, _, .nil => .nil
  | _, _, 0, .cons a b => b
  | _, _, j + 1, .cons a b => .cons a (RVs.era j b)
theorem ms_removeX : MtS C (rRemD C.K) (lstM removeD) := ms_of fun M0 m H a us vs ys xs zs v Q hu ru rs hg q => by
  unfold removeD at hg
  split at hg
  · rename_i ds d hd
    split at hg
    · rename_i hc
      simp only [Bool.and_eq_true, decide_eq_true_eq] at hc
      obtain ⟨j, h1, h2⟩ := Option.map_eq_some_iff.mp hg
      cases h2
      obtain ⟨w1, rfl, r1⟩ := rs.one
      cases r1 with
      | dat rd =>
        have e := allDat_eq hd
        refine ⟨a, us, w1, d, ds, j, rfl, rfl, hu, RVs.dpA (by rw [← e]; exact ru), rd.dp, hc.1.1, hc.1.2, hc.2, h1, q .non _ (.dat .non) (RVs.era j ru)⟩
    · cases hg
  · cases hg
/-! ### {} -/
def dDicN (t : Bool) : CE := fun _ st => .ok (.ref st.length) (st ++ [some (.dic t [])])
theorem Fin.newD {M0 : Addr → Prop} {m : List Addr} {H : Hp} {st : Sto} {E : XK} {Q : VK} {t : Bool} {p : Addr} (fin : Fin C M0 m H E (.ok (.ref st.length) (st ++ [some (.dic t [])])) Q) (rh : RH C M0 m H st) (hp : H p = none) : Q (.ref p) (upd H p (if t = true then .dT [] else .dK [])) := by
  have g : Go m H (m ++ [p]) (upd H p (if t = true then .dT [] else .dK [])) := Go.alloc hp
  refine fin (.ref p) (m ++ [p]) _ g (rh.alloc hp ?_) (.ref ?_)
  · cases t with
    | true => exact ⟨[], upd_same, .nil⟩
    | false => exact ⟨[], upd_same, .nil⟩
  · rw [← rh.len, List.getElem?_append_right (Nat.le_refl _)]
    simp
theorem fe_dicK {pos : Pos} : PE X (.Dict [] [] pos) (tE C W (dDicN false)) := PE.imp pe_dnewK fun s H Q ⟨M0, m, ev, st, rh, re, fin⟩ => fun p hp => Fin.newD (t := false) fin rh hp
theorem fe_dicT {pos : Pos} : PE X (.Dict [] [] pos) (tE C W (dDicN true)) := PE.imp pe_dnewT fun s H Q ⟨M0, m, ev, st, rh, re, fin⟩ => fun p hp => Fin.newD (t := true) fin rh hp
@[simp] theorem eDicN (t : Bool) {ev : Ev} {st : Sto} : dDicN t ev st = .ok (.ref st.length) (st ++ [some (.dic t [])]) := rfl
end
end Sk

set_option maxHeartbeats 1000000
/-! Sk, part 67: dicts of whole numbers by places. -/
namespace Sk
open PySem PySem.Spec PyProof.Rows L2 GxR
abbrev Ents := List ((Nat × Nat) × Int)
def kvP (e : Ents) : List (PyData × Va) := e.map fun x => (plD x.1, .dat (.int x.2))
def lk (e : Ents) (p : Nat × Nat) : Option Int := (e.find? fun x => decide (x.1 = p)).map (·.2)
def pt2 (e : Ents) (p : Nat × Nat) (v : Int) : Ents := if (e.any fun x => decide (x.1 = p)) = true then e.map (fun x => if x.1 = p then (x.1, v) else x) else e ++ [(p, v)]
theorem plD_inj {p q : Nat × Nat} (h : plD p = plD q) : p = q := by
  simp [plD] at h
  exact Prod.ext (by omega) (by omega)
theorem plD_dec (p q : Nat × Nat) : decide (plD p = plD q) = decide (p = q) := by
  rw [Bool.eq_iff_iff, decide_eq_true_eq, decide_eq_true_eq]
  exact ⟨plD_inj, fun h => by rw [h]⟩
theorem dget_P (p : Nat × Nat) : ∀ e : Ents, dget (kvP e) (plD p) = (lk e p).map fun v => .dat (.int v)
  | [] => rfl
  | x :: r => by
    have ih := dget_P p r
    unfold dget lk kvP at *
    rw [List.map_cons, List.find?_cons, List.find?_cons, plD_dec]
    cases decide (x.1 = p) with
    | true => rfl
    | false => exact ih
theorem dput_P (e : Ents) (p : Nat × Nat) (v : Int) : dput (kvP e) (plD p) (.dat (.int v)) = kvP (pt2 e p v) := by
  unfold dput pt2 kvP
  have h1 : ((e.map fun x => (plD x.1, Va.dat (.int x.2))).any fun kv => decide (kv.1 = plD p)) = e.any fun x => decide (x.1 = p) := by
    rw [List.any_map]
    congr 1
    funext x
    exact plD_dec _ _
  rw [h1]
  by_cases h : (e.any fun x => decide (x.1 = p)) = true
  · rw [if_pos h, if_pos h, List.map_map, List.map_map]
    refine List.map_congr_left fun x _ => ?_
    simp only [Function.comp_apply]
    by_cases hx : x.1 = p
    · rw [if_pos hx, if_pos (by rw [hx])]
    · rw [if_neg hx, if_neg fun z => hx (plD_inj z)]
  · rw [if_neg h, if_neg h, List.map_append]
    rfl
theorem lk_none {e : Ents} {p : Nat × Nat} : lk e p = none ↔ (e.any fun x => decide (x.1 = p)) = false := by
  unfold lk
  rw [Option.map_eq_none_iff, List.find?_eq_none, List.any_eq_false]
theorem lk_pt2 (p q : Nat × Nat) (v : Int) (e : Ents) : lk (pt2 e p v) q = if q = p then some v else lk e q := by
  unfold pt2
  by_cases h : (e.any fun x => decide (x.1 = p)) = true
  · rw [if_pos h]
    induction e with
    | nil => simp at h
    | cons x r ih =>
      unfold lk at *
      rw [List.map_cons, List.find?_cons, List.find?_cons]
      by_cases hx : x.1 = p
      · rw [if_pos hx]
        by_cases hq : q = p
        · rw [if_pos hq, hx, hq, decide_eq_true rfl]
          rfl
        · rw [if_neg hq]
          have h2 : ¬ x.1 = q := fun z => hq (by rw [← z, hx])
          rw [decide_eq_false h2]
          have : ∀ s : Ents, (List.find? (fun x => decide (x.1 = q)) (s.map fun x => if x.1 = p then (x.1, v) else x)).map (·.2) = (s.find? fun x => decide (x.1 = q)).map (·.2) := by
            intro s
            induction s with
            | nil => rfl
            | cons y s ih2 =>
              rw [List.map_cons, List.find?_cons, List.find?_cons]
              by_cases hy : y.1 = p
              · rw [if_pos hy, decide_eq_false (show ¬ y.1 = q from fun z => hq (by rw [← z, hy]))]
                exact ih2
              · rw [if_neg hy]
                cases decide (y.1 = q) with
                | true => rfl
                | false => exact ih2
          exact this r
      · rw [if_neg hx]
        have hr : (r.any fun x => decide (x.1 = p)) = true := by
          rw [List.any_cons, decide_eq_false hx, Bool.false_or] at h
          exact h
        have ih := ih hr
        by_cases hxq : x.1 = q
        · rw [decide_eq_true hxq]
          have : ¬ q = p := fun z => hx (by rw [hxq, z])
          rw [if_neg this]
        · rw [decide_eq_false hxq]
          exact ih
  · rw [if_neg h]
    have hn : lk e p = none := lk_none.mpr (Bool.eq_false_iff.mpr h)
    unfold lk at *
    rw [List.find?_append]
    by_cases hq : q = p
    · rw [if_pos hq, hq]
      have : e.find? (fun x => decide (x.1 = p)) = none := by simpa using hn
      rw [this]
      simp
    · rw [if_neg hq]
      have : List.find? (fun x : (Nat × Nat) × Int => decide (x.1 = q)) [(p, v)] = none := by
        simp
        exact fun z => hq z.symm
      rw [this, Option.or_none]
theorem pt2_len (e : Ents) (p : Nat × Nat) (v : Int) : (pt2 e p v).length ≤ e.length + 1 := by
  unfold pt2
  split
  · simp
  · simp
theorem pt2_same {e : Ents} {p : Nat × Nat} {v : Int} (h : lk e p ≠ none) : (pt2 e p v).length = e.length := by
  unfold pt2
  have : (e.any fun x => decide (x.1 = p)) = true := by
    cases hb : e.any fun x => decide (x.1 = p) with
    | true => rfl
    | false => exact absurd (lk_none.mpr hb) h
  rw [if_pos this]
  simp
section
variable {st : Sto} {n : Nat} {e : Ents} {p : Nat × Nat}
theorem key_P (p : Nat × Nat) : isKey true (.dat (plD p)) = some (plD p) := rfl
theorem seqOf_dic {t : Bool} {kvs : List (PyData × Va)} (h : st[n]? = some (some (.dic t kvs))) : seqOf st (.ref n) = none := by
  simp [seqOf, h]
theorem ixV_P {v : Int} (h : st[n]? = some (some (.dic true (kvP e)))) (hv : lk e p = some v) : ixV (.ref n) (.dat (plD p)) st = .ok (.dat (.int v)) st := by
  simp only [ixV, seqOf_dic h, dicOf_ref h, key_P, dget_P, hv, Option.map_some]
theorem setV_P {v : Int} (h : st[n]? = some (some (.dic true (kvP e)))) (hl : e.length ≤ 10000000) : setV (.ref n) (.dat (plD p)) (.dat (.int v)) st = .ok () (st.set n (some (.dic true (kvP (pt2 e p v))))) := by
  have f : few (kvP e).length = true := few_lit (by simpa [kvP] using hl)
  simp only [setV, h, key_P, f, if_true, dput_P]
theorem notIn_P (h : st[n]? = some (some (.dic true (kvP e)))) : notInV (.dat (plD p)) (.ref n) st = .ok (.dat (.bool (lk e p).isNone)) st := by
  have : inB (.dat (plD p)) (.ref n) st = some (lk e p).isSome := by
    simp only [inB, dicOf_ref h, key_P, dget_P, Option.map_some, Option.isSome_map]
  simp only [notInV, this, oB]
  cases lk e p <;> rfl
end
end Sk

set_option maxHeartbeats 1000000
/-! Sk, part 68: the least climb, in plain words. -/
namespace Sk
open PySem PySem.Spec PyProof.Rows L2 GxR
abbrev Pl := Nat × Nat
def nbp (r c : Nat) (p : Pl) : List Pl := nb r c p.1 p.2
def Cel (r c : Nat) (p : Pl) : Prop := p.1 < r ∧ p.2 < c
def Edg (r c : Nat) (p : Pl) : Prop := (nbp r c p).length < 4
theorem nbp_cel {r c : Nat} {p q : Pl} (hp : Cel r c p) (h : q ∈ nbp r c p) : Cel r c q ∧ q ≠ p := by
  have := nb_mem hp.1 hp.2 h
  exact ⟨⟨this.1, this.2.1⟩, this.2.2⟩
theorem nbp_sym {r c : Nat} {p q : Pl} (hp : Cel r c p) (hq : Cel r c q) : q ∈ nbp r c p ↔ p ∈ nbp r c q := nb_sym hp.1 hp.2 hq.1 hq.2
abbrev Hi := Pl → Int
/-- what is told of the least climb -/
structure Fld (r c : Nat) (g F : Hi) : Prop where
  edge : ∀ p, Cel r c p → Edg r c p → F p = g p
  le : ∀ p, Cel r c p → ∀ q ∈ nbp r c p, F p ≤ max (g p) (F q)
  rank : ∃ k : Pl → Nat, ∀ p, Cel r c p → k p < r * c ∧ (Edg r c p ∨ ∃ q ∈ nbp r c p, k q < k p ∧ F p = max (g p) (F q))
section
variable {r c : Nat} {g F F' : Hi}
theorem Fld.below (h : Fld r c g F) (h' : Fld r c g F') : ∀ p, Cel r c p → F p ≤ F' p := by
  obtain ⟨k, hk⟩ := h'.rank
  have : ∀ n, ∀ p, Cel r c p → k p = n → F p ≤ F' p := by
    intro n
    induction n using Nat.strongRecOn with
    | ind n ih =>
      intro p hp hn
      rcases (hk p hp).2 with e | ⟨q, hq, h1, h2⟩
      · rw [h.edge p hp e, h'.edge p hp e]
        exact Int.le_refl _
      · have h3 := ih (k q) (by omega) q (nbp_cel hp hq).1 rfl
        have h4 := h.le p hp q hq
        omega
  exact fun p hp => this _ p hp rfl
theorem Fld.uniq (h : Fld r c g F) (h' : Fld r c g F') (p : Pl) (hp : Cel r c p) : F p = F' p := Int.le_antisymm (h.below h' p hp) (h'.below h p hp)
theorem Fld.ge (h : Fld r c g F) (p : Pl) (hp : Cel r c p) : g p ≤ F p := by
  obtain ⟨k, hk⟩ := h.rank
  rcases (hk p hp).2 with e | ⟨q, hq, h1, h2⟩
  · rw [h.edge p hp e]
    exact Int.le_refl _
  · omega
theorem Fld.again (h : Fld r c g F) : Fld r c F F where
  edge := fun _ _ _ => rfl
  le := fun p hp q hq => by omega
  rank := by
    obtain ⟨k, hk⟩ := h.rank
    refine ⟨k, fun p hp => ⟨(hk p hp).1, ?_⟩⟩
    rcases (hk p hp).2 with e | ⟨q, hq, h1, h2⟩
    · exact .inl e
    · exact .inr ⟨q, hq, h1, by omega⟩
theorem Fld.top {B : Int} (h : Fld r c g F) (hB : ∀ p, Cel r c p → g p ≤ B) : ∀ p, Cel r c p → F p ≤ B := by
  obtain ⟨k, hk⟩ := h.rank
  have : ∀ n, ∀ p, Cel r c p → k p = n → F p ≤ B := by
    intro n
    induction n using Nat.strongRecOn with
    | ind n ih =>
      intro p hp hn
      rcases (hk p hp).2 with e | ⟨q, hq, h1, h2⟩
      · rw [h.edge p hp e]
        exact hB p hp
      · have h3 := ih (k q) (by omega) q (nbp_cel hp hq).1 rfl
        have h4 := hB p hp
        omega
  exact fun p hp => this _ p hp rfl
end
/-! ### counting what is not found -/
theorem filter_less {α : Type} [DecidableEq α] (a : α) : ∀ {xs : List α}, xs.Nodup → a ∈ xs → (xs.filter fun x => decide (x ≠ a)).length + 1 = xs.length
  | [], _, h => by simp at h
  | b :: s, hn, h => by
    rw [List.nodup_cons] at hn
    by_cases e : b = a
    · subst e
      have : s.filter (fun x => decide (x ≠ b)) = s := List.filter_eq_self.mpr fun x hx => by
        simp
        rintro rfl
        exact hn.1 hx
      rw [List.filter_cons_of_neg (by simp), this]
      rfl
    · rcases List.mem_cons.mp h with h | h
      · exact absurd h.symm e
      · rw [List.filter_cons_of_pos (by simpa using e), List.length_cons, filter_less a hn.2 h, List.length_cons]
def unf (r c : Nat) (e : Ents) : Nat := ((pls r c).filter fun p => (lk e p).isNone).length
theorem unf_put {r c : Nat} {e : Ents} {p : Pl} {v : Int} (hp : Cel r c p) (hn : lk e p = none) : unf r c (pt2 e p v) + 1 = unf r c e := by
  unfold unf
  have h1 : (pls r c).filter (fun q => (lk (pt2 e p v) q).isNone) = ((pls r c).filter fun q => (lk e q).isNone).filter fun q => decide (q ≠ p) := by
    rw [List.filter_filter]
    refine List.filter_congr fun q _ => ?_
    rw [lk_pt2]
    by_cases h : q = p
    · simp [h]
    · simp [h]
  rw [h1]
  exact filter_less p ((pls_nodup r c).sublist List.filter_sublist) (List.mem_filter.mpr ⟨pls_mem.mpr hp, by simp [hn]⟩)
theorem pt2_new {e : Ents} {p : Pl} {v : Int} (hn : lk e p = none) : (pt2 e p v).length = e.length + 1 := by
  unfold pt2
  rw [if_neg (by rw [lk_none.mp hn]; simp)]
  simp
/-! ### the way there -/
structure Dj (r c : Nat) (g : Hi) (e : Ents) (lf : List Pl) : Prop where
  cel : ∀ p v, lk e p = some v → Cel r c p
  cnt : e.length + unf r c e = r * c
  lfd : ∀ p ∈ lf, ∃ v, lk e p = some v
  nod : lf.Nodup
  ed : ∀ p, Cel r c p → Edg r c p → lk e p = some (g p)
  par : ∃ k : Pl → Nat, ∀ p v, lk e p = some v → k p < e.length ∧ ((Edg r c p ∧ v = g p) ∨ ∃ q w, q ∈ nbp r c p ∧ ¬ q ∈ lf ∧ lk e q = some w ∧ k q < k p ∧ v = max (g p) w)
  ord : ∀ q w, lk e q = some w → ¬ q ∈ lf → ∀ l ∈ lf, ∀ v, lk e l = some v → w ≤ v
/-- the closing: of those done, the cells beside are found, no higher -/
def Clo2 (r c : Nat) (g : Hi) (e : Ents) (q : Pl) (w : Int) (ps : List Pl) : Prop := ∀ p ∈ ps, ∃ v, lk e p = some v ∧ v ≤ max (g p) w
section
variable {r c : Nat} {g : Hi} {e : Ents} {lf : List Pl}
theorem Dj.done (h : Dj r c g e []) (r1 : 1 ≤ r) (hc : ∀ q w, lk e q = some w → Clo2 r c g e q w (nbp r c q)) : ∃ F : Hi, (∀ p, Cel r c p → lk e p = some (F p)) ∧ Fld r c g F := by
  have all : ∀ i j, i < r → j < c → ∃ v, lk e (i, j) = some v := by
    intro i
    induction i with
    | zero =>
      intro j hi hj
      refine ⟨_, h.ed (0, j) ⟨hi, hj⟩ ?_⟩
      unfold Edg nbp nb
      simp
      split <;> split <;> split <;> simp
    | succ i ih =>
      intro j hi hj
      obtain ⟨v, hv⟩ := ih j (by omega) hj
      obtain ⟨w, hw, _⟩ := hc (i, j) v hv (i + 1, j) (nb_iff.mpr (.inr (.inr (.inr ⟨rfl, rfl, hi⟩))))
      exact ⟨w, hw⟩
  have hF : ∀ p, Cel r c p → lk e p = some ((lk e p).getD 0) := fun p hp => by
    obtain ⟨v, hv⟩ := all p.1 p.2 hp.1 hp.2
    have hv : lk e p = some v := hv
    rw [hv]
    rfl
  refine ⟨fun p => (lk e p).getD 0, hF, ⟨fun p hp he => ?_, fun p hp q hq => ?_, ?_⟩⟩
  · show (lk e p).getD 0 = g p
    rw [h.ed p hp he]
    rfl
  · have hq2 := (nbp_cel hp hq).1
    obtain ⟨v, h1, h2⟩ := hc q _ (hF q hq2) p ((nbp_sym hp hq2).mp hq)
    show (lk e p).getD 0 ≤ _
    rw [h1]
    exact h2
  · obtain ⟨k, hk⟩ := h.par
    refine ⟨k, fun p hp => ?_⟩
    obtain ⟨h1, h2⟩ := hk p _ (hF p hp)
    have := h.cnt
    refine ⟨by omega, ?_⟩
    rcases h2 with h2 | ⟨q, w, q1, _, q2, q3, q4⟩
    · exact .inl h2.1
    · refine .inr ⟨q, q1, q3, ?_⟩
      show (lk e p).getD 0 = max (g p) ((lk e q).getD 0)
      rw [q2]
      exact q4
/-- a new cell -/
theorem Dj.add (h : Dj r c g e lf) {here p : Pl} {w : Int} (hw : lk e here = some w) (hh : ¬ here ∈ lf) (hmax : ∀ q u, lk e q = some u → ¬ q ∈ lf → u ≤ w) (hp : p ∈ nbp r c here) (hn : lk e p = none) : Dj r c g (pt2 e p (max (g p) w)) (lf ++ [p]) := by
  have hcel := h.cel here w hw
  have pc := (nbp_cel hcel hp).1
  have lkn : ∀ q, ¬ q = p → lk (pt2 e p (max (g p) w)) q = lk e q := fun q hq => by rw [lk_pt2, if_neg hq]
  have lkp : lk (pt2 e p (max (g p) w)) p = some (max (g p) w) := by rw [lk_pt2, if_pos rfl]
  have npl : ¬ p ∈ lf := fun z => by
    obtain ⟨v, hv⟩ := h.lfd p z
    rw [hn] at hv
    cases hv
  have hhp : ¬ here = p := fun z => by rw [← z, hw] at hn; cases hn
  refine ⟨fun q v hq => ?_, ?_, fun q hq => ?_, ?_, fun q hq he => ?_, ?_, fun q u hq hql l hl v hv => ?_⟩
  · by_cases e1 : q = p
    · rw [e1]; exact pc
    · rw [lkn q e1] at hq
      exact h.cel q v hq
  · have := unf_put (v := max (g p) w) pc hn
    have := h.cnt
    rw [pt2_new hn]
    omega
  · rcases List.mem_append.mp hq with hq | hq
    · obtain ⟨v, hv⟩ := h.lfd q hq
      exact ⟨v, by rw [lkn q (fun z => npl (z ▸ hq))]; exact hv⟩
    · simp at hq
      rw [hq]
      exact ⟨_, lkp⟩
  · rw [List.nodup_append]
    exact ⟨h.nod, by simp, fun a ha b hb => by simp at hb; rw [hb]; rintro rfl; exact npl ha⟩
  · have := h.ed q hq he
    rw [lkn q (fun z => by rw [z, hn] at this; cases this)]
    exact this
  · obtain ⟨k, hk⟩ := h.par
    refine ⟨fun q => if q = p then e.length else k q, fun q v hq => ?_⟩
    rw [pt2_new hn]
    by_cases e1 : q = p
    · subst e1
      rw [lkp] at hq
      cases hq
      simp only [if_true]
      have h1 := (hk here w hw).1
      have e2 : ¬ here = q := hhp
      refine ⟨by omega, .inr ⟨here, w, (nbp_sym hcel pc).mp hp, ?_, ?_, ?_, rfl⟩⟩
      · simp [hh, e2]
      · rw [lkn here e2]; exact hw
      · rw [if_neg e2]; exact h1
    · rw [lkn q e1] at hq
      obtain ⟨h1, h2⟩ := hk q v hq
      simp only [e1, if_false]
      refine ⟨by omega, ?_⟩
      rcases h2 with h2 | ⟨q2, w2, a1, a2, a3, a4, a5⟩
      · exact .inl h2
      · have e3 : ¬ q2 = p := fun z => by rw [z, hn] at a3; cases a3
        refine .inr ⟨q2, w2, a1, ?_, ?_, ?_, a5⟩
        · simp [a2, e3]
        · rw [lkn q2 e3]; exact a3
        · rw [if_neg e3]; exact a4
  · have hq1 : ¬ q = p := fun z => hql (by simp [z])
    have hq2 : ¬ q ∈ lf := fun z => hql (by simp [z])
    rw [lkn q hq1] at hq
    rcases List.mem_append.mp hl with hl | hl
    · rw [lkn l (fun z => npl (z ▸ hl))] at hv
      exact h.ord q u hq hq2 l hl v hv
    · simp at hl
      rw [hl, lkp] at hv
      cases hv
      have := hmax q u hq hq2
      omega
/-- the lowest one taken out -/
theorem Dj.take (h : Dj r c g e lf) {here : Pl} {w : Int} (hh : here ∈ lf) (hw : lk e here = some w) (hm : ∀ l ∈ lf, ∀ v, lk e l = some v → w ≤ v) : Dj r c g e (lf.filter fun x => decide (x ≠ here)) ∧ ∀ q u, lk e q = some u → ¬ q ∈ lf.filter (fun x => decide (x ≠ here)) → u ≤ w := by
  have mem : ∀ q, ¬ q ∈ lf.filter (fun x => decide (x ≠ here)) → q = here ∨ ¬ q ∈ lf := fun q hq => by
    by_cases e1 : q = here
    · exact .inl e1
    · exact .inr fun z => hq (List.mem_filter.mpr ⟨z, by simpa using e1⟩)
  have mx : ∀ q u, lk e q = some u → ¬ q ∈ lf.filter (fun x => decide (x ≠ here)) → u ≤ w := fun q u hq hql => by
    rcases mem q hql with rfl | e1
    · rw [hw] at hq
      cases hq
      exact Int.le_refl _
    · exact h.ord q u hq e1 here hh w hw
  refine ⟨⟨h.cel, h.cnt, fun p hp => h.lfd p (List.mem_filter.mp hp).1, h.nod.sublist List.filter_sublist, h.ed, ?_, fun q u hq hql l hl v hv => ?_⟩, mx⟩
  · obtain ⟨k, hk⟩ := h.par
    refine ⟨k, fun p v hp => ?_⟩
    obtain ⟨h1, h2⟩ := hk p v hp
    refine ⟨h1, ?_⟩
    rcases h2 with h2 | ⟨q2, w2, a1, a2, a3⟩
    · exact .inl h2
    · exact .inr ⟨q2, w2, a1, fun z => a2 (List.mem_filter.mp z).1, a3⟩
  · have := mx q u hq hql
    have := hm l (List.mem_filter.mp hl).1 v hv
    omega
/-- a cell that was found already is no higher than by this way -/
theorem Dj.old (h : Dj r c g e lf) {p : Pl} {v w : Int} (hmax : ∀ q u, lk e q = some u → ¬ q ∈ lf → u ≤ w) (hv : lk e p = some v) : v ≤ max (g p) w := by
  obtain ⟨k, hk⟩ := h.par
  rcases (hk p v hv).2 with h2 | ⟨q2, w2, a1, a2, a3, a4, a5⟩
  · omega
  · have := hmax q2 w2 a3 a2
    omega
end
end Sk

namespace L_k08
open PySem PySem.Spec PyProof.Rows L2 Sk
/-! ### what it computes -/
def fb_flooded1 : CS :=
    (dIfS (dTest (dBin ltV (dCallB lenV (dCons (dCallP F_beside 3 (dCons (dVar 0) (dCons (dVar 3) (dCons (dVal k_FOUR) dNil)))) dNil)) (dC (.int 4)))) (dSeq (dAsg (dCallP F_at 2 (dCons (dVar 0) (dCons (dVar 3) dNil))) (gSb (dVar 1) (dVar 3)))
    (dDo (dMt (lstM appendG) (dVar 2) (dCons (dVar 3) dNil)))) dSkip)
def fb_flooded2 : CS :=
    (dIfS (dTest (dBin notInV (dVar 5) (dVar 1))) (dSeq (dAsg (dCallB maxF (dCons (dCallP F_at 2 (dCons (dVar 0) (dCons (dVar 5) dNil))) (dCons (dBin ixV (dVar 1) (dVar 4)) dNil))) (gSb (dVar 1) (dVar 5)))
    (dDo (dMt (lstM appendG) (dVar 2) (dCons (dVar 5) dNil)))) dSkip)
def wt_flooded1 : CB :=
    (dTest (dBin neV (dVar 2) (dLst dNil)))
def wb_flooded1 : CS :=
    (dSeq (dAsg (dKey ltW [3] (dVar 2) (dBin ixV (dVar 1) (dVar 3))) (gN 4))
    (dSeq (dDo (dMt (lstM removeD) (dVar 2) (dCons (dVar 4) dNil)))
    (dFor (dIter (dCallP F_beside 3 (dCons (dVar 0) (dCons (dVar 4) (dCons (dVal k_FOUR) dNil))))) (gN 5) fb_flooded2)))
def c_flooded : CS :=
    (dSeq (dDo (dCallP F_check_grid 3 (dCons (dVar 0) (dCons (dC (.int 0)) (dCons (dC (.int 1000)) dNil)))))
    (dSeq (dAsg (dTup (dCons (dDicN true) (dCons (dLstM dNil) dNil))) (gTp 2 (gsCons (gN 1) (gsCons (gN 2) gsNil))))
    (dSeq (dFor (dIter (dCallP F_cells 1 (dCons (dVar 0) dNil))) (gN 3) fb_flooded1)
    (dSeq (whileS wt_flooded1 wb_flooded1 fuel)
    (dRet (dCallB tupleV (dCons (dComp asF (dRange (dCons (dCallB lenV (dCons (dVar 0) dNil)) dNil)) [7] (gN 7) dYes (dCallB tupleV (dCons (dComp asF (dRange (dCons (dCallB lenV (dCons (dBin ixV (dVar 0) (dC (.int 0))) dNil)) dNil)) [6] (gN 6) dYes (dBin ixV (dVar 1) (dTup (dCons (dVar 7) (dCons (dVar 6) dNil))))) dNil))) dNil)))))))
def F_flooded : Fn := mkFn 8 c_flooded
def c_lake_water : CS :=
    (dRet (dBin subV (dGen eatSum (.dat (.int 0)) (dIter (dCallP F_flooded 1 (dCons (dVar 0) dNil))) [1] (gN 1) (dCallB sumF (dCons (dVar 1) dNil))) (dGen eatSum (.dat (.int 0)) (dIter (dVar 0)) [2] (gN 2) (dCallB sumF (dCons (dVar 2) dNil)))))
def F_lake_water : Fn := mkFn 3 c_lake_water
def ls_law1 : CS :=
    (dAsg (dC (.int 1000)) (gSb (dVar 4) (dTup (dCons (dVar 5) (dCons (dVar 6) dNil)))))
def ls_law2 : CS :=
    (dIfS (dTest (dBin ltV (dCallB lenV (dCons (dCallP F__law_beside 2 (dCons (dVar 2) (dCons (dTup (dCons (dVar 5) (dCons (dVar 6) dNil))) dNil))) dNil)) (dC (.int 4)))) (dAsg (dBin ixV (dBin ixV (dVar 2) (dVar 5)) (dVar 6)) (gSb (dVar 4) (dTup (dCons (dVar 5) (dCons (dVar 6) dNil))))) dSkip)
def fb_law1 : CS :=
    (dSeq ls_law1
    ls_law2)
def ls_law3 : CS :=
    (dAsg (dCallB minF (dCons (dBin addV (dComp asF (dIter (dCallP F__law_beside 2 (dCons (dVar 2) (dCons (dTup (dCons (dVar 5) (dCons (dVar 6) dNil))) dNil)))) [10] (gN 10) dYes (dBin ixV (dVar 4) (dVar 10))) (dLst (dCons (dC (.int 1000)) dNil))) dNil)) (gN 8))
def ls_law4 : CS :=
    (dAsg (dCallB minF (dCons (dBin ixV (dVar 4) (dTup (dCons (dVar 5) (dCons (dVar 6) dNil)))) (dCons (dCallB maxF (dCons (dBin ixV (dBin ixV (dVar 2) (dVar 5)) (dVar 6)) (dCons (dVar 8) dNil))) dNil))) (gSb (dVar 4) (dTup (dCons (dVar 5) (dCons (dVar 6) dNil)))))
def fb_law2 : CS :=
    (dSeq ls_law3
    ls_law4)
def fb_law3 : CS :=
    (dFor (dIter (dVar 3)) (gTp 2 (gsCons (gN 5) (gsCons (gN 6) gsNil))) fb_law2)
def ls_law5 : CS :=
    (dAsg (dCallO F__law_grid 4 (dCons (dVar 1) (dCons (dC (.int 6)) (dCons (dC (.int 0)) (dCons (dBin ixV (dLst (dCons (dC (.int 5)) (dCons (dC (.int 10)) dNil))) (dCallO F__law_roll 2 (dCons (dVar 1) (dCons (dC (.int 2)) dNil)))) dNil))))) (gN 2))
def ls_law6 : CS :=
    (dAsg (dTup (dCons (dCallP F__law_places 1 (dCons (dVar 2) dNil)) (dCons (dDicN true) dNil))) (gTp 2 (gsCons (gN 3) (gsCons (gN 4) gsNil))))
def ls_law7 : CS :=
    (dAsg (dCallP F_flooded 1 (dCons (dVar 2) dNil)) (gN 9))
def ls_law8 : CS :=
    (dIfS (dTest (dBin neV (dComp asF (dIter (dVar 3)) [10] (gN 10) (dTest (dBin neV (dBin ixV (dBin ixV (dVar 9) (dBin ixV (dVar 10) (dC (.int 0)))) (dBin ixV (dVar 10) (dC (.int 1)))) (dBin ixV (dVar 4) (dVar 10)))) (dVar 10)) (dLst dNil))) (dRet (dC (.bool false))) dSkip)
def ls_law9 : CS :=
    (dIfS (dOrT (dTest (dBin neV (dCallP F_flooded 1 (dCons (dVar 9) dNil)) (dVar 9))) (dTest (dBin neV (dCallP F_lake_water 1 (dCons (dVar 2) dNil)) (dCallB sumF (dCons (dComp asF (dIter (dVar 3)) [5, 6] (gTp 2 (gsCons (gN 5) (gsCons (gN 6) gsNil))) dYes (dBin subV (dBin ixV (dVar 4) (dTup (dCons (dVar 5) (dCons (dVar 6) dNil)))) (dBin ixV (dBin ixV (dVar 2) (dVar 5)) (dVar 6)))) dNil))))) (dRet (dC (.bool false))) dSkip)
def ls_law10 : CS :=
    (dIfS (dTest (dBin neV (dCallP F_lake_water 1 (dCons (dVar 9) dNil)) (dC (.int 0)))) (dRet (dC (.bool false))) dSkip)
def fb_law4 : CS :=
    (dSeq ls_law5
    (dSeq ls_law6
    (dSeq (dFor (dIter (dVar 3)) (gTp 2 (gsCons (gN 5) (gsCons (gN 6) gsNil))) fb_law1)
    (dSeq (dFor (dRange (dCons (dCallB lenV (dCons (dVar 3) dNil)) dNil)) (gN 7) fb_law3)
    (dSeq ls_law7
    (dSeq ls_law8
    (dSeq ls_law9
    ls_law10)))))))
def c_law : CS :=
    (dSeq (dFor (dIter (dCallO F__law_rounds 2 (dCons (dVar 0) (dCons (dC (.int 3)) dNil)))) (gN 1) fb_law4)
    (dRet (dC (.bool true))))
def F_law : Fn := mkFn 11 c_law
end L_k08

set_option maxHeartbeats 2000000
namespace L_k08
open PySem PySem.Spec PyProof.Rows L2 Sk
/-! ### the lowest of those left -/
theorem key_min (l : Lk) (f : Va → Sto → Rs Va) (F : Pl → Int) (st : Sto) (hl : lkOk l st = true) : ∀ (r : List Pl) (b : Pl), (∀ p ∈ b :: r, f (.dat (plD p)) st = .ok (.dat (.int (F p))) st) →
    ∃ h, h ∈ b :: r ∧ (∀ x ∈ b :: r, F h ≤ F x) ∧ keyL ltW l f (r.map fun p => .dat (plD p)) (some (.dat (plD b), .dat (.int (F b)))) st = .ok (.dat (plD h)) st
  | [], b, _ => ⟨b, by simp, by simp, by simp [keyL, hl]⟩
  | x :: r, b, hf => by
    have hx := hf x (by simp)
    have hlt : ltW (.dat (.int (F x))) (.dat (.int (F b))) st = .ok (.dat (.bool (decide (F x < F b)))) st := rfl
    by_cases h : F x < F b
    · obtain ⟨y, h1, h2, h3⟩ := key_min l f F st hl r x fun p hp => hf p (List.mem_cons_of_mem _ hp)
      refine ⟨y, List.mem_cons_of_mem _ h1, fun z hz => ?_, ?_⟩
      · rcases List.mem_cons.mp hz with rfl | hz
        · have := h2 x (by simp)
          omega
        · exact h2 z hz
      · simp only [List.map_cons, keyL, hl, if_true, hx, Rs.calm_ok, Rs.bind_ok, hlt, h, decide_true, h3]
    · obtain ⟨y, h1, h2, h3⟩ := key_min l f F st hl r b fun p hp => hf p (by
        rcases List.mem_cons.mp hp with rfl | hp
        · simp
        · simp [hp])
      refine ⟨y, ?_, fun z hz => ?_, ?_⟩
      · rcases List.mem_cons.mp h1 with rfl | h1
        · simp
        · simp [h1]
      · rcases List.mem_cons.mp hz with rfl | hz
        · exact h2 z (by simp)
        · rcases List.mem_cons.mp hz with rfl | hz
          · have := h2 b (by simp)
            omega
          · exact h2 z (List.mem_cons_of_mem _ hz)
      · simp only [List.map_cons, keyL, hl, if_true, hx, Rs.calm_ok, Rs.bind_ok, hlt, h, decide_false, Bool.false_eq_true, if_false, h3]
theorem rem_at (h : Pl) : ∀ {lf : List Pl}, lf.Nodup → h ∈ lf → ∃ j, SeqAt.dataPlace (lf.map plD) (plD h) = some j ∧ lf.eraseIdx j = lf.filter fun x => decide (x ≠ h)
  | [], _, hm => by simp at hm
  | b :: s, hn, hm => by
    rw [List.nodup_cons] at hn
    have eb : PyData.eqv (plD b) (plD h) = decide (b = h) := by
      rw [Bool.eq_iff_iff, decide_eq_true_eq]
      exact gd_pl.3 b h
    unfold SeqAt.dataPlace
    by_cases e : b = h
    · subst e
      have : s.filter (fun x => decide (x ≠ b)) = s := List.filter_eq_self.mpr fun x hx => by
        simp
        rintro rfl
        exact hn.1 hx
      refine ⟨0, ?_, ?_⟩
      · rw [List.map_cons, List.findIdx?_cons, eb]
        simp
      · rw [List.filter_cons_of_neg (by simp), this]
        rfl
    · have hm2 : h ∈ s := by
        rcases List.mem_cons.mp hm with z | z
        · exact absurd z.symm e
        · exact z
      obtain ⟨j, h1, h2⟩ := rem_at h hn.2 hm2
      unfold SeqAt.dataPlace at h1
      refine ⟨j + 1, ?_, ?_⟩
      · rw [List.map_cons, List.findIdx?_cons, eb, decide_eq_false e, h1]
        rfl
      · rw [List.filter_cons_of_pos (by simpa using e), ← h2]
        rfl
theorem plain_pl : ∀ lf : List Pl, PyData.plainAll (lf.map plD) = true
  | [] => rfl
  | p :: s => by
    rw [List.map_cons, PyData.plainAll, plain_pl s]
    rfl
theorem era_map {α β : Type} (f : α → β) : ∀ (xs : List α) (j : Nat), (xs.map f).eraseIdx j = (xs.eraseIdx j).map f
  | [], _ => rfl
  | _ :: _, 0 => rfl
  | a :: s, j + 1 => by
    rw [List.map_cons, List.eraseIdx_cons_succ, era_map f s j]
    rfl
def lfV (lf : List Pl) : List Va := lf.map fun p => .dat (plD p)
theorem removed {st : Sto} {n : Nat} {lf : List Pl} {h : Pl} (hst : st[n]? = some (some (.lst (lfV lf)))) (hn : lf.Nodup) (hm : h ∈ lf) : lstM removeD (.ref n) [.dat (plD h)] st = .ok (.dat .none) (st.set n (some (.lst (lfV (lf.filter fun x => decide (x ≠ h)))))) := by
  obtain ⟨j, h1, h2⟩ := rem_at h hn hm
  have ha : allDat (lfV lf) = some (lf.map plD) := by
    have := allDat_map (lf.map plD)
    rw [List.map_map] at this
    exact this
  have hr : removeD (lfV lf) [.dat (plD h)] = some (.dat .none, lfV (lf.filter fun x => decide (x ≠ h))) := by
    have hp : (PyData.plainAll (lf.map plD) && (plD h).plain && decide ((plD h).depth ≤ 60)) = true := by
      rw [plain_pl]
      simp [plD, PyData.plain, PyData.plainAll, PyData.depth, PyData.depthAll]
    simp only [removeD, ha, hp, if_true, h1, Option.map_some]
    rw [← h2]
    unfold lfV
    rw [era_map]
  simp only [lstM, hst, hr]
/-! ### the first ones: the edges -/
section
variable {r c : Nat} {g : Hi}
def edB (r c : Nat) (p : Pl) : Bool := decide ((nbp r c p).length < 4)
def eds (r c : Nat) (k : Nat) : List Pl := ((pls r c).take k).filter (edB r c)
def enE (g : Hi) (xs : List Pl) : Ents := xs.map fun p => (p, g p)
theorem lk_map (g : Hi) (p : Pl) : ∀ xs : List Pl, lk (enE g xs) p = if p ∈ xs then some (g p) else none
  | [] => rfl
  | x :: s => by
    have ih := lk_map g p s
    unfold lk enE at *
    rw [List.map_cons, List.find?_cons]
    by_cases h : x = p
    · subst h
      simp
    · rw [decide_eq_false (show ¬ (x, g x).1 = p from h)]
      simp only [ih, List.mem_cons]
      by_cases h2 : p ∈ s
      · simp [h2]
      · simp [h2, show ¬ p = x from fun z => h z.symm]
theorem put_new {e : Ents} {p : Pl} {v : Int} (h : lk e p = none) : pt2 e p v = e ++ [(p, v)] := by
  unfold pt2
  rw [if_neg (by rw [lk_none.mp h]; simp)]
theorem split_len {α : Type} (p : α → Bool) : ∀ xs : List α, (xs.filter p).length + (xs.filter fun x => !p x).length = xs.length
  | [] => rfl
  | x :: s => by
    have := split_len p s
    cases h : p x with
    | true => simp [h]; omega
    | false => simp [h]; omega
theorem dj_0 : Dj r c g (enE g (eds r c (r * c))) (eds r c (r * c)) := by
  have ht : eds r c (r * c) = (pls r c).filter (edB r c) := by
    unfold eds
    rw [← pls_len, List.take_length]
  rw [ht]
  have hm : ∀ p, p ∈ (pls r c).filter (edB r c) ↔ Cel r c p ∧ Edg r c p := fun p => by
    rw [List.mem_filter, pls_mem]
    unfold edB Edg
    simp [Cel]
  generalize hE : (pls r c).filter (edB r c) = E at *
  have hlk : ∀ p v, lk (enE g E) p = some v → (Cel r c p ∧ Edg r c p) ∧ v = g p := fun p v h => by
    rw [lk_map] at h
    by_cases hp : p ∈ E
    · rw [if_pos hp] at h
      cases h
      exact ⟨(hm p).mp hp, rfl⟩
    · rw [if_neg hp] at h
      cases h
  refine ⟨fun p v h => (hlk p v h).1.1, ?_, fun p hp => ⟨g p, by rw [lk_map, if_pos hp]⟩, ?_, fun p h1 h2 => by rw [lk_map, if_pos ((hm p).mpr ⟨h1, h2⟩)], ⟨fun _ => 0, fun p v h => ?_⟩, fun q w h hq => ?_⟩
  · have h1 : unf r c (enE g E) = ((pls r c).filter fun p => !edB r c p).length := by
      unfold unf
      congr 1
      refine List.filter_congr fun p hp => ?_
      rw [lk_map]
      by_cases h : p ∈ E
      · rw [if_pos h]
        rw [← hE] at h
        rw [(List.mem_filter.mp h).2]
        rfl
      · rw [if_neg h]
        cases hb : edB r c p with
        | true => exact absurd (by rw [← hE]; exact List.mem_filter.mpr ⟨hp, hb⟩) h
        | false => rfl
    have h2 := split_len (edB r c) (pls r c)
    rw [pls_len, hE] at h2
    rw [h1]
    simpa [enE] using h2
  · rw [← hE]
    exact (pls_nodup r c).sublist List.filter_sublist
  · have h1 := hlk p v h
    have : p ∈ E := (hm p).mpr h1.1
    have := List.length_pos_of_mem this
    exact ⟨by simpa [enE] using this, .inl ⟨h1.1.2, h1.2⟩⟩
  · exact absurd ((hm q).mpr (hlk q w h).1) hq
theorem Clo2.add {e : Ents} {q p : Pl} {w v : Int} {ps : List Pl} (h : Clo2 r c g e q w ps) (hn : lk e p = none) : Clo2 r c g (pt2 e p v) q w ps := fun x hx => by
  obtain ⟨u, h1, h2⟩ := h x hx
  exact ⟨u, by rw [lk_pt2, if_neg (fun z => by rw [z, hn] at h1; cases h1)]; exact h1, h2⟩
end
end L_k08

set_option maxHeartbeats 2000000
namespace L_k08
open PySem PySem.Spec PyProof.Rows L2 Sk
section
variable {r c : Nat} {f : Gr}
def hg (f : Gr) : Hi := fun p => f p.1 p.2
def stF (e : Ents) (lf : List Pl) : Sto := [some (.dic true (kvP e)), some (.lst (lfV lf))]
theorem stF_0 (e : Ents) (lf : List Pl) : (stF e lf)[0]? = some (some (.dic true (kvP e))) := rfl
theorem stF_1 (e : Ents) (lf : List Pl) : (stF e lf)[1]? = some (some (.lst (lfV lf))) := rfl
theorem stF_s0 (e e' : Ents) (lf : List Pl) : (stF e lf).set 0 (some (.dic true (kvP e'))) = stF e' lf := rfl
theorem stF_s1 (e : Ents) (lf lf' : List Pl) : (stF e lf).set 1 (some (.lst (lfV lf'))) = stF e lf' := rfl
theorem max_F (i j : Int) (st : Sto) : maxF [.dat (.int i), .dat (.int j)] st = .ok (.dat (.int (max i j))) st := by
  show Rs.ok (Va.dat (.int (if j > i then j else i))) st = _
  congr 3
  split <;> omega
theorem min_F (i j : Int) (st : Sto) : minF [.dat (.int i), .dat (.int j)] st = .ok (.dat (.int (min i j))) st := by
  show Rs.ok (Va.dat (.int (if j < i then j else i))) st = _
  congr 3
  split <;> omega
theorem at_P {p : Pl} (hp : Cel r c p) (st : Sto) : callP F_at 2 [.dat (gD r c f), .dat (plD p)] st = .ok (.dat (.int (hg f p))) st := at_D st hp.1 hp.2
theorem beside_P {p : Pl} (hp : Cel r c p) (st : Sto) : callP F_beside 3 [.dat (gD r c f), .dat (plD p), k_FOUR] st = .ok (.dat (.list ((nbp r c p).map plD))) st := beside_D st hp.1 hp.2
theorem append_P {e : Ents} {lf : List Pl} {p : Pl} (hl : lf.length ≤ 10000) : lstM appendG (.ref 1) [.dat (plD p)] (stF e lf) = .ok (.dat .none) (stF e (lf ++ [p])) := by
  rw [append_at (stF_1 e lf) (by simp [lfV]; omega)]
  have : lfV lf ++ [.dat (plD p)] = lfV (lf ++ [p]) := by simp [lfV]
  rw [this, stF_s1]
theorem isL_P (e : Ents) (lf : List Pl) : isLst (stF e lf) (.ref 1) = true := isLst_at (stF_1 e lf)
/-! ### first loop -/
theorem loop1 (hr : r ≤ 1000) (hc : c ≤ 1000) (hrc : r * c ≤ 10000) (o3 : Option Va) : ∃ o3', forS none (dTurn (gN 3) fb_flooded1) ((pls r c).map fun p => .dat (plD p)) [some (.dat (gD r c f)), some (.ref 0), some (.ref 1), o3, none, none, none, none] (stF [] []) = .ok (.nx [some (.dat (gD r c f)), some (.ref 0), some (.ref 1), o3', none, none, none, none]) (stF (enE (hg f) (eds r c (r * c))) (eds r c (r * c))) := by
  obtain ⟨ev', st', e, o, rfl, rfl⟩ := forS_inv (b := dTurn (gN 3) fb_flooded1) (h := fun p : Pl => Va.dat (plD p)) (fun k ev s => ∃ o3, ev = [some (.dat (gD r c f)), some (.ref 0), some (.ref 1), o3, none, none, none, none] ∧ s = stF (enE (hg f) (eds r c k)) (eds r c k)) (xs := pls r c) (k := 0) (ev := [some (.dat (gD r c f)), some (.ref 0), some (.ref 1), o3, none, none, none, none]) (st := stF [] []) ⟨o3, rfl, rfl⟩ fun k p ev s ha hI => by
    rw [Nat.zero_add] at *
    obtain ⟨o3, rfl, rfl⟩ := hI
    have hp : Cel r c p := pls_mem.mp (List.mem_of_getElem? ha)
    have hk := (List.getElem?_eq_some_iff.mp ha).1
    rw [pls_len] at hk
    have hlen : (eds r c k).length ≤ k := by
      have := List.length_filter_le (edB r c) ((pls r c).take k)
      rw [List.length_take] at this
      unfold eds
      omega
    have hs : eds r c (k + 1) = if edB r c p = true then eds r c k ++ [p] else eds r c k := by
      unfold eds
      rw [take_at ha, List.filter_append]
      by_cases h : edB r c p = true
      · rw [if_pos h, List.filter_cons_of_pos h]
        rfl
      · rw [if_neg h, List.filter_cons_of_neg h]
        simp
    have hnp : ¬ p ∈ eds r c k := fun z => by
      have h1 := (List.mem_filter.mp z).1
      obtain ⟨i, hi, e1⟩ := List.getElem_of_mem h1
      rw [List.length_take] at hi
      rw [List.getElem_take] at e1
      obtain ⟨h2, e2⟩ := List.getElem?_eq_some_iff.mp ha
      have h3 := (List.nodup_iff_pairwise_ne.mp (pls_nodup r c))
      have := List.pairwise_iff_getElem.mp h3 i k (by omega) h2 (by omega)
      exact this (by rw [e1, e2])
    have hn : lk (enE (hg f) (eds r c k)) p = none := by rw [lk_map, if_neg hnp]
    have sv := setV_P (p := p) (v := hg f p) (stF_0 (enE (hg f) (eds r c k)) (eds r c k)) (by simp [enE]; omega)
    rw [put_new hn, stF_s0] at sv
    have hen : enE (hg f) (eds r c k) ++ [(p, hg f p)] = enE (hg f) (eds r c k ++ [p]) := by simp [enE]
    rw [hen] at sv
    have ap := append_P (e := enE (hg f) (eds r c k ++ [p])) (lf := eds r c k) (p := p) (by omega)
    have il := isL_P (enE (hg f) (eds r c k ++ [p])) (eds r c k)
    have bs := fun st => beside_P (f := f) hp st
    have ap2 := fun st => at_P (f := f) hp st
    have ll : ∀ st, lenV [.dat (.list ((nbp r c p).map plD))] st = .ok (.dat (.int ((nbp r c p).length : Int))) st := fun st => by simp
    by_cases h : edB r c p = true
    · rw [if_pos h] at hs
      refine ⟨_, _, .inl ?_, some (.dat (plD p)), rfl, rfl⟩
      have h4 : ((nbp r c p).length : Int) < 4 := by
        have : (nbp r c p).length < 4 := by simpa [edB] using h
        omega
      rw [hs]
      generalize enE (hg f) (eds r c k) = E0 at *
      generalize enE (hg f) (eds r c k ++ [p]) = E1 at *
      generalize plD p = P at *
      generalize PyData.list ((nbp r c p).map plD) = NN at *
      simp [fb_flooded1, bs, ll, h4, ap2, sv, il, ap]
    · rw [if_neg h] at hs
      refine ⟨_, _, .inl ?_, some (.dat (plD p)), rfl, rfl⟩
      have h4 : ¬ ((nbp r c p).length : Int) < 4 := by
        have : ¬ (nbp r c p).length < 4 := by simpa [edB] using h
        omega
      rw [hs]
      generalize PyData.list ((nbp r c p).map plD) = NN at *
      generalize plD p = P at *
      simp [fb_flooded1, bs, ll, h4]
  rw [Nat.zero_add, pls_len] at e
  exact ⟨o, e⟩
end
end L_k08

set_option maxHeartbeats 2000000
namespace L_k08
open PySem PySem.Spec PyProof.Rows L2 Sk
theorem nodup_le {α : Type} [DecidableEq α] : ∀ {xs ys : List α}, xs.Nodup → (∀ x ∈ xs, x ∈ ys) → xs.length ≤ ys.length
  | [], _, _, _ => Nat.zero_le _
  | x :: s, ys, hn, h => by
    rw [List.nodup_cons] at hn
    have h1 : x ∈ ys := h x (by simp)
    have h2 := nodup_le (ys := ys.erase x) hn.2 fun z hz => by
      have : z ≠ x := fun q => hn.1 (q ▸ hz)
      exact (List.mem_erase_of_ne this).mpr (h z (List.mem_cons_of_mem _ hz))
    have h3 := List.length_erase_of_mem h1
    have h4 := List.length_pos_of_mem h1
    simp
    omega
section
variable {r c : Nat} {f : Gr}
def Cls (r c : Nat) (g : Hi) (e : Ents) (lf : List Pl) (x : Pl) : Prop := ∀ q w, lk e q = some w → ¬ q ∈ lf → ¬ q = x → Clo2 r c g e q w (nbp r c q)
/-- the cells beside one -/
theorem loop2 {here : Pl} {w : Int} {e0 : Ents} {lf0 : List Pl} {o3 o5 : Option Va} (hrc : r * c ≤ 10000) (hh : Cel r c here) (hd : Dj r c (hg f) e0 lf0) (hw : lk e0 here = some w) (hn : ¬ here ∈ lf0) (hm : ∀ q u, lk e0 q = some u → ¬ q ∈ lf0 → u ≤ w) (hc : Cls r c (hg f) e0 lf0 here) :
    ∃ e lf o5', forS none (dTurn (gN 5) fb_flooded2) ((nbp r c here).map fun p => .dat (plD p)) [some (.dat (gD r c f)), some (.ref 0), some (.ref 1), o3, some (.dat (plD here)), o5, none, none] (stF e0 lf0) = .ok (.nx [some (.dat (gD r c f)), some (.ref 0), some (.ref 1), o3, some (.dat (plD here)), o5', none, none]) (stF e lf) ∧ Dj r c (hg f) e lf ∧ (∀ q w, lk e q = some w → ¬ q ∈ lf → Clo2 r c (hg f) e q w (nbp r c q)) ∧ 2 * unf r c e + lf.length ≤ 2 * unf r c e0 + lf0.length := by
  obtain ⟨ev', st', e, e1, lf1, o5', rfl, rfl, h1, h2, h3, h4, h5, h6, h7⟩ := forS_inv (b := dTurn (gN 5) fb_flooded2) (h := fun p : Pl => Va.dat (plD p)) (fun k ev s => ∃ e lf o5, ev = [some (.dat (gD r c f)), some (.ref 0), some (.ref 1), o3, some (.dat (plD here)), o5, none, none] ∧ s = stF e lf ∧ Dj r c (hg f) e lf ∧ lk e here = some w ∧ ¬ here ∈ lf ∧ (∀ q u, lk e q = some u → ¬ q ∈ lf → u ≤ w) ∧ Cls r c (hg f) e lf here ∧ Clo2 r c (hg f) e here w ((nbp r c here).take k) ∧ 2 * unf r c e + lf.length ≤ 2 * unf r c e0 + lf0.length) (xs := nbp r c here) (k := 0) (ev := [some (.dat (gD r c f)), some (.ref 0), some (.ref 1), o3, some (.dat (plD here)), o5, none, none]) (st := stF e0 lf0) ⟨e0, lf0, o5, rfl, rfl, hd, hw, hn, hm, hc, fun p hp => by simp at hp, Nat.le_refl _⟩ fun k p ev s ha hI => by
    rw [Nat.zero_add] at *
    obtain ⟨e, lf, o5, rfl, rfl, h1, h2, h3, h4, h5, h6, h7⟩ := hI
    have hp : p ∈ nbp r c here := List.mem_of_getElem? ha
    have pc := (nbp_cel hh hp).1
    have ni := notIn_P (p := p) (stF_0 e lf)
    have ix := ixV_P (p := here) (stF_0 e lf) h2
    have ap2 := fun st => at_P (f := f) pc st
    have hlen := h1.cnt
    have hll : lf.length ≤ 10000 := by
      have : lf.length ≤ e.length := by
        have hsub : ∀ x ∈ lf, x ∈ (pls r c).filter fun p => (lk e p).isSome := fun x hx => by
          obtain ⟨v, hv⟩ := h1.lfd x hx
          exact List.mem_filter.mpr ⟨pls_mem.mpr (h1.cel x v hv), by simp [hv]⟩
        have h8 := nodup_le h1.nod hsub
        have h9 := split_len (fun p => (lk e p).isNone) (pls r c)
        rw [pls_len] at h9
        have h10 : ((pls r c).filter fun p => !(lk e p).isNone) = (pls r c).filter fun p => (lk e p).isSome := List.filter_congr fun p _ => by cases lk e p <;> rfl
        rw [h10] at h9
        unfold unf at hlen
        omega
      omega
    cases hv : lk e p with
    | some v =>
      rw [hv] at ni
      refine ⟨_, _, .inl ?_, e, lf, some (.dat (plD p)), rfl, rfl, h1, h2, h3, h4, h5, ?_, h7⟩
      · simp at ni
        generalize plD p = P at *
        generalize plD here = HH at *
        simp [fb_flooded2, ni]
      · rw [take_at ha]
        intro x hx
        rcases List.mem_append.mp hx with hx | hx
        · exact h6 x hx
        · simp at hx
          rw [hx]
          exact ⟨v, hv, h1.old h4 hv⟩
    | none =>
      rw [hv] at ni
      have sv := setV_P (p := p) (v := max (hg f p) w) (stF_0 e lf) (by omega)
      rw [stF_s0] at sv
      have ap := append_P (e := pt2 e p (max (hg f p) w)) (lf := lf) (p := p) hll
      have il := isL_P (pt2 e p (max (hg f p) w)) lf
      have hne : ¬ here = p := fun z => by rw [← z, h2] at hv; cases hv
      have npl : ¬ p ∈ lf := fun z => by
        obtain ⟨v, hv2⟩ := h1.lfd p z
        rw [hv] at hv2
        cases hv2
      have lkn : ∀ q, ¬ q = p → lk (pt2 e p (max (hg f p) w)) q = lk e q := fun q hq => by rw [lk_pt2, if_neg hq]
      have lkp : lk (pt2 e p (max (hg f p) w)) p = some (max (hg f p) w) := by rw [lk_pt2, if_pos rfl]
      refine ⟨_, _, .inl ?_, pt2 e p (max (hg f p) w), lf ++ [p], some (.dat (plD p)), rfl, rfl, h1.add h2 h3 h4 hp hv, ?_, ?_, fun q u hq hql => ?_, fun q u hq hql hqh => ?_, ?_, ?_⟩
      · simp at ni
        generalize plD p = P at *
        generalize plD here = HH at *
        generalize hE : pt2 e p (max (hg f p) w) = E1 at *
        simp [fb_flooded2, ni, ap2, ix, max_F, sv, il, ap]
      · rw [lkn here hne]
        exact h2
      · simp [h3, hne]
      · have hq1 : ¬ q = p := fun z => hql (by simp [z])
        rw [lkn q hq1] at hq
        exact h4 q u hq fun z => hql (by simp [z])
      · have hq1 : ¬ q = p := fun z => hql (by simp [z])
        rw [lkn q hq1] at hq
        exact L_k08.Clo2.add (h5 q u hq (fun z => hql (by simp [z])) hqh) hv
      · rw [take_at ha]
        intro x hx
        rcases List.mem_append.mp hx with hx | hx
        · exact L_k08.Clo2.add h6 hv x hx
        · simp at hx
          rw [hx]
          exact ⟨_, lkp, Int.le_refl _⟩
      · have := unf_put (v := max (hg f p) w) pc hv
        simp
        omega
  refine ⟨e1, lf1, o5', e, h1, fun q u hq hql => ?_, h7⟩
  rw [Nat.zero_add, List.take_length] at h6
  by_cases hqh : q = here
  · subst hqh
    rw [h2] at hq
    cases hq
    exact h6
  · exact h5 q u hq hql hqh
/-! ### till none is left -/
def kyE : CE := dBin ixV (dVar 1) (dVar 3)
def kyf (ev : Ev) : Va → Sto → Rs Va := fun y s => kyE (putE ev [3] [y]) s
theorem flood_while (hrc : r * c ≤ 10000) {o3 : Option Va} {e0 : Ents} {lf0 : List Pl} (hd : Dj r c (hg f) e0 lf0) (hc : ∀ q w, lk e0 q = some w → ¬ q ∈ lf0 → Clo2 r c (hg f) e0 q w (nbp r c q)) :
    ∃ e o3' o4 o5, whileS wt_flooded1 wb_flooded1 fuel [some (.dat (gD r c f)), some (.ref 0), some (.ref 1), o3, none, none, none, none] (stF e0 lf0) = .ok (.nx [some (.dat (gD r c f)), some (.ref 0), some (.ref 1), o3', o4, o5, none, none]) (stF e []) ∧ Dj r c (hg f) e [] ∧ ∀ q w, lk e q = some w → Clo2 r c (hg f) e q w (nbp r c q) := by
  have key := whileS_p (c := wt_flooded1) (b := wb_flooded1)
    (fun ev st m => ∃ e lf o3 o4 o5, ev = [some (.dat (gD r c f)), some (.ref 0), some (.ref 1), o3, o4, o5, none, none] ∧ st = stF e lf ∧ Dj r c (hg f) e lf ∧ (∀ q w, lk e q = some w → ¬ q ∈ lf → Clo2 r c (hg f) e q w (nbp r c q)) ∧ m = 2 * unf r c e + lf.length)
    (fun ev st => ∃ e o3 o4 o5, ev = [some (.dat (gD r c f)), some (.ref 0), some (.ref 1), o3, o4, o5, none, none] ∧ st = stF e [] ∧ Dj r c (hg f) e [] ∧ ∀ q w, lk e q = some w → Clo2 r c (hg f) e q w (nbp r c q))
    (fun ev st m ⟨e, lf, o3, o4, o5, hev, hst, h1, h2, h3⟩ => by
      subst hev hst
      have ne := neV_refs (f := plD) gd_pl (by omega) (xs := lf) (ys := []) (n := 1) (st := stF e lf) rfl
      simp only [List.map_nil] at ne
      have hmN : mkL [] = .dat (.list []) := rfl
      cases lf with
      | nil =>
        refine .inl ⟨?_, e, o3, o4, o5, rfl, rfl, h1, fun q w hq => h2 q w hq (by simp)⟩
        simp at ne
        generalize stF e [] = S0 at *
        simp [wt_flooded1, hmN, ne]
      | cons b lr =>
        have vals : ∀ p ∈ b :: lr, ∃ v, lk e p = some v := h1.lfd
        have lkk : lkOk (some (1, lfV (b :: lr))) (stF e (b :: lr)) = true := by simp [lkOk, stF]
        have hf : ∀ p ∈ b :: lr, kyf [some (.dat (gD r c f)), some (.ref 0), some (.ref 1), o3, o4, o5, none, none] (.dat (plD p)) (stF e (b :: lr)) = .ok (.dat (.int ((lk e p).getD 0))) (stF e (b :: lr)) := fun p hp => by
          obtain ⟨v, hv⟩ := vals p hp
          have ix := ixV_P (p := p) (stF_0 e (b :: lr)) hv
          rw [hv]
          generalize plD p = P at *
          generalize stF e (b :: lr) = S0 at *
          simp [kyf, kyE, putE, ix]
        obtain ⟨h, m1, m2, m3⟩ := key_min (some (1, lfV (b :: lr))) _ (fun p => (lk e p).getD 0) (stF e (b :: lr)) lkk lr b hf
        have its : itemsV (.ref 1) (stF e (b :: lr)) = .ok (lfV (b :: lr), some (1, lfV (b :: lr))) (stF e (b :: lr)) := by
          simp only [itemsV, seqOf_ref (stF_1 e (b :: lr))]
          rfl
        have dk : dKey ltW [3] (dVar 2) (dBin ixV (dVar 1) (dVar 3)) [some (.dat (gD r c f)), some (.ref 0), some (.ref 1), o3, o4, o5, none, none] (stF e (b :: lr)) = .ok (.dat (plD h)) (stF e (b :: lr)) := by
          show (itemsV (.ref 1) (stF e (b :: lr))).bind (fun p st2 => keyL ltW p.2 (kyf [some (.dat (gD r c f)), some (.ref 0), some (.ref 1), o3, o4, o5, none, none]) p.1 none st2) = _
          rw [its, Rs.bind_ok]
          show keyL ltW (some (1, lfV (b :: lr))) _ (.dat (plD b) :: lr.map fun p => .dat (plD p)) none (stF e (b :: lr)) = _
          rw [keyL, if_pos lkk, hf b (by simp), Rs.calm_ok, Rs.bind_ok]
          exact m3
        obtain ⟨w, hw⟩ := vals h m1
        have hcel := h1.cel h w hw
        have hmin : ∀ l ∈ b :: lr, ∀ v, lk e l = some v → w ≤ v := fun l hl v hv => by
          have := m2 l hl
          simp only [hw, hv, Option.getD_some] at this
          exact this
        obtain ⟨d1, d2⟩ := h1.take m1 hw hmin
        have rem := removed (n := 1) (stF_1 e (b :: lr)) h1.nod m1
        rw [stF_s1] at rem
        have hnh : ¬ h ∈ (b :: lr).filter (fun x => decide (x ≠ h)) := by simp
        have hcl : Cls r c (hg f) e ((b :: lr).filter fun x => decide (x ≠ h)) h := fun q u hq hql hqh => h2 q u hq fun z => hql (List.mem_filter.mpr ⟨z, by simpa using hqh⟩)
        obtain ⟨e2, lf2, o5', ef, d3, c3, mm⟩ := loop2 (o3 := o3) (o5 := o5) hrc hcel d1 hw hnh d2 hcl
        have hlt := filter_less h h1.nod m1
        refine .inr ⟨?_, _, stF e2 lf2, 2 * unf r c e2 + lf2.length, ?_, by omega, e2, lf2, o3, some (.dat (plD h)), o5', rfl, rfl, d3, c3, rfl⟩
        · simp at ne
          generalize stF e (b :: lr) = S0 at *
          simp [wt_flooded1, hmN, ne]
        · have il := isL_P e (b :: lr)
          have bs := fun st => beside_P (f := f) hcel st
          have itn : ∀ st, itemsV (.dat (.list ((nbp r c h).map plD))) st = .ok ((nbp r c h).map fun p => .dat (plD p), none) st := fun st => by simp
          generalize stF e (b :: lr) = S0 at *
          generalize stF e ((b :: lr).filter fun x => decide (x ≠ h)) = S1 at *
          generalize plD h = HH at *
          generalize PyData.list ((nbp r c h).map plD) = NN at *
          generalize ((nbp r c h).map fun p => Va.dat (plD p)) = NV at *
          simp [-eKey, wb_flooded1, dk, il, rem, bs, itn, ef]) fuel (2 * unf r c e0 + lf0.length) _ _ (by
        have h5 := hd.cnt
        have h6 : lf0.length ≤ 10000 := by
          have hsub : ∀ x ∈ lf0, x ∈ pls r c := fun x hx => by
            obtain ⟨v, hv⟩ := hd.lfd x hx
            exact pls_mem.mpr (hd.cel x v hv)
          have := nodup_le hd.nod hsub
          rw [pls_len] at this
          omega
        unfold fuel
        omega) ⟨e0, lf0, o3, none, none, rfl, rfl, hd, hc, rfl⟩
  obtain ⟨ev', st', e, e1, o3', o4, o5, rfl, rfl, h1, h2⟩ := key
  exact ⟨e1, o3', o4, o5, e, h1, h2⟩
theorem flooded_D (r1 : 1 ≤ r) (r2 : r ≤ 40) (c1 : 1 ≤ c) (c2 : c ≤ 40) (hb : ∀ i j, i < r → j < c → 0 ≤ f i j ∧ f i j ≤ 1000) : ∃ F : Hi, Fld r c (hg f) F ∧ ∀ st, callP F_flooded 1 [.dat (gD r c f)] st = .ok (.dat (gD r c fun i j => F (i, j))) st := by
  have hrc : r * c ≤ 10000 := by
    have : r * c ≤ 40 * 40 := Nat.mul_le_mul r2 c2
    omega
  have cg := checkGrid_D (f := f) (lo := 0) (hi := 1000) [] r1 r2 c1 c2 hb
  obtain ⟨o3, e1⟩ := loop1 (f := f) (r := r) (c := c) (by omega) (by omega) hrc none
  have hd0 := dj_0 (r := r) (c := c) (g := hg f)
  obtain ⟨e, o3', o4, o5, e2, hd, hcl⟩ := flood_while (f := f) (o3 := o3) hrc hd0 (fun q w hq hql => by
    rw [lk_map] at hq
    rw [if_neg hql] at hq
    cases hq)
  obtain ⟨F, hF, hfl⟩ := hd.done r1 hcl
  refine ⟨F, hfl, fun st => callP_1 (s2 := stF e []) ?_⟩
  have ce := cells_D (f := f) (c := c) (stF [] []) r1 (by omega) (by omega)
  have g0 := gD_at0 (c := c) (f := f) (stF e []) (show 0 < r by omega)
  have rg1 := rangeV_1 (n := r) (st := stF e []) (by omega)
  have rg2 := rangeV_1 (n := c) (st := stF e []) (by omega)
  have fr : few r = true := few_lit (by omega)
  have fc : few c = true := few_lit (by omega)
  have s0 : ([some (Ob.dic true []), some (Ob.lst [])] : Sto) = stF [] [] := rfl
  have sq : seqOf (stF [] []) (mkT [Va.ref 0, Va.ref 1]) = some (true, [.ref 0, .ref 1]) := rfl
  simp [F_flooded, mkFn, c_flooded, mkEv, cg, newL, s0, sq, ce, e1, e2, rg1, fr, wipeE]
  rw [compL_map (G := fun i : Nat => .dat (rD c fun j => F (i, j)))]
  rotate_left
  · intro i hi
    have hi : i < r := by simpa using hi
    simp [Sk.compTurn, g0, rg2, fc, wipeE]
    rw [compL_map (G := fun j : Nat => .dat (.int (F (i, j))))]
    rotate_left
    · intro j hj
      have hj : j < c := by simpa using hj
      have ix : ixV (.ref 0) (.dat (.tuple [.int (i : Int), .int (j : Int)])) (stF e []) = .ok (.dat (.int (F (i, j)))) (stF e []) := ixV_P (p := (i, j)) (stF_0 e []) (hF (i, j) ⟨hi, hj⟩)
      generalize stF e [] = S0 at *
      simp [Sk.compTurn, ix]
    simp [asF, mkL_fun (fun j : Nat => PyData.int (F (i, j))), rD_eq]
  simp [asF, mkL_fun (fun i : Nat => rD c fun j => F (i, j)), asRet, gD_eq]
end
end L_k08

set_option maxHeartbeats 2000000
namespace L_k08
open PySem PySem.Spec PyProof.Rows L2 Sk
section
variable {r c : Nat} {f : Gr}
theorem gen_tot {k : Nat} {ev : Ev} {st : Sto} (hk : k < ev.length) (hr : r ≤ 1000) (hc : c ≤ 1000) (hb : ∀ i j, i < r → j < c → -1000 ≤ f i j ∧ f i j ≤ 1000) : genL none (genTurn (gN k) (dCallB sumF (dCons (dVar k) dNil))) eatSum ((List.range r).map fun i => .dat (rD c (f i))) (.dat (.int 0)) ev st = .ok (.dat (.int (tot r c f))) st := by
  have hrow : ∀ i, i < r → -(1000 * 1000) ≤ ((List.range c).map (f i)).sum ∧ ((List.range c).map (f i)).sum ≤ 1000 * 1000 := fun i hi => by
    have h1 := sum_ge (f i) (-1000) (List.range c) fun j hj => (hb i j hi (by simpa using hj)).1
    have h2 := sum_le (f i) 1000 (List.range c) fun j hj => (hb i j hi (by simpa using hj)).2
    rw [List.length_range] at h1 h2
    omega
  have key := genL_sum (f := genTurn (gN k) (dCallB sumF (dCons (dVar k) dNil))) (ev := ev) (st := st) (h := fun i : Nat => Va.dat (rD c (f i))) (g := fun i => ((List.range c).map (f i)).sum) (B := 1000 * 1000) (by omega) (xs := List.range r) (a0 := 0) (fun i _ => by simp [-getElem?_pos, genTurn, List.getElem?_set, hk, rD_sum]) (fun i hi => hrow i (by simpa using hi)) (by
    rw [List.length_range]
    omega)
  rw [key, tot_eq]
  simp
theorem lake_D {F : Hi} (r1 : 1 ≤ r) (r2 : r ≤ 40) (c1 : 1 ≤ c) (c2 : c ≤ 40) (hb : ∀ i j, i < r → j < c → 0 ≤ f i j ∧ f i j ≤ 1000) (hf : Fld r c (hg f) F) (hF : ∀ st, callP F_flooded 1 [.dat (gD r c f)] st = .ok (.dat (gD r c fun i j => F (i, j))) st) (st : Sto) : callP F_lake_water 1 [.dat (gD r c f)] st = .ok (.dat (.int (tot r c (fun i j => F (i, j)) - tot r c f))) st := by
  refine callP_1 (s2 := []) ?_
  have hFb : ∀ i j, i < r → j < c → -1000 ≤ F (i, j) ∧ F (i, j) ≤ 1000 := fun i j hi hj => by
    have h1 := hf.ge (i, j) ⟨hi, hj⟩
    have h2 := hf.top (B := 1000) (fun p hp => (hb p.1 p.2 hp.1 hp.2).2) (i, j) ⟨hi, hj⟩
    have h3 := hb i j hi hj
    have : hg f (i, j) = f i j := rfl
    omega
  have g1 := fun ev st (h : 1 < ev.length) => gen_tot (f := fun i j => F (i, j)) (k := 1) (ev := ev) (st := st) h (show r ≤ 1000 by omega) (show c ≤ 1000 by omega) hFb
  have g2 := fun ev st (h : 2 < ev.length) => gen_tot (f := f) (k := 2) (ev := ev) (st := st) h (show r ≤ 1000 by omega) (show c ≤ 1000 by omega) fun i j hi hj => by have := hb i j hi hj; omega
  simp [F_lake_water, mkFn, c_lake_water, mkEv, hF, wipeE]
  rw [g1 _ _ (by simp)]
  simp
  rw [g2 _ _ (by simp)]
  simp [asRet]
/-! ### levels, as the law tells them -/
def L0 (r c : Nat) (g : Hi) : Hi := fun p => if edB r c p = true then g p else 1000
def near (L : Hi) (ns : List Pl) : Int := leastI (ns.map L ++ [1000])
def relax (g L : Hi) (r c : Nat) (p : Pl) : Hi := fun q => if q = p then min (L p) (max (g p) (near L (nbp r c p))) else L q
structure LvI (r c : Nat) (g F : Hi) (k : Pl → Nat) (t : Nat) (P : List Pl) (L : Hi) : Prop where
  lo : ∀ p, Cel r c p → F p ≤ L p
  up : ∀ p, Cel r c p → (Edg r c p ∨ k p < t ∨ (k p ≤ t ∧ p ∈ P)) → L p ≤ F p
theorem LvI.step {g F L : Hi} {k : Pl → Nat} {t : Nat} {P : List Pl} {p : Pl} (hfl : Fld r c g F) (hF : ∀ p, Cel r c p → F p ≤ 1000) (hk : ∀ p, Cel r c p → k p < r * c ∧ (Edg r c p ∨ ∃ q ∈ nbp r c p, k q < k p ∧ F p = max (g p) (F q))) (h : LvI r c g F k t P L) (hp : Cel r c p) : LvI r c g F k t (P ++ [p]) (relax g L r c p) := by
  refine ⟨fun q hq => ?_, fun q hq hh => ?_⟩
  · unfold relax
    by_cases e : q = p
    · rw [if_pos e, e]
      have h1 := h.lo p hp
      have h2 : F p ≤ max (g p) (near L (nbp r c p)) := by
        have hm := least_mem (xs := (nbp r c p).map L ++ [1000]) (by simp)
        rcases List.mem_append.mp hm with hm | hm
        · obtain ⟨x, hx, ex⟩ := List.mem_map.mp hm
          have h3 := hfl.le p hp x hx
          have h4 := h.lo x (nbp_cel hp hx).1
          unfold near
          rw [← ex]
          omega
        · have hm : near L (nbp r c p) = 1000 := by simpa [near] using hm
          rw [hm]
          have := hF p hp
          omega
      omega
    · rw [if_neg e]
      exact h.lo q hq
  · unfold relax
    by_cases e : q = p
    · rw [if_pos e, e]
      rw [e] at hh
      by_cases hin : Edg r c p ∨ k p < t ∨ (k p ≤ t ∧ p ∈ P)
      · have := h.up p hp hin
        omega
      · have hle : k p ≤ t := by
          rcases hh with z | z | z
          · exact absurd (.inl z) hin
          · omega
          · exact z.1
        rcases (hk p hp).2 with z | ⟨x, hx, h1, h2⟩
        · exact absurd (.inl z) hin
        · have h3 := h.up x (nbp_cel hp hx).1 (.inr (.inl (by omega)))
          have h4 : near L (nbp r c p) ≤ L x := least_le (List.mem_append_left _ (List.mem_map.mpr ⟨x, hx, rfl⟩))
          omega
    · rw [if_neg e]
      refine h.up q hq ?_
      rcases hh with z | z | ⟨z1, z2⟩
      · exact .inl z
      · exact .inr (.inl z)
      · refine .inr (.inr ⟨z1, ?_⟩)
        rcases List.mem_append.mp z2 with z2 | z2
        · exact z2
        · simp at z2
          exact absurd z2 e
theorem LvI.next {g F L : Hi} {k : Pl → Nat} {t : Nat} (h : LvI r c g F k t (pls r c) L) : LvI r c g F k (t + 1) [] L := ⟨h.lo, fun p hp hh => h.up p hp (by
  rcases hh with z | z | ⟨_, z⟩
  · exact .inl z
  · exact .inr (.inr ⟨by omega, pls_mem.mpr hp⟩)
  · simp at z)⟩
theorem LvI.start {g F : Hi} {k : Pl → Nat} (hfl : Fld r c g F) (hF : ∀ p, Cel r c p → F p ≤ 1000) : LvI r c g F k 0 [] (L0 r c g) := ⟨fun p hp => by
  unfold L0
  by_cases e : edB r c p = true
  · rw [if_pos e, hfl.edge p hp (by simpa [edB, Edg] using e)]
    exact Int.le_refl _
  · rw [if_neg e]
    exact hF p hp, fun p hp hh => by
  rcases hh with z | z | ⟨_, z⟩
  · unfold L0
    rw [if_pos (show edB r c p = true by simpa [edB, Edg] using z), hfl.edge p hp z]
    exact Int.le_refl _
  · omega
  · simp at z⟩
end
end L_k08

set_option maxHeartbeats 2000000
namespace L_k08
open PySem PySem.Spec PyProof.Rows L2 Sk
section
variable {r c : Nat} {f : Gr} {ev : Ev} {st : Sto}
theorem set_push {st : Sto} {x y : Option Ob} : (st ++ [x]).set st.length y = st ++ [y] := by
  rw [List.set_append_right _ _ (Nat.le_refl _), Nat.sub_self]
  rfl
theorem at_push {st : Sto} {x : Option Ob} : (st ++ [x])[st.length]? = some x := by simp
def dS (st : Sto) (e : Ents) : Sto := st ++ [some (.dic true (kvP e))]
theorem dS_at (st : Sto) (e : Ents) : (dS st e)[st.length]? = some (some (.dic true (kvP e))) := at_push
theorem dS_set (st : Sto) (e : Ents) (p : Pl) (v : Int) (hl : e.length ≤ 10000) : setV (.ref st.length) (.dat (plD p)) (.dat (.int v)) (dS st e) = .ok () (dS st (pt2 e p v)) := by
  rw [setV_P (dS_at st e) (by omega)]
  unfold dS
  rw [set_push]
theorem dS_ix (st : Sto) (e : Ents) {p : Pl} {v : Int} (h : lk e p = some v) : ixV (.ref st.length) (.dat (plD p)) (dS st e) = .ok (.dat (.int v)) (dS st e) := ixV_P (dS_at st e) h
/-- the levels at first -/
theorem lev1 {p : Pl} {e : Ents} (hp : Cel r c p) (hl : ev.length = 11) (h2 : ev[2]? = some (some (.dat (gD r c f)))) (h4 : ev[4]? = some (some (.ref st.length))) (hle : e.length ≤ 9000) (hn : lk e p = none) {ev0 : Ev} (hu : Up [5, 6] ev0 ev) :
    Goes (dTurn (gTp 2 (gsCons (gN 5) (gsCons (gN 6) gsNil))) fb_law1 (.dat (plD p))) ev (dS st e) fun ev' s => Up [5, 6] ev0 ev' ∧ ∃ e', s = dS st e' ∧ e'.length = e.length + 1 ∧ ∀ q, lk e' q = if q = p then some (L0 r c (hg f) p) else lk e q := by
  obtain ⟨x, y⟩ := p
  refine Goes.turn (pl_tgt 5 6 (x, y) ev (dS st e)) ?_
  unfold fb_law1
  have s1 : setV (.ref st.length) (.dat (.tuple [.int (x : Int), .int (y : Int)])) (.dat (.int 1000)) (dS st e) = .ok () (dS st (pt2 e (x, y) 1000)) := dS_set st e (x, y) 1000 (by omega)
  have hl1 : (pt2 e (x, y) 1000).length = e.length + 1 := pt2_new hn
  have lk1 : ∀ q, lk (pt2 e (x, y) 1000) q = if q = (x, y) then some 1000 else lk e q := fun q => lk_pt2 _ _ _ _
  have s2 : setV (.ref st.length) (.dat (.tuple [.int (x : Int), .int (y : Int)])) (.dat (.int (f x y))) (dS st (pt2 e (x, y) 1000)) = .ok () (dS st (pt2 (pt2 e (x, y) 1000) (x, y) (f x y))) := dS_set st _ (x, y) _ (by omega)
  have hl2 : (pt2 (pt2 e (x, y) 1000) (x, y) (f x y)).length = e.length + 1 := by
    rw [pt2_same (by rw [lk1, if_pos rfl]; simp), hl1]
  refine Goes.s1 ?_
  simp [-getElem?_pos, ls_law1, List.getElem?_set, hl, h4, s1]
  refine Goes.fin ?_
  have lb := fun st => lawBeside_T (f := f) hp.1 hp.2 st
  have ll : ∀ st, lenV [.dat (nbD r c x y)] st = .ok (.dat (.int ((nbp r c (x, y)).length : Int))) st := fun st => by simp [nbD, nbp]
  by_cases h : edB r c (x, y) = true
  · have h5 : ((nbp r c (x, y)).length : Int) < 4 := by
      have : (nbp r c (x, y)).length < 4 := by simpa [edB] using h
      omega
    simp [-getElem?_pos, ls_law2, List.getElem?_set, hl, h2, h4, lb, ll, h5, gD_at _ hp.1, rD_at _ hp.2, s2, hu]
    refine ⟨_, rfl, hl2, fun q z => ?_⟩
    rw [lk_pt2, lk1]
    unfold L0
    rw [if_pos h]
    by_cases e : (q, z) = (x, y)
    · rw [if_pos e]
      have : q = x ∧ z = y := by simpa using e
      rw [if_pos this]
      rfl
    · rw [if_neg e, if_neg e]
      rw [if_neg (by simpa using e)]
  · have h5 : ¬ ((nbp r c (x, y)).length : Int) < 4 := by
      have : ¬ (nbp r c (x, y)).length < 4 := by simpa [edB] using h
      omega
    simp [-getElem?_pos, ls_law2, List.getElem?_set, hl, h2, lb, ll, h5, hu]
    refine ⟨_, rfl, hl1, fun q z => ?_⟩
    rw [lk1]
    unfold L0
    rw [if_neg h]
    by_cases e : (q, z) = (x, y)
    · rw [if_pos e]
      have : q = x ∧ z = y := by simpa using e
      rw [if_pos this]
    · rw [if_neg e]
      rw [if_neg (by simpa using e)]
/-- one cell's level told anew -/
theorem lev2 {p : Pl} {e : Ents} {L : Hi} (hp : Cel r c p) (hl : ev.length = 11) (h2 : ev[2]? = some (some (.dat (gD r c f)))) (h4 : ev[4]? = some (some (.ref st.length))) (hle : e.length ≤ 9000) (hL : ∀ q, Cel r c q → lk e q = some (L q)) :
    Goes (dTurn (gTp 2 (gsCons (gN 5) (gsCons (gN 6) gsNil))) fb_law2 (.dat (plD p))) ev (dS st e) fun ev' s => Up [5, 6, 8] ev ev' ∧ ∃ e', s = dS st e' ∧ e'.length = e.length ∧ ∀ q, Cel r c q → lk e' q = some (relax (hg f) L r c p q) := by
  obtain ⟨x, y⟩ := p
  refine Goes.turn (pl_tgt 5 6 (x, y) ev (dS st e)) ?_
  unfold fb_law2
  have lb := fun st => lawBeside_T (f := f) hp.1 hp.2 st
  have hn4 := nb_len r c x y
  have fn : few (nb r c x y).length = true := few_lit (by omega)
  refine Goes.s1 ?_
  simp [-getElem?_pos, ls_law3, List.getElem?_set, hl, h2, lb, fn, wipeE]
  rw [compL_map (G := fun q : Pl => .dat (.int (L q)))]
  rotate_left
  · intro q hq
    have hqc := (nbp_cel hp hq).1
    have ix := dS_ix st e (hL q hqc)
    generalize dS st e = S0 at *
    generalize plD q = Q at *
    simp [-getElem?_pos, Sk.compTurn, List.getElem?_set, hl, h4, ix]
  have hm : mkL ((nb r c x y).map fun q : Pl => Va.dat (.int (L q))) = .dat (.list (((nb r c x y).map L).map .int)) := by
    rw [mkL_fun (fun q : Pl => PyData.int (L q)), List.map_map]
    rfl
  have ha : ∀ st, addV (.dat (.list (((nb r c x y).map L).map .int))) (.dat (.list [.int 1000])) st = .ok (.dat (.list (((nb r c x y).map L ++ [1000]).map .int))) st := fun st => by
    rw [addV_l (by simp; omega)]
    simp
  have hmin := fun st => minF_l (xs := (nb r c x y).map L ++ [1000]) st (by simp)
  have hmk1 : mkL [Va.dat (.int 1000)] = .dat (.list [.int 1000]) := rfl
  simp only [asF, hm, Rs.bind_ok]
  generalize PyData.list (((nb r c x y).map L).map .int) = D1 at *
  generalize PyData.list (((nb r c x y).map L ++ [1000]).map .int) = D2 at *
  simp [-getElem?_pos, ha, hmin, hmk1]
  have hnear : leastI ((nb r c x y).map L ++ [1000]) = near L (nbp r c (x, y)) := rfl
  rw [hnear]
  refine Goes.fin ?_
  have ix : ixV (.ref st.length) (.dat (.tuple [.int (x : Int), .int (y : Int)])) (dS st e) = .ok (.dat (.int (L (x, y)))) (dS st e) := dS_ix st e (hL (x, y) hp)
  have sv : setV (.ref st.length) (.dat (.tuple [.int (x : Int), .int (y : Int)])) (.dat (.int (min (L (x, y)) (max (f x y) (near L (nbp r c (x, y))))))) (dS st e) = .ok () (dS st (pt2 e (x, y) (min (L (x, y)) (max (f x y) (near L (nbp r c (x, y))))))) := dS_set st e (x, y) _ (by omega)
  have hsame : (pt2 e (x, y) (min (L (x, y)) (max (f x y) (near L (nbp r c (x, y)))))).length = e.length := pt2_same (by rw [hL (x, y) hp]; simp)
  simp [-getElem?_pos, ls_law4, List.getElem?_set, hl, h2, h4, ix, gD_at _ hp.1, rD_at _ hp.2, max_F, min_F, sv, Up.refl]
  refine ⟨_, rfl, hsame, fun q z hq => ?_⟩
  rw [lk_pt2]
  unfold relax
  by_cases e : (q, z) = (x, y)
  · rw [if_pos e, if_pos e]
    rfl
  · rw [if_neg e, if_neg e]
    exact hL (q, z) hq
end
end L_k08

set_option maxHeartbeats 2000000
namespace L_k08
open PySem PySem.Spec PyProof.Rows L2 Sk
section
variable {ev : Ev} {st : Sto}
theorem tot_sub (r c : Nat) (F f : Gr) : ((pls r c).map fun p => F p.1 p.2 - f p.1 p.2).sum = tot r c F - tot r c f := by
  unfold tot
  generalize pls r c = xs
  induction xs with
  | nil => rfl
  | cons a s ih =>
    simp only [List.map_cons, List.sum_cons, ih]
    omega
theorem body {D q : Nat} (hd : Dic D st) (hq : q < D) (hl : ev.length = 11) (h1 : ev[1]? = some (some (.ref q))) :
    Goes fb_law4 ev st fun ev' st' => ev'.length = 11 ∧ Dic D st' := by
  unfold fb_law4
  obtain ⟨z, st1, z1, z2, e1, d1, _⟩ := roll_dic (m := 2) hd hq (by omega) (by omega)
  obtain ⟨hi, hhi, hi1, hi2⟩ : ∃ hi : Int, (∀ st, ixV (.dat (.list [.int 5, .int 10])) (.dat (.int z)) st = .ok (.dat (.int hi)) st) ∧ 1 ≤ hi ∧ hi ≤ 10 := by
    have : z = 0 ∨ z = 1 := by omega
    rcases this with rfl | rfl
    · exact ⟨5, fun _ => rfl, by omega, by omega⟩
    · exact ⟨10, fun _ => rfl, by omega, by omega⟩
  obtain ⟨f, r, c, st2, e2, r1, r2, c1, c2, hb0, d2, _⟩ := grid_drawD (most := 6) (lo := 0) (hi := hi) d1 hq (by omega) (by omega) (by omega) (by omega)
  have e2 : callO F__law_grid 4 [.ref q, .dat (.int 6), .dat (.int 0), .dat (.int hi)] st1 = .ok (.dat (gD r c f)) st2 := e2
  have hb : ∀ i j, i < r → j < c → 0 ≤ f i j ∧ f i j ≤ 1000 := fun i j h1 h2 => by have := hb0 i j h1 h2; omega
  have hr : r ≤ 1000 := by omega
  have hc : c ≤ 1000 := by omega
  have hrc : r * c ≤ 36 := Nat.mul_le_mul r2 c2
  obtain ⟨F, hfl, hF⟩ := flooded_D (f := f) r1 (by omega) c1 (by omega) hb
  have hFt : ∀ p, Cel r c p → F p ≤ 1000 := hfl.top fun p hp => (hb p.1 p.2 hp.1 hp.2).2
  have hFb : ∀ i j, i < r → j < c → 0 ≤ F (i, j) ∧ F (i, j) ≤ 1000 := fun i j h1 h2 => by
    have h3 := hfl.ge (i, j) ⟨h1, h2⟩
    have h4 := hFt (i, j) ⟨h1, h2⟩
    have h5 := hb i j h1 h2
    have : hg f (i, j) = f i j := rfl
    omega
  obtain ⟨F2, hfl2, hF2⟩ := flooded_D (f := fun i j => F (i, j)) r1 (show r ≤ 40 by omega) c1 (show c ≤ 40 by omega) hFb
  have hFF : ∀ p, Cel r c p → F2 p = F p := fun p hp => hfl2.uniq hfl.again p hp
  have m2' : ∀ a b : PyData, mkL [.dat a, .dat b] = .dat (.list [a, b]) := fun _ _ => rfl
  refine Goes.s1 ?_
  simp [-getElem?_pos, ls_law5, h1, m2', e1, hhi, e2]
  refine Goes.s1 ?_
  have mt : ∀ n, mkT [Va.dat (psD r c), .ref n] = .seq true [.dat (psD r c), .ref n] := fun _ => rfl
  have sq : ∀ n st, seqOf st (.seq true [.dat (psD r c), .ref n]) = some (true, [.dat (psD r c), .ref n]) := fun _ _ => rfl
  simp [-getElem?_pos, ls_law6, List.getElem?_set, hl, lawPlaces_D _ r1 hr hc, mt, sq]
  generalize hev : (((ev.set 2 (some (.dat (gD r c f)))).set 3 (some (.dat (psD r c)))).set 4 (some (.ref st2.length)) : Ev) = ev0
  have l0 : ev0.length = 11 := by rw [← hev]; simpa using hl
  have b2 : ev0[2]? = some (some (.dat (gD r c f))) := by rw [← hev]; simp [-getElem?_pos, List.getElem?_set, hl]
  have b3 : ev0[3]? = some (some (.dat (psD r c))) := by rw [← hev]; simp [-getElem?_pos, List.getElem?_set, hl]
  have b4 : ev0[4]? = some (some (.ref st2.length)) := by rw [← hev]; simp [-getElem?_pos, List.getElem?_set, hl]
  clear hev hl h1
  refine Goes.seqG (Goes.loop (st0 := dS st2 []) (xs := pls r c) (h := fun p => Va.dat (plD p)) (fun k ev s => Up [5, 6] ev0 ev ∧ ∃ e, s = dS st2 e ∧ e.length = k ∧ ∀ q, lk e q = if q ∈ (pls r c).take k then some (L0 r c (hg f) q) else none) (by simp [-getElem?_pos, b3]; rfl) ⟨Up.refl _ _, [], rfl, rfl, fun q => by simp [lk]⟩ ?_) ?_
  · rintro k p ev s ha ⟨hu, e, rfl, he, hlk⟩
    have hp : Cel r c p := pls_mem.mp (List.mem_of_getElem? ha)
    have hk := (List.getElem?_eq_some_iff.mp ha).1
    rw [pls_len] at hk
    have hnp : ¬ p ∈ (pls r c).take k := fun z => by
      obtain ⟨i, hi, e1⟩ := List.getElem_of_mem z
      rw [List.length_take] at hi
      rw [List.getElem_take] at e1
      obtain ⟨h2, e2⟩ := List.getElem?_eq_some_iff.mp ha
      have h3 := (List.nodup_iff_pairwise_ne.mp (pls_nodup r c))
      have := List.pairwise_iff_getElem.mp h3 i k (by omega) h2 (by omega)
      exact this (by rw [e1, e2])
    refine (lev1 (f := f) hp (hu.len l0) (hu.at b2) (hu.at b4) (by omega) (by rw [hlk, if_neg hnp]) hu).mono ?_
    rintro ev' s' ⟨hu2, e', rfl, he', hlk'⟩
    refine ⟨hu2, e', rfl, by omega, fun x => ?_⟩
    rw [hlk', hlk, take_at ha]
    by_cases hx : x = p
    · rw [if_pos hx, if_pos (by simp [hx]), hx]
    · rw [if_neg hx]
      by_cases hx2 : x ∈ (pls r c).take k
      · rw [if_pos hx2, if_pos (List.mem_append_left _ hx2)]
      · rw [if_neg hx2, if_neg (by simp [hx2, hx])]
  rintro ev1 s ⟨hu, e0, rfl, he0, hlk0⟩
  rw [List.take_length] at hlk0
  have l1 := hu.len l0
  have a2 := hu.at (i := 2) b2
  have a3 := hu.at (i := 3) b3
  have a4 := hu.at (i := 4) b4
  clear hu b2 b3 b4 l0
  obtain ⟨k, hk⟩ := hfl.rank
  have pl : ∀ st, lenV [.dat (psD r c)] st = .ok (.dat (.int ((r * c : Nat) : Int))) st := fun st => by
    rw [← pls_len]
    simp [psD]
  have rg := fun st => rangeV_1 (n := r * c) (st := st) (by omega)
  refine Goes.seqG (Goes.loop (st0 := dS st2 e0) (xs := List.range (r * c)) (h := fun i : Nat => Va.dat (.int (i : Int))) (fun t ev s => Up [5, 6, 7, 8] ev1 ev ∧ ∃ e L, s = dS st2 e ∧ e.length ≤ 9000 ∧ (∀ q, Cel r c q → lk e q = some (L q)) ∧ LvI r c (hg f) F k t [] L) (by simp only [eRange, eCons, eCallB, eVar, a3, eNil, Rs.bind_ok, pl, rg]) ⟨Up.refl _ _, e0, L0 r c (hg f), rfl, by rw [he0, pls_len]; omega, fun q hq => by rw [hlk0, if_pos (pls_mem.mpr hq)], LvI.start hfl hFt⟩ ?_) ?_
  · rintro t x ev s ha ⟨hu, e, L, rfl, he, hlk, hL⟩
    obtain ⟨rfl, hx⟩ := range_at ha
    refine Goes.turn (ev1 := ev.set 7 (some (.dat (.int (x : Int))))) (st1 := dS st2 e) rfl ?_
    unfold fb_law3
    have lx := hu.len l1
    have x2 := hu.at (i := 2) a2
    have x3 := hu.at (i := 3) a3
    have x4 := hu.at (i := 4) a4
    refine (Goes.loop (st0 := dS st2 e) (xs := pls r c) (h := fun p => Va.dat (plD p)) (fun m ev' s => Up [5, 6, 8] (ev.set 7 (some (.dat (.int (x : Int))))) ev' ∧ ∃ e L, s = dS st2 e ∧ e.length ≤ 9000 ∧ (∀ q, Cel r c q → lk e q = some (L q)) ∧ LvI r c (hg f) F k x ((pls r c).take m) L) (by simp [-getElem?_pos, x3]) ⟨Up.refl _ _, e, L, rfl, he, hlk, by simpa using hL⟩ ?_).mono ?_
    · rintro m p ev' s hm ⟨hu2, e, L, rfl, he, hlk, hL⟩
      have hp : Cel r c p := pls_mem.mp (List.mem_of_getElem? hm)
      refine (lev2 (f := f) hp (hu2.len (by simpa using lx)) (hu2.at (by simp [-getElem?_pos, x2])) (hu2.at (by simp [-getElem?_pos, x4])) he hlk).mono ?_
      rintro ev'' s' ⟨hu3, e', rfl, he', hlk'⟩
      exact ⟨hu2.trans hu3, e', _, rfl, by omega, hlk', by rw [take_at hm]; exact hL.step hfl hFt hk hp⟩
    · rintro ev' s ⟨hu2, e, L, rfl, he, hlk, hL⟩
      rw [List.take_length] at hL
      have h0 : Up [5, 6, 7, 8] ev1 (ev.set 7 (some (.dat (.int (x : Int))))) := by simpa using hu
      exact ⟨h0.trans hu2.wide, e, L, rfl, he, hlk, hL.next⟩
  rintro ev2 s ⟨hu, e, L, rfl, he, hlk, hL⟩
  rw [List.length_range] at hL
  have hLF : ∀ p, Cel r c p → L p = F p := fun p hp => Int.le_antisymm (hL.up p hp (.inr (.inl (hk p hp).1))) (hL.lo p hp)
  have l2 := hu.len l1
  have c2' := hu.at (i := 2) a2
  have c3 := hu.at (i := 3) a3
  have c4 := hu.at (i := 4) a4
  clear hu a2 a3 a4 l1
  have fp : few (pls r c).length = true := few_lit (by rw [pls_len]; omega)
  have ixd : ∀ p, Cel r c p → ixV (.ref st2.length) (.dat (plD p)) (dS st2 e) = .ok (.dat (.int (F p))) (dS st2 e) := fun p hp => dS_ix st2 e (by rw [hlk p hp, hLF p hp])
  have d3 : Dic D (dS st2 e) := d2.push _
  have ne0 : ∀ st, neV (.dat (.list [])) (.dat (.list [])) st = .ok (.dat (.bool false)) st := fun st => same_neV (gd_lst gd_int) (by omega) [] st
  have hf0 : (pls r c).filter (fun _ => false) = [] := List.filter_eq_nil_iff.mpr fun _ _ => by simp
  refine Goes.s1 ?_
  simp [-getElem?_pos, ls_law7, c2', hF]
  refine Goes.s1 ?_
  simp [-getElem?_pos, ls_law8, List.getElem?_set, l2, c3, fp, wipeE]
  rw [compL_filter (G := fun p => .dat (plD p)) (p := fun _ => false)]
  rotate_left
  · rintro ⟨x, y⟩ hp
    obtain ⟨hx, hy⟩ := pls_mem.mp hp
    have ix := ixd (x, y) ⟨hx, hy⟩
    have p0 : ∀ st, ixV (.dat (plD (x, y))) (.dat (.int 0)) st = .ok (.dat (.int x)) st := fun _ => rfl
    have p1 : ∀ st, ixV (.dat (plD (x, y))) (.dat (.int 1)) st = .ok (.dat (.int y)) st := fun _ => rfl
    generalize plD (x, y) = P at *
    generalize dS st2 e = S0 at *
    simp [-getElem?_pos, Sk.compTurn, List.getElem?_set, l2, c4, p0, p1, gD_at _ hx, rD_at _ hy, ix]
  have hmN : mkL [] = .dat (.list []) := rfl
  simp [asF, hf0, hmN, ne0]
  refine Goes.s1 ?_
  have lw := fun st => lake_D (f := f) r1 (show r ≤ 40 by omega) c1 (show c ≤ 40 by omega) hb hfl hF st
  have lw2 := fun st => lake_D (f := fun i j => F (i, j)) r1 (show r ≤ 40 by omega) c1 (show c ≤ 40 by omega) hFb hfl2 hF2 st
  have ht2 : tot r c (fun i j => F2 (i, j)) = tot r c fun i j => F (i, j) := by
    unfold tot
    congr 1
    exact List.map_congr_left fun p hp => hFF (p.1, p.2) (pls_mem.mp hp)
  have nF := fun st => gD_neV (r := r) (c := c) (f := fun i j => F2 (i, j)) (g := fun i j => F (i, j)) (fun i j h1 h2 => hFF (i, j) ⟨h1, h2⟩) st
  simp [-getElem?_pos, ls_law9, List.getElem?_set, l2, c2', hF2, nF, lw, c3, fp, wipeE]
  rw [compL_map (G := fun p : Pl => .dat (.int (F (p.1, p.2) - f p.1 p.2)))]
  rotate_left
  · rintro ⟨x, y⟩ hp
    obtain ⟨hx, hy⟩ := pls_mem.mp hp
    have ix : ixV (.ref st2.length) (.dat (.tuple [.int (x : Int), .int (y : Int)])) (dS st2 e) = .ok (.dat (.int (F (x, y)))) (dS st2 e) := ixd (x, y) ⟨hx, hy⟩
    generalize dS st2 e = S0 at *
    simp [-getElem?_pos, Sk.compTurn, plD, List.getElem?_set, l2, c2', c4, gD_at _ hx, rD_at _ hy, ix]
  have hsum := tot_sub r c (fun i j => F (i, j)) f
  have hs1 := fun st => sumF_lf (fun p : Pl => F (p.1, p.2) - f p.1 p.2) (pls r c) st
  rw [hsum] at hs1
  have hm9 := mkL_fun (fun p : Pl => PyData.int (F (p.1, p.2) - f p.1 p.2)) (pls r c)
  simp only [asF, hm9, Rs.bind_ok, hs1]
  simp
  refine Goes.fin ?_
  simp [-getElem?_pos, ls_law10, List.getElem?_set, l2, lw2, ht2]
  exact d3
end
theorem law_true : ∀ ns : List Int, ns.length ≤ 63 → ∃ st, F_law [scriptV ns] [] = .ok (.dat (.bool true)) st := fun ns _ =>
  law_all (N := 11) (most := 3) (body := fb_law4) (by omega) (by omega) (by omega) (fun D n ev st hd hn hlen h1 => body hd hn hlen h1) fun ev st _ => ⟨st, by simp⟩
end L_k08

set_option maxHeartbeats 4000000
namespace L_k08
open PySem PySem.Spec PyProof.Rows L2 Sk GxR
/-! ### the text by places -/
def top (i : Nat) : Stmt := PySem.Challenge.pw_skytable_k08_lakes_on_a_land.main.body.getD i (.Pass ⟨0, 0, 0, 0⟩)
abbrev s__law_dice : Stmt := top 20
abbrev s__law_rounds : Stmt := top 22
abbrev s__law_roll : Stmt := top 21
abbrev s__law_grid : Stmt := top 23
abbrev s__law_places : Stmt := top 24
abbrev s__law_beside : Stmt := top 25
abbrev s_is_whole : Stmt := top 7
abbrev s_is_grid : Stmt := top 8
abbrev s_check_grid : Stmt := top 9
abbrev s_size_of : Stmt := top 10
abbrev s_cells : Stmt := top 11
abbrev s_within : Stmt := top 12
abbrev s_beside : Stmt := top 13
abbrev s_at : Stmt := top 14
abbrev s_flooded : Stmt := top 17
abbrev s_lake_water : Stmt := top 18
abbrev s_law : Stmt := top 26
/-! ### the top -/
structure Tops (K : PySem.W.Frag) (mg : Str → Option Value) where
  f__law_dice : Addr
  d__law_dice : FuncData
  F__law_dice : FunD K "_law_dice" "_law_dice" (defArgs s__law_dice) (defBody s__law_dice) (defScope s__law_dice) [] [] f__law_dice d__law_dice
  m__law_dice : mg "_law_dice" = some (.ref f__law_dice)
  b__law_dice : Binds K d__law_dice ["cell"] []
  f__law_rounds : Addr
  d__law_rounds : FuncData
  F__law_rounds : FunD K "_law_rounds" "_law_rounds" (defArgs s__law_rounds) (defBody s__law_rounds) (defScope s__law_rounds) [] [] f__law_rounds d__law_rounds
  m__law_rounds : mg "_law_rounds" = some (.ref f__law_rounds)
  b__law_rounds : Binds K d__law_rounds ["script", "most"] []
  f__law_roll : Addr
  d__law_roll : FuncData
  F__law_roll : FunD K "_law_roll" "_law_roll" (defArgs s__law_roll) (defBody s__law_roll) (defScope s__law_roll) [] [] f__law_roll d__law_roll
  m__law_roll : mg "_law_roll" = some (.ref f__law_roll)
  b__law_roll : Binds K d__law_roll ["dice", "many"] []
  f__law_grid : Addr
  d__law_grid : FuncData
  F__law_grid : FunD K "_law_grid" "_law_grid" (defArgs s__law_grid) (defBody s__law_grid) (defScope s__law_grid) [] [] f__law_grid d__law_grid
  m__law_grid : mg "_law_grid" = some (.ref f__law_grid)
  b__law_grid : Binds K d__law_grid ["dice", "most", "low", "high"] []
  f__law_places : Addr
  d__law_places : FuncData
  F__law_places : FunD K "_law_places" "_law_places" (defArgs s__law_places) (defBody s__law_places) (defScope s__law_places) [] [] f__law_places d__law_places
  m__law_places : mg "_law_places" = some (.ref f__law_places)
  b__law_places : Binds K d__law_places ["grid"] []
  f__law_beside : Addr
  d__law_beside : FuncData
  F__law_beside : FunD K "_law_beside" "_law_beside" (defArgs s__law_beside) (defBody s__law_beside) (defScope s__law_beside) [] [] f__law_beside d__law_beside
  m__law_beside : mg "_law_beside" = some (.ref f__law_beside)
  b__law_beside : Binds K d__law_beside ["grid", "place"] []
  f_is_whole : Addr
  d_is_whole : FuncData
  F_is_whole : FunD K "is_whole" "is_whole" (defArgs s_is_whole) (defBody s_is_whole) (defScope s_is_whole) [] [] f_is_whole d_is_whole
  m_is_whole : mg "is_whole" = some (.ref f_is_whole)
  b_is_whole : Binds K d_is_whole ["thing", "low", "high"] []
  f_is_grid : Addr
  d_is_grid : FuncData
  F_is_grid : FunD K "is_grid" "is_grid" (defArgs s_is_grid) (defBody s_is_grid) (defScope s_is_grid) [.int (-1000000000), .int 1000000000] [] f_is_grid d_is_grid
  m_is_grid : mg "is_grid" = some (.ref f_is_grid)
  b_is_grid : Binds K d_is_grid ["thing", "low", "high"] []
  o_is_grid : Addr
  P_is_grid : Addr
  c_is_grid : d_is_grid.code = .ref o_is_grid
  f_check_grid : Addr
  d_check_grid : FuncData
  F_check_grid : FunD K "check_grid" "check_grid" (defArgs s_check_grid) (defBody s_check_grid) (defScope s_check_grid) [] [] f_check_grid d_check_grid
  m_check_grid : mg "check_grid" = some (.ref f_check_grid)
  b_check_grid : Binds K d_check_grid ["thing", "low", "high"] []
  f_size_of : Addr
  d_size_of : FuncData
  F_size_of : FunD K "size_of" "size_of" (defArgs s_size_of) (defBody s_size_of) (defScope s_size_of) [] [] f_size_of d_size_of
  m_size_of : mg "size_of" = some (.ref f_size_of)
  b_size_of : Binds K d_size_of ["grid"] []
  f_cells : Addr
  d_cells : FuncData
  F_cells : FunD K "cells" "cells" (defArgs s_cells) (defBody s_cells) (defScope s_cells) [] [] f_cells d_cells
  m_cells : mg "cells" = some (.ref f_cells)
  b_cells : Binds K d_cells ["grid"] []
  f_within : Addr
  d_within : FuncData
  F_within : FunD K "within" "within" (defArgs s_within) (defBody s_within) (defScope s_within) [] [] f_within d_within
  m_within : mg "within" = some (.ref f_within)
  b_within : Binds K d_within ["grid", "place"] []
  f_beside : Addr
  d_beside : FuncData
  F_beside : FunD K "beside" "beside" (defArgs s_beside) (defBody s_beside) (defScope s_beside) [] [] f_beside d_beside
  m_beside : mg "beside" = some (.ref f_beside)
  b_beside : Binds K d_beside ["grid", "place", "steps"] []
  f_at : Addr
  d_at : FuncData
  F_at : FunD K "at" "at" (defArgs s_at) (defBody s_at) (defScope s_at) [] [] f_at d_at
  m_at : mg "at" = some (.ref f_at)
  b_at : Binds K d_at ["grid", "place"] []
  f_flooded : Addr
  d_flooded : FuncData
  F_flooded : FunD K "flooded" "flooded" (defArgs s_flooded) (defBody s_flooded) (defScope s_flooded) [] [] f_flooded d_flooded
  m_flooded : mg "flooded" = some (.ref f_flooded)
  b_flooded : Binds K d_flooded ["grid"] []
  o_flooded : Addr
  P_flooded : Addr
  c_flooded : d_flooded.code = .ref o_flooded
  f_lake_water : Addr
  d_lake_water : FuncData
  F_lake_water : FunD K "lake_water" "lake_water" (defArgs s_lake_water) (defBody s_lake_water) (defScope s_lake_water) [] [] f_lake_water d_lake_water
  m_lake_water : mg "lake_water" = some (.ref f_lake_water)
  b_lake_water : Binds K d_lake_water ["grid"] []
  o_lake_water : Addr
  P_lake_water : Addr
  c_lake_water : d_lake_water.code = .ref o_lake_water
  f_law : Addr
  d_law : FuncData
  F_law : FunD K "law" "law" (defArgs s_law) (defBody s_law) (defScope s_law) [] [] f_law d_law
  m_law : mg "law" = some (.ref f_law)
  b_law : Binds K d_law ["script"] []
  n_abs : mg "abs" = none
  n_all : mg "all" = none
  n_bool : mg "bool" = none
  n_int : mg "int" = none
  n_isinstance : mg "isinstance" = none
  n_len : mg "len" = none
  n_max : mg "max" = none
  n_min : mg "min" = none
  n_range : mg "range" = none
  n_sum : mg "sum" = none
  n_tuple : mg "tuple" = none
  a_FOUR : Addr
  m_FOUR : mg "FOUR" = some (.ref a_FOUR)
  q_FOUR : KV K (.ref a_FOUR) k_FOUR
  t_HIGH : Tok
  m_HIGH : mg "HIGH" = some (.int 1000 t_HIGH)
  t_WIDE : Tok
  m_WIDE : mg "WIDE" = some (.int 40 t_WIDE)
  x_BadGrid : Addr
  xm_BadGrid : mg "BadGrid" = some (.ref x_BadGrid)
  xk_BadGrid : PySem.W.keepIn K (.ref x_BadGrid) = true
  xb_BadGrid : PySem.W.subIn K (.ref x_BadGrid) (.type "BaseException") = some true
  xt_BadGrid : PySem.W.typeIn K (.ref x_BadGrid) = some (.type "type")
  xq_BadGrid : PySem.W.excIn K x_BadGrid [.type "ValueError", .type "Exception", .type "BaseException", .type "object"] "ValueError.__new__" = true
/-- the tables of the defs that hold generator expressions -/
def tabs {K : PySem.W.Frag} {mg : Str → Option Value} (T : Tops K mg) : List (Addr × Addr) := [(T.o_is_grid, T.P_is_grid), (T.o_flooded, T.P_flooded), (T.o_lake_water, T.P_lake_water)]
def kinds : List (Option Str) := [none, some (("flooded" ++ ".<locals>." : Str) ++ "<lambda>"), none]
def tbT {K : PySem.W.Frag} {mg : Str → Option Value} (T : Tops K mg) : List (Addr × Option Str) := ((tabs T).zip kinds).map fun p => (p.1.2, p.2)
def cfg {K : PySem.W.Frag} {mg : Str → Option Value} (T : Tops K mg) (x : Xt) : Cfg := { K := K, T := tbT T, cl := x.cl, hid := x.hid, ko := x.ko, ec := fun n => match n with | 1 => some T.x_BadGrid | _ => none, ic := fun _ => none }
structure Tabs {K : PySem.W.Frag} {mg : Str → Option Value} (T : Tops K mg) (base : Heap) : Prop where
  t_is_grid : TabB base mg T.o_is_grid T.P_is_grid
  p_is_grid : (T.P_is_grid, none) ∈ tbT T
  q_is_grid : ∀ q, (T.P_is_grid, some q) ∉ tbT T
  t_flooded : TabB base mg T.o_flooded T.P_flooded
  p_flooded : (T.P_flooded, some (("flooded" ++ ".<locals>." : Str) ++ "<lambda>")) ∈ tbT T
  q_flooded : ∀ p ∈ tbT T, p.1 = T.P_flooded → p.2 = some (("flooded" ++ ".<locals>." : Str) ++ "<lambda>")
  t_lake_water : TabB base mg T.o_lake_water T.P_lake_water
  p_lake_water : (T.P_lake_water, none) ∈ tbT T
  q_lake_water : ∀ q, (T.P_lake_water, some q) ∉ tbT T
theorem Tabs.up {K : PySem.W.Frag} {mg : Str → Option Value} {T : Tops K mg} {base B : Heap} (t : Tabs T base) (h : ∀ b o, base.get? b = some o → B.get? b = some o) : Tabs T B := { t_is_grid := ⟨t.t_is_grid.code.keeps h, t.t_is_grid.bm.keeps h, t.t_is_grid.gP⟩, p_is_grid := t.p_is_grid, q_is_grid := t.q_is_grid, t_flooded := ⟨t.t_flooded.code.keeps h, t.t_flooded.bm.keeps h, t.t_flooded.gP⟩, p_flooded := t.p_flooded, q_flooded := t.q_flooded, t_lake_water := ⟨t.t_lake_water.code.keeps h, t.t_lake_water.bm.keeps h, t.t_lake_water.gP⟩, p_lake_water := t.p_lake_water, q_lake_water := t.q_lake_water }
/-! ### each def once -/
section
variable {P : Program} {w : World} {K : PySem.W.Frag} {mg : Str → Option Value} {base : Heap}
theorem S__law_dice : FnScope ["cell"] ["cell"] (defScope s__law_dice) := ⟨rfl, rfl, rfl, by decide +kernel, rfl, by decide +kernel, by decide +kernel⟩
theorem ok__law_dice (T : Tops K mg) (TB : Tabs T base) (x : Xt) : FnOk P w K mg base (L2.CX P w) 1 T.f__law_dice T.d__law_dice ["cell"] (spF (cfg T x) 1 F__law_dice) :=
  fn_okD (C := cfg T x) (k := 0) (c := c__law_dice) T.F__law_dice S__law_dice rfl rfl fun cdv A outer s H E hcd hr =>
    (fss_cons (fs_if (ft_chain op_lt op_lt os_lt os_lt (fe_bin op_sub os_sub fe_int fe_int) (fv 0) fe_int) (fss_one (fs_ret (fe_lstM (fa_cons (fe_callB call_abs cs_abs rfl T.n_abs (by decide +kernel) (fa_cons (fv 0) fa_nil)) (fa_cons fe_int (fa_cons fe_int fa_nil)))))) fss_nil)
    (fss_one (fs_ret (fe_lstM (fa_cons (fv 0) (fa_cons (fe_bin op_addX os_add fe_int (fe_bin op_mod os_mod (fe_callTy call_int1 cs_int rfl T.n_int (by decide +kernel) (fa_cons (fv 0) fa_nil)) fe_int)) (fa_cons (fe_callTy call_int1 cs_int rfl T.n_int (by decide +kernel) (fa_cons (fe_cmp op_ge os_ge (fv 0) (fe_bin op_pow os_pow fe_int fe_int) (nomark _)) fa_nil)) fa_nil)))))))
theorem S__law_rounds : FnScope ["script", "most", "cells_v", "cell"] ["script", "most"] (defScope s__law_rounds) := ⟨rfl, rfl, rfl, by decide +kernel, rfl, by decide +kernel, by decide +kernel⟩
theorem ok__law_rounds (T : Tops K mg) (TB : Tabs T base) (x : Xt) : FnOk P w K mg base (L2.CX P w) 2 T.f__law_rounds T.d__law_rounds ["script", "most"] (spF (cfg T x) 2 F__law_rounds) :=
  fn_okD (C := cfg T x) (k := 1) (c := c__law_rounds) T.F__law_rounds S__law_rounds rfl rfl fun cdv A outer s H E hcd hr =>
    (fss_cons (fs_set S__law_rounds.nd rfl (by first | exact Or.inl rfl | exact Or.inr rfl) (fe_slice rfl (fv 0) fo_none (fo_some (fv 1))))
    (fss_cons (fs_if (ft_cmp (op_eqX hr.units) os_eq (fv 2) (fe_lst fa_nil) (nomark _)) (fss_one (fs_set S__law_rounds.nd rfl (by first | exact Or.inl rfl | exact Or.inr rfl) (fe_lst (fa_cons fe_int fa_nil)))) fss_nil)
    (fss_one (fs_ret (fe_lc (own := [("cell", 3)]) mk_F rfl S__law_rounds.nd (fi_seq rfl (fv 2)) (blkOk_by (by first | (show blkC ["script", "most", "cells_v", "cell"] (defScope s__law_rounds) _ _ = true; decide +kernel) | kernel_rfl)) (ct_name (by decide)) (fun _ _ _ _ _ => (pg_name S__law_rounds.nd rfl (by first | exact Or.inl rfl | exact Or.inr rfl) (by first | exact Or.inr rfl | exact Or.inl rfl))) (fun _ _ _ _ _ => fts_nil) (fun _ _ _ _ _ => (fe_callO (ok__law_dice T TB x) (hr.mono (by decide)) rfl T.m__law_dice T.F__law_dice.kp T.b__law_dice takes0 (fa_cons (fv 3) fa_nil))))))))
theorem S__law_roll : FnScope ["dice", "many", "found"] ["dice", "many"] (defScope s__law_roll) := ⟨rfl, rfl, rfl, by decide +kernel, rfl, by decide +kernel, by decide +kernel⟩
theorem ok__law_roll (T : Tops K mg) (TB : Tabs T base) (x : Xt) : FnOk P w K mg base (L2.CX P w) 1 T.f__law_roll T.d__law_roll ["dice", "many"] (spF (cfg T x) 2 F__law_roll) :=
  fn_okD (C := cfg T x) (k := 0) (c := c__law_roll) T.F__law_roll S__law_roll rfl rfl fun cdv A outer s H E hcd hr =>
    (fss_cons (fs_if (PW.pt (fw_or (ft_cmp (op_eqX hr.units) os_eq (fe_ix (ix_x (hu_of hr)) os_ix (fv 0) fe_int (fun _ _ => rfl)) fe_int (nomark _)) (fw_or1 (PW.pt (fw_and (ft_cmp (op_eqX hr.units) os_eq (fe_ix (ix_x (hu_of hr)) os_ix (fv 0) fe_int (fun _ _ => rfl)) fe_int (nomark _)) (fw_and1 (ft_cmp op_gt os_gt (fe_ix (ix_x (hu_of hr)) os_ix (fv 0) fe_int (fun _ _ => rfl)) fe_int (nomark _)))))))) (fss_cons (fs_set S__law_roll.nd rfl (by first | exact Or.inl rfl | exact Or.inr rfl) (fe_bin op_mod os_mod (fe_callTy call_int1 cs_int rfl T.n_int (by decide +kernel) (fa_cons (fe_ix (ix_x (hu_of hr)) os_ix (fv 0) fe_int (fun _ _ => rfl)) fa_nil)) (fv 1)))
    (fss_cons (fs_asg (fe_bin op_fdiv os_div (fe_ix (ix_x (hu_of hr)) os_ix (fv 0) fe_int (fun _ _ => rfl)) (fv 1)) (fg_sub (hu_of hr) (fv 0) fe_int))
    (fss_one (fs_ret (fv 2))))) fss_nil)
    (fss_cons (fs_asg fe_int (fg_sub (hu_of hr) (fv 0) fe_int))
    (fss_cons (fs_asg (fe_bin op_mod os_mod (fe_callTy call_int1 cs_int rfl T.n_int (by decide +kernel) (fa_cons (fe_bin op_addX os_add (fe_bin op_addX os_add (fe_bin op_mul os_mulI (fe_ix (ix_x (hu_of hr)) os_ix (fv 0) fe_int (fun _ _ => rfl)) fe_int) (fe_bin op_mul os_mulI (fe_ix (ix_x (hu_of hr)) os_ix (fv 0) fe_int (fun _ _ => rfl)) fe_int)) fe_int) fa_nil)) fe_int) (fg_sub (hu_of hr) (fv 0) fe_int))
    (fss_cons (fs_asg (fe_bin op_addX os_add (fe_ix (ix_x (hu_of hr)) os_ix (fv 0) fe_int (fun _ _ => rfl)) fe_int) (fg_sub (hu_of hr) (fv 0) fe_int))
    (fss_one (fs_ret (fe_bin op_mod os_mod (fe_callTy call_int1 cs_int rfl T.n_int (by decide +kernel) (fa_cons (fe_bin op_addX os_add (fe_bin op_fdiv os_div (fe_ix (ix_x (hu_of hr)) os_ix (fv 0) fe_int (fun _ _ => rfl)) fe_int) (fe_ix (ix_x (hu_of hr)) os_ix (fv 0) fe_int (fun _ _ => rfl))) fa_nil)) (fv 1))))))))
theorem S__law_grid : FnScope ["dice", "most", "low", "high", "rows", "columns", "j", "k"] ["dice", "most", "low", "high"] (defScope s__law_grid) := ⟨rfl, rfl, rfl, by decide +kernel, rfl, by decide +kernel, by decide +kernel⟩
theorem ok__law_grid (T : Tops K mg) (TB : Tabs T base) (x : Xt) : FnOk P w K mg base (L2.CX P w) 2 T.f__law_grid T.d__law_grid ["dice", "most", "low", "high"] (spF (cfg T x) 4 F__law_grid) :=
  fn_okD (C := cfg T x) (k := 1) (c := c__law_grid) T.F__law_grid S__law_grid rfl rfl fun cdv A outer s H E hcd hr =>
    (fss_cons (fs_asg (fe_tup (fa_cons (fe_bin op_addX os_add fe_int (fe_callO (ok__law_roll T TB x) (hr.mono (by decide)) rfl T.m__law_roll T.F__law_roll.kp T.b__law_roll (takes_of rfl rfl rfl rfl) (fa_cons (fv 0) (fa_cons (fv 1) fa_nil)))) (fa_cons (fe_bin op_addX os_add fe_int (fe_callO (ok__law_roll T TB x) (hr.mono (by decide)) rfl T.m__law_roll T.F__law_roll.kp T.b__law_roll (takes_of rfl rfl rfl rfl) (fa_cons (fv 0) (fa_cons (fv 1) fa_nil)))) fa_nil))) (fg_tup rfl rfl (fgs_cons flatE0 (fg_name S__law_grid.nd rfl (by first | exact Or.inl rfl | exact Or.inr rfl)) (fgs_cons flatE0 (fg_name S__law_grid.nd rfl (by first | exact Or.inl rfl | exact Or.inr rfl)) fgs_nil))))
    (fss_one (fs_ret (fe_callTy call_tupleX cs_tuple rfl T.n_tuple (by decide +kernel) (fa_cons (fe_lc (own := [("k", 7)]) mk_F rfl S__law_grid.nd (fi_range1 rfl T.n_range (fa_cons (fv 4) fa_nil) (h1 := (len_cons len_nil))) (blkOk_by (by first | (show blkC ["dice", "most", "low", "high", "rows", "columns", "j", "k"] (defScope s__law_grid) _ _ = true; decide +kernel) | kernel_rfl)) (ct_name (by decide)) (fun _ _ _ _ _ => (pg_name S__law_grid.nd rfl (by first | exact Or.inl rfl | exact Or.inr rfl) (by first | exact Or.inr rfl | exact Or.inl rfl))) (fun _ _ _ _ _ => fts_nil) (fun _ _ _ _ _ => (fe_callTy call_tupleX cs_tuple rfl T.n_tuple (by decide +kernel) (fa_cons (fe_lc (own := [("j", 6)]) mk_F rfl S__law_grid.nd (fi_range1 rfl T.n_range (fa_cons (fv 5) fa_nil) (h1 := (len_cons len_nil))) (blkOk_by (by first | (show blkC ["dice", "most", "low", "high", "rows", "columns", "j", "k"] (defScope s__law_grid) _ _ = true; decide +kernel) | kernel_rfl)) (ct_name (by decide)) (fun _ _ _ _ _ => (pg_name S__law_grid.nd rfl (by first | exact Or.inl rfl | exact Or.inr rfl) (by first | exact Or.inr rfl | exact Or.inl rfl))) (fun _ _ _ _ _ => fts_nil) (fun _ _ _ _ _ => (fe_bin op_addX os_add (fv 2) (fe_callO (ok__law_roll T TB x) (hr.mono (by decide)) rfl T.m__law_roll T.F__law_roll.kp T.b__law_roll takes0 (fa_cons (fv 0) (fa_cons (fe_bin op_sub os_sub (fv 3) (fv 2)) fa_nil)))))) fa_nil)))) fa_nil)))))
theorem S__law_places : FnScope ["grid", "found", "k", "j"] ["grid"] (defScope s__law_places) := ⟨rfl, rfl, rfl, by decide +kernel, rfl, by decide +kernel, by decide +kernel⟩
theorem ok__law_places (T : Tops K mg) (TB : Tabs T base) (x : Xt) : FnOk P w K mg base (L2.CX P w) 1 T.f__law_places T.d__law_places ["grid"] (spF (cfg T x) 1 F__law_places) :=
  fn_okD (C := cfg T x) (k := 0) (c := c__law_places) T.F__law_places S__law_places rfl rfl fun cdv A outer s H E hcd hr =>
    (fss_cons (fs_set S__law_places.nd rfl (by first | exact Or.inl rfl | exact Or.inr rfl) (fe_lst fa_nil))
    (fss_cons (fs_for flatE0 (passes_of rfl) rfl (fi_range1 rfl T.n_range (fa_cons (fe_callB call_lenX cs_len rfl T.n_len (by decide +kernel) (fa_cons (fv 0) fa_nil)) fa_nil) (h1 := (len_cons len_nil))) (fg_name S__law_places.nd rfl (by first | exact Or.inl rfl | exact Or.inr rfl)) (fss_one (fs_set S__law_places.nd rfl (by first | exact Or.inl rfl | exact Or.inr rfl) (fe_bin op_addX os_add (fv 1) (fe_lc (own := [("j", 3)]) mk_F rfl S__law_places.nd (fi_range1 rfl T.n_range (fa_cons (fe_callB call_lenX cs_len rfl T.n_len (by decide +kernel) (fa_cons (fe_ix (ix_x (hu_of hr)) os_ix (fv 0) fe_int (fun _ _ => rfl)) fa_nil)) fa_nil) (h1 := (len_cons len_nil))) (blkOk_by (by first | (show blkC ["grid", "found", "k", "j"] (defScope s__law_places) _ _ = true; decide +kernel) | kernel_rfl)) (ct_name (by decide)) (fun _ _ _ _ _ => (pg_name S__law_places.nd rfl (by first | exact Or.inl rfl | exact Or.inr rfl) (by first | exact Or.inr rfl | exact Or.inl rfl))) (fun _ _ _ _ _ => fts_nil) (fun _ _ _ _ _ => (fe_tup (fa_cons (fv 2) (fa_cons (fv 3) fa_nil)))))))))
    (fss_one (fs_ret (fv 1)))))
theorem S__law_beside : FnScope ["grid", "place", "row", "column", "around", "k", "j"] ["grid", "place"] (defScope s__law_beside) := ⟨rfl, rfl, rfl, by decide +kernel, rfl, by decide +kernel, by decide +kernel⟩
theorem ok__law_beside (T : Tops K mg) (TB : Tabs T base) (x : Xt) : FnOk P w K mg base (L2.CX P w) 1 T.f__law_beside T.d__law_beside ["grid", "place"] (spF (cfg T x) 2 F__law_beside) :=
  fn_okD (C := cfg T x) (k := 0) (c := c__law_beside) T.F__law_beside S__law_beside rfl rfl fun cdv A outer s H E hcd hr =>
    (fss_cons (fs_asg (fv 1) (fg_tup rfl rfl (fgs_cons flatE0 (fg_name S__law_beside.nd rfl (by first | exact Or.inl rfl | exact Or.inr rfl)) (fgs_cons flatE0 (fg_name S__law_beside.nd rfl (by first | exact Or.inl rfl | exact Or.inr rfl)) fgs_nil))))
    (fss_cons (fs_set S__law_beside.nd rfl (by first | exact Or.inl rfl | exact Or.inr rfl) (fe_lst (fa_cons (fe_tup (fa_cons (fe_bin op_sub os_sub (fv 2) fe_int) (fa_cons (fv 3) fa_nil))) (fa_cons (fe_tup (fa_cons (fv 2) (fa_cons (fe_bin op_sub os_sub (fv 3) fe_int) fa_nil))) (fa_cons (fe_tup (fa_cons (fv 2) (fa_cons (fe_bin op_addX os_add (fv 3) fe_int) fa_nil))) (fa_cons (fe_tup (fa_cons (fe_bin op_addX os_add (fv 2) fe_int) (fa_cons (fv 3) fa_nil))) fa_nil))))))
    (fss_one (fs_ret (fe_lc (own := [("k", 5), ("j", 6)]) mk_F rfl S__law_beside.nd (fi_seq rfl (fv 4)) (blkOk_by (by first | (show blkC ["grid", "place", "row", "column", "around", "k", "j"] (defScope s__law_beside) _ _ = true; decide +kernel) | kernel_rfl)) (ct_tup rfl (cts_cons (ct_name (by decide)) (cts_cons (ct_name (by decide)) cts_nil))) (fun _ _ _ _ _ => (pg_tup rfl (pgs_cons (pg_name S__law_beside.nd rfl (by first | exact Or.inl rfl | exact Or.inr rfl) (by first | exact Or.inr rfl | exact Or.inl rfl)) (pgs_cons (pg_name S__law_beside.nd rfl (by first | exact Or.inl rfl | exact Or.inr rfl) (by first | exact Or.inr rfl | exact Or.inl rfl)) pgs_nil)))) (fun _ _ _ _ _ => (fts_one (PW.pt (fw_and (ft_chain op_le op_lt os_le os_lt fe_int (fv 5) (fe_callB call_lenX cs_len rfl T.n_len (by decide +kernel) (fa_cons (fv 0) fa_nil))) (fw_and1 (ft_chain op_le op_lt os_le os_lt fe_int (fv 6) (fe_callB call_lenX cs_len rfl T.n_len (by decide +kernel) (fa_cons (fe_ix (ix_x (hu_of hr)) os_ix (fv 0) fe_int (fun _ _ => rfl)) fa_nil)))))))) (fun _ _ _ _ _ => (fe_tup (fa_cons (fv 5) (fa_cons (fv 6) fa_nil)))))))))
theorem S_is_whole : FnScope ["thing", "low", "high"] ["thing", "low", "high"] (defScope s_is_whole) := ⟨rfl, rfl, rfl, by decide +kernel, rfl, by decide +kernel, by decide +kernel⟩
theorem ok_is_whole (T : Tops K mg) (TB : Tabs T base) (x : Xt) : FnOk P w K mg base (L2.CX P w) 1 T.f_is_whole T.d_is_whole ["thing", "low", "high"] (spF (cfg T x) 3 F_is_whole) :=
  fn_okD (C := cfg T x) (k := 0) (c := c_is_whole) T.F_is_whole S_is_whole rfl rfl fun cdv A outer s H E hcd hr =>
    (fss_one (fs_ret (fe_and (fe_isi (by decide +kernel) rfl (fv 0) rfl T.n_isinstance rfl T.n_int (by decide +kernel)) (fe_and (fe_not (fe_isi (by decide +kernel) rfl (fv 0) rfl T.n_isinstance rfl T.n_bool (by decide +kernel))) (fe_one (fe_chain op_le op_le os_le os_le (fv 1) (fv 0) (fv 2)))))))
theorem S_is_grid : FnScope ["thing", "low", "high", "row", "cell"] ["thing", "low", "high"] (defScope s_is_grid) := ⟨rfl, rfl, rfl, by decide +kernel, rfl, by decide +kernel, by decide +kernel⟩
theorem ok_is_grid (T : Tops K mg) (TB : Tabs T base) (x : Xt) : FnOk P w K mg base (L2.CX P w) 3 T.f_is_grid T.d_is_grid ["thing", "low", "high"] (spF (cfg T x) 3 F_is_grid) :=
  fn_okD (C := cfg T x) (k := 2) (c := c_is_grid) T.F_is_grid S_is_grid rfl rfl fun cdv A outer s H E hcd hr =>
    (fss_cons (fs_if (PW.pt (fw_or (ft_not (ft_val (fe_isi (by decide +kernel) rfl (fv 0) rfl T.n_isinstance rfl T.n_tuple (by decide +kernel)))) (fw_or1 (ft_not (ft_chain op_le op_le os_le os_le fe_int (fe_callB call_lenX cs_len rfl T.n_len (by decide +kernel) (fa_cons (fv 0) fa_nil)) (fe_gint rfl T.m_WIDE)))))) (fss_one (fs_ret fe_bl)) fss_nil)
    (fss_cons (fs_for flatE0 (passes_of rfl) rfl (fi_seq rfl (fv 0)) (fg_name S_is_grid.nd rfl (by first | exact Or.inl rfl | exact Or.inr rfl)) (fss_cons (fs_if (PW.pt (fw_or (ft_not (ft_val (fe_isi (by decide +kernel) rfl (fv 3) rfl T.n_isinstance rfl T.n_tuple (by decide +kernel)))) (fw_or (ft_not (ft_chain op_le op_le os_le os_le fe_int (fe_callB call_lenX cs_len rfl T.n_len (by decide +kernel) (fa_cons (fv 3) fa_nil)) (fe_gint rfl T.m_WIDE))) (fw_or1 (ft_cmp (op_neX hr.units) os_ne (fe_callB call_lenX cs_len rfl T.n_len (by decide +kernel) (fa_cons (fv 3) fa_nil)) (fe_callB call_lenX cs_len rfl T.n_len (by decide +kernel) (fa_cons (fe_ix (ix_x (hu_of hr)) os_ix (fv 0) fe_int (fun _ _ => rfl)) fa_nil)) (nomark _)))))) (fss_one (fs_ret fe_bl)) fss_nil)
    (fss_one (fs_if (ft_not (ft_val (fe_allG (own := [4]) (TB.p_is_grid) (TB.q_is_grid) (ct_name (by decide)) hr rfl TB.t_is_grid (hcd.symm.trans T.c_is_grid) (gsc_by (by show genC ["thing", "low", "high", "row", "cell"] (defScope s_is_grid) _ _ = true; decide +kernel)) (fi_seq rfl (fv 3)) (fun _ _ _ _ _ => (pg_name S_is_grid.nd rfl (by first | exact Or.inl rfl | exact Or.inr rfl) (by first | exact Or.inr rfl | exact Or.inl rfl))) (fun _ _ _ _ _ => (fe_callP (ok_is_whole T TB x) ((room_gen (k := 1) (hr.mono (by decide))).mono (by decide)) rfl T.m_is_whole T.F_is_whole.kp T.b_is_whole takes0 (fa_cons (fv 4) (fa_cons (fv 1) (fa_cons (fv 2) fa_nil))))) rfl T.n_all))) (fss_one (fs_ret fe_bl)) fss_nil))))
    (fss_one (fs_ret fe_bl))))
theorem S_check_grid : FnScope ["thing", "low", "high"] ["thing", "low", "high"] (defScope s_check_grid) := ⟨rfl, rfl, rfl, by decide +kernel, rfl, by decide +kernel, by decide +kernel⟩
theorem ok_check_grid (T : Tops K mg) (TB : Tabs T base) (x : Xt) : FnOk P w K mg base (L2.CX P w) 4 T.f_check_grid T.d_check_grid ["thing", "low", "high"] (spF (cfg T x) 3 F_check_grid) :=
  fn_okD (C := cfg T x) (k := 3) (c := c_check_grid) T.F_check_grid S_check_grid rfl rfl fun cdv A outer s H E hcd hr =>
    (fss_one (fs_if (ft_not (ft_val (fe_callP (ok_is_grid T TB x) (hr.mono (by decide)) rfl T.m_is_grid T.F_is_grid.kp T.b_is_grid (takes_of rfl rfl rfl rfl) (fa_cons (fv 0) (fa_cons (fv 1) (fa_cons (fv 2) fa_nil)))))) (fss_one (fs_raise rfl (takes_of rfl rfl rfl rfl) PySem.F.excBase_ValueError T.xq_BadGrid T.xm_BadGrid T.xk_BadGrid T.xb_BadGrid T.xt_BadGrid rfl rfl)) fss_nil))
theorem S_size_of : FnScope ["grid"] ["grid"] (defScope s_size_of) := ⟨rfl, rfl, rfl, by decide +kernel, rfl, by decide +kernel, by decide +kernel⟩
theorem ok_size_of (T : Tops K mg) (TB : Tabs T base) (x : Xt) : FnOk P w K mg base (L2.CX P w) 1 T.f_size_of T.d_size_of ["grid"] (spF (cfg T x) 1 F_size_of) :=
  fn_okD (C := cfg T x) (k := 0) (c := c_size_of) T.F_size_of S_size_of rfl rfl fun cdv A outer s H E hcd hr =>
    (fss_one (fs_ret (fe_tup (fa_cons (fe_callB call_lenX cs_len rfl T.n_len (by decide +kernel) (fa_cons (fv 0) fa_nil)) (fa_cons (fe_callB call_lenX cs_len rfl T.n_len (by decide +kernel) (fa_cons (fe_ix (ix_x (hu_of hr)) os_ix (fv 0) fe_int (fun _ _ => rfl)) fa_nil)) fa_nil)))))
theorem S_cells : FnScope ["grid", "rows", "columns", "row", "column"] ["grid"] (defScope s_cells) := ⟨rfl, rfl, rfl, by decide +kernel, rfl, by decide +kernel, by decide +kernel⟩
theorem ok_cells (T : Tops K mg) (TB : Tabs T base) (x : Xt) : FnOk P w K mg base (L2.CX P w) 2 T.f_cells T.d_cells ["grid"] (spF (cfg T x) 1 F_cells) :=
  fn_okD (C := cfg T x) (k := 1) (c := c_cells) T.F_cells S_cells rfl rfl fun cdv A outer s H E hcd hr =>
    (fss_cons (fs_asg (fe_callP (ok_size_of T TB x) (hr.mono (by decide)) rfl T.m_size_of T.F_size_of.kp T.b_size_of (takes_of rfl rfl rfl rfl) (fa_cons (fv 0) fa_nil)) (fg_tup rfl rfl (fgs_cons flatE0 (fg_name S_cells.nd rfl (by first | exact Or.inl rfl | exact Or.inr rfl)) (fgs_cons flatE0 (fg_name S_cells.nd rfl (by first | exact Or.inl rfl | exact Or.inr rfl)) fgs_nil))))
    (fss_one (fs_ret (fe_lc2 (own := [("row", 3), ("column", 4)]) (vs1 := [4]) mk_F rfl S_cells.nd (fi_range1 rfl T.n_range (fa_cons (fv 1) fa_nil) (h1 := (len_cons len_nil))) (blkOk_by (by first | (show blkC ["grid", "rows", "columns", "row", "column"] (defScope s_cells) _ _ = true; decide +kernel) | kernel_rfl)) (by decide) (ct_name (by decide)) (ct_name (by decide)) (fun _ _ _ _ _ => (pg_name S_cells.nd rfl (by first | exact Or.inl rfl | exact Or.inr rfl) (by first | exact Or.inr rfl | exact Or.inl rfl))) (fun _ _ _ _ _ => fts_nil) (fun _ _ _ _ _ => (fj_range1 rfl T.n_range (fa_cons (fv 2) fa_nil) (h1 := (len_cons len_nil)))) (fun _ _ _ _ _ => (pg_name S_cells.nd rfl (by first | exact Or.inl rfl | exact Or.inr rfl) (by first | exact Or.inr rfl | exact Or.inl rfl))) (fun _ _ _ _ _ => fts_nil) (fun _ _ _ _ _ => (fe_tup (fa_cons (fv 3) (fa_cons (fv 4) fa_nil))))))))
theorem S_within : FnScope ["grid", "place"] ["grid", "place"] (defScope s_within) := ⟨rfl, rfl, rfl, by decide +kernel, rfl, by decide +kernel, by decide +kernel⟩
theorem ok_within (T : Tops K mg) (TB : Tabs T base) (x : Xt) : FnOk P w K mg base (L2.CX P w) 1 T.f_within T.d_within ["grid", "place"] (spF (cfg T x) 2 F_within) :=
  fn_okD (C := cfg T x) (k := 0) (c := c_within) T.F_within S_within rfl rfl fun cdv A outer s H E hcd hr =>
    (fss_one (fs_ret (fe_and (fe_chain op_le op_lt os_le os_lt fe_int (fe_ix (ix_x (hu_of hr)) os_ix (fv 1) fe_int (fun _ _ => rfl)) (fe_callB call_lenX cs_len rfl T.n_len (by decide +kernel) (fa_cons (fv 0) fa_nil))) (fe_one (fe_chain op_le op_lt os_le os_lt fe_int (fe_ix (ix_x (hu_of hr)) os_ix (fv 1) fe_int (fun _ _ => rfl)) (fe_callB call_lenX cs_len rfl T.n_len (by decide +kernel) (fa_cons (fe_ix (ix_x (hu_of hr)) os_ix (fv 0) fe_int (fun _ _ => rfl)) fa_nil)))))))
theorem S_beside : FnScope ["grid", "place", "steps", "places", "down", "along", "one"] ["grid", "place", "steps"] (defScope s_beside) := ⟨rfl, rfl, rfl, by decide +kernel, rfl, by decide +kernel, by decide +kernel⟩
theorem ok_beside (T : Tops K mg) (TB : Tabs T base) (x : Xt) : FnOk P w K mg base (L2.CX P w) 2 T.f_beside T.d_beside ["grid", "place", "steps"] (spF (cfg T x) 3 F_beside) :=
  fn_okD (C := cfg T x) (k := 1) (c := c_beside) T.F_beside S_beside rfl rfl fun cdv A outer s H E hcd hr =>
    (fss_cons (fs_setLc (own := [("down", 4), ("along", 5)]) mk_F rfl S_beside.nd rfl rfl (sw_true rfl rfl rfl (by decide +kernel)) (fi_seq rfl (fv 2)) (blkOk_by (by first | (show blkC ["grid", "place", "steps", "places", "down", "along", "one"] (defScope s_beside) _ _ = true; decide +kernel) | kernel_rfl)) (ct_tup rfl (cts_cons (ct_name (by decide)) (cts_cons (ct_name (by decide)) cts_nil))) (fun _ _ _ _ _ => (pg_tup rfl (pgs_cons (pg_name S_beside.nd rfl (by first | exact Or.inl rfl | exact Or.inr rfl) (by first | exact Or.inr rfl | exact Or.inl rfl)) (pgs_cons (pg_name S_beside.nd rfl (by first | exact Or.inl rfl | exact Or.inr rfl) (by first | exact Or.inr rfl | exact Or.inl rfl)) pgs_nil)))) (fun _ _ _ _ _ => fts_nil) (fun _ _ _ _ _ => (fe_tup (fa_cons (fe_bin op_addX os_add (fe_ix (ix_x (hu_of hr)) os_ix (fv 1) fe_int (fun _ _ => rfl)) (fv 4)) (fa_cons (fe_bin op_addX os_add (fe_ix (ix_x (hu_of hr)) os_ix (fv 1) fe_int (fun _ _ => rfl)) (fv 5)) fa_nil)))))
    (fss_one (fs_ret (fe_lc (own := [("one", 6)]) mk_F rfl S_beside.nd (fi_seq rfl (fv 3)) (blkOk_by (by first | (show blkC ["grid", "place", "steps", "places", "down", "along", "one"] (defScope s_beside) _ _ = true; decide +kernel) | kernel_rfl)) (ct_name (by decide)) (fun _ _ _ _ _ => (pg_name S_beside.nd rfl (by first | exact Or.inl rfl | exact Or.inr rfl) (by first | exact Or.inr rfl | exact Or.inl rfl))) (fun _ _ _ _ _ => (fts_one (ft_val (fe_callP (ok_within T TB x) (hr.mono (by decide)) rfl T.m_within T.F_within.kp T.b_within takes0 (fa_cons (fv 0) (fa_cons (fv 6) fa_nil)))))) (fun _ _ _ _ _ => (fv 6))))))
theorem S_at : FnScope ["grid", "place"] ["grid", "place"] (defScope s_at) := ⟨rfl, rfl, rfl, by decide +kernel, rfl, by decide +kernel, by decide +kernel⟩
theorem ok_at (T : Tops K mg) (TB : Tabs T base) (x : Xt) : FnOk P w K mg base (L2.CX P w) 1 T.f_at T.d_at ["grid", "place"] (spF (cfg T x) 2 F_at) :=
  fn_okD (C := cfg T x) (k := 0) (c := c_at) T.F_at S_at rfl rfl fun cdv A outer s H E hcd hr =>
    (fss_one (fs_ret (fe_ix (ix_x (hu_of hr)) os_ix (fe_ix (ix_x (hu_of hr)) os_ix (fv 0) (fe_ix (ix_x (hu_of hr)) os_ix (fv 1) fe_int (fun _ _ => rfl)) (fun _ _ => rfl)) (fe_ix (ix_x (hu_of hr)) os_ix (fv 1) fe_int (fun _ _ => rfl)) (fun _ _ => rfl))))
theorem S_flooded : FnScope ["grid", "found", "left", "place", "here", "other", "column", "row"] ["grid"] (defScope s_flooded) := ⟨rfl, rfl, rfl, by decide +kernel, rfl, by decide +kernel, by decide +kernel⟩
theorem ok_flooded (T : Tops K mg) (TB : Tabs T base) (x : Xt) : FnOk P w K mg base (L2.CX P w) 5 T.f_flooded T.d_flooded ["grid"] (spF (cfg T x) 1 F_flooded) :=
  fn_okD (C := cfg T x) (k := 4) (c := c_flooded) T.F_flooded S_flooded rfl rfl fun cdv A outer s H E hcd hr =>
    (fss_cons (fs_expr (fe_callP (ok_check_grid T TB x) (hr.mono (by decide)) rfl T.m_check_grid T.F_check_grid.kp T.b_check_grid (takes_of rfl rfl rfl rfl) (fa_cons (fv 0) (fa_cons fe_int (fa_cons (fe_gint rfl T.m_HIGH) fa_nil)))))
    (fss_cons (fs_asg (fe_tup (fa_cons fe_dicT (fa_cons (fe_lstM fa_nil) fa_nil))) (fg_tup rfl rfl (fgs_cons flatE0 (fg_name S_flooded.nd rfl (by first | exact Or.inl rfl | exact Or.inr rfl)) (fgs_cons flatE0 (fg_name S_flooded.nd rfl (by first | exact Or.inl rfl | exact Or.inr rfl)) fgs_nil))))
    (fss_cons (fs_for flatE0 (passes_of rfl) rfl (fi_seq rfl (fe_callP (ok_cells T TB x) (hr.mono (by decide)) rfl T.m_cells T.F_cells.kp T.b_cells (takes_of rfl rfl rfl rfl) (fa_cons (fv 0) fa_nil))) (fg_name S_flooded.nd rfl (by first | exact Or.inl rfl | exact Or.inr rfl)) (fss_one (fs_if (ft_cmp op_lt os_lt (fe_callB call_lenX cs_len rfl T.n_len (by decide +kernel) (fa_cons (fe_callP (ok_beside T TB x) (hr.mono (by decide)) rfl T.m_beside T.F_beside.kp T.b_beside (takes_of rfl rfl rfl rfl) (fa_cons (fv 0) (fa_cons (fv 3) (fa_cons (fe_gva rfl T.m_FOUR T.q_FOUR) fa_nil)))) fa_nil)) fe_int (nomark _)) (fss_cons (fs_asg (fe_callP (ok_at T TB x) (hr.mono (by decide)) rfl T.m_at T.F_at.kp T.b_at (takes_of rfl rfl rfl rfl) (fa_cons (fv 0) (fa_cons (fv 3) fa_nil))) (fg_sub (hu_of hr) (fv 1) (fv 3)))
    (fss_one (fs_expr (fe_mt rfl PySem.F.slot_list_append PySem.F.type_list_append mt_append ms_append (fv 2) (fa_cons (fv 3) fa_nil))))) fss_nil)))
    (fss_cons (fs_while fuel (passes_of rfl) (ft_cmp (op_neX hr.units) os_ne (fv 2) (fe_lst fa_nil) (nomark _)) (fss_cons (fs_set S_flooded.nd rfl (by first | exact Or.inl rfl | exact Or.inr rfl) (fe_minKey (k := 2) TB.p_flooded TB.q_flooded rfl (hr.mono (by decide)) rfl TB.t_flooded (hcd.symm.trans T.c_flooded) (lsc_by (by show lamC ["grid", "found", "left", "place", "here", "other", "column", "row"] (defScope s_flooded) _ [3] = true; decide +kernel)) rfl rfl rfl (fun _ _ _ _ _ _ => rfl) (fv 2) (fun _ _ _ _ _ _ hr2 => (fe_ix (ix_x (hu_of hr2)) os_ix (fv 1) (fv 3) (fun _ _ => rfl))) rfl T.n_min))
    (fss_cons (fs_expr (fe_mt rfl PySem.F.slot_list_remove PySem.F.type_list_remove (mt_removeX (hu65 hr)) ms_removeX (fv 2) (fa_cons (fv 4) fa_nil)))
    (fss_one (fs_for flatE0 (passes_of rfl) rfl (fi_seq rfl (fe_callP (ok_beside T TB x) (hr.mono (by decide)) rfl T.m_beside T.F_beside.kp T.b_beside (takes_of rfl rfl rfl rfl) (fa_cons (fv 0) (fa_cons (fv 4) (fa_cons (fe_gva rfl T.m_FOUR T.q_FOUR) fa_nil))))) (fg_name S_flooded.nd rfl (by first | exact Or.inl rfl | exact Or.inr rfl)) (fss_one (fs_if (ft_cmp (op_notInX (hu65 hr)) os_notIn (fv 5) (fv 1) (by rfl)) (fss_cons (fs_asg (fe_callB (call_maxX rfl) cs_max rfl T.n_max (by decide +kernel) (fa_cons (fe_callP (ok_at T TB x) (hr.mono (by decide)) rfl T.m_at T.F_at.kp T.b_at (takes_of rfl rfl rfl rfl) (fa_cons (fv 0) (fa_cons (fv 5) fa_nil))) (fa_cons (fe_ix (ix_x (hu_of hr)) os_ix (fv 1) (fv 4) (fun _ _ => rfl)) fa_nil))) (fg_sub (hu_of hr) (fv 1) (fv 5)))
    (fss_one (fs_expr (fe_mt rfl PySem.F.slot_list_append PySem.F.type_list_append mt_append ms_append (fv 2) (fa_cons (fv 5) fa_nil))))) fss_nil)))))))
    (fss_one (fs_ret (fe_callTy call_tupleX cs_tuple rfl T.n_tuple (by decide +kernel) (fa_cons (fe_lc (own := [("row", 7)]) mk_F rfl S_flooded.nd (fi_range1 rfl T.n_range (fa_cons (fe_callB call_lenX cs_len rfl T.n_len (by decide +kernel) (fa_cons (fv 0) fa_nil)) fa_nil) (h1 := (len_cons len_nil))) (blkOk_by (by first | (show blkC ["grid", "found", "left", "place", "here", "other", "column", "row"] (defScope s_flooded) _ _ = true; decide +kernel) | kernel_rfl)) (ct_name (by decide)) (fun _ _ _ _ _ => (pg_name S_flooded.nd rfl (by first | exact Or.inl rfl | exact Or.inr rfl) (by first | exact Or.inr rfl | exact Or.inl rfl))) (fun _ _ _ _ _ => fts_nil) (fun _ _ _ _ _ => (fe_callTy call_tupleX cs_tuple rfl T.n_tuple (by decide +kernel) (fa_cons (fe_lc (own := [("column", 6)]) mk_F rfl S_flooded.nd (fi_range1 rfl T.n_range (fa_cons (fe_callB call_lenX cs_len rfl T.n_len (by decide +kernel) (fa_cons (fe_ix (ix_x (hu_of hr)) os_ix (fv 0) fe_int (fun _ _ => rfl)) fa_nil)) fa_nil) (h1 := (len_cons len_nil))) (blkOk_by (by first | (show blkC ["grid", "found", "left", "place", "here", "other", "column", "row"] (defScope s_flooded) _ _ = true; decide +kernel) | kernel_rfl)) (ct_name (by decide)) (fun _ _ _ _ _ => (pg_name S_flooded.nd rfl (by first | exact Or.inl rfl | exact Or.inr rfl) (by first | exact Or.inr rfl | exact Or.inl rfl))) (fun _ _ _ _ _ => fts_nil) (fun _ _ _ _ _ => (fe_ix (ix_x (hu_of hr)) os_ix (fv 1) (fe_tup (fa_cons (fv 7) (fa_cons (fv 6) fa_nil))) (fun _ _ => rfl)))) fa_nil)))) fa_nil))))))))
theorem S_lake_water : FnScope ["grid", "line", "row"] ["grid"] (defScope s_lake_water) := ⟨rfl, rfl, rfl, by decide +kernel, rfl, by decide +kernel, by decide +kernel⟩
theorem ok_lake_water (T : Tops K mg) (TB : Tabs T base) (x : Xt) : FnOk P w K mg base (L2.CX P w) 6 T.f_lake_water T.d_lake_water ["grid"] (spF (cfg T x) 1 F_lake_water) :=
  fn_okD (C := cfg T x) (k := 5) (c := c_lake_water) T.F_lake_water S_lake_water rfl rfl fun cdv A outer s H E hcd hr =>
    (fss_one (fs_ret (fe_bin op_sub os_sub (fe_sumG (own := [1]) (TB.p_lake_water) (TB.q_lake_water) (ct_name (by decide)) hr rfl TB.t_lake_water (hcd.symm.trans T.c_lake_water) (gsc_by (by show genC ["grid", "line", "row"] (defScope s_lake_water) _ _ = true; decide +kernel)) (fi_seq rfl (fe_callP (ok_flooded T TB x) (hr.mono (by decide)) rfl T.m_flooded T.F_flooded.kp T.b_flooded (takes_of rfl rfl rfl rfl) (fa_cons (fv 0) fa_nil))) (fun _ _ _ _ _ => (pg_name S_lake_water.nd rfl (by first | exact Or.inl rfl | exact Or.inr rfl) (by first | exact Or.inr rfl | exact Or.inl rfl))) (fun _ _ _ _ _ => (fe_callB (call_sumX rfl) cs_sum rfl T.n_sum (by decide +kernel) (fa_cons (fv 1) fa_nil))) rfl T.n_sum) (fe_sumG (own := [2]) (TB.p_lake_water) (TB.q_lake_water) (ct_name (by decide)) hr rfl TB.t_lake_water (hcd.symm.trans T.c_lake_water) (gsc_by (by show genC ["grid", "line", "row"] (defScope s_lake_water) _ _ = true; decide +kernel)) (fi_seq rfl (fv 0)) (fun _ _ _ _ _ => (pg_name S_lake_water.nd rfl (by first | exact Or.inl rfl | exact Or.inr rfl) (by first | exact Or.inr rfl | exact Or.inl rfl))) (fun _ _ _ _ _ => (fe_callB (call_sumX rfl) cs_sum rfl T.n_sum (by decide +kernel) (fa_cons (fv 2) fa_nil))) rfl T.n_sum))))
theorem S_law : FnScope ["script", "dice", "grid", "places", "level", "k", "j", "turn", "near", "told", "place"] ["script"] (defScope s_law) := ⟨rfl, rfl, rfl, by decide +kernel, rfl, by decide +kernel, by decide +kernel⟩
theorem ok_law (T : Tops K mg) (TB : Tabs T base) (x : Xt) : FnOk P w K mg base (L2.CX P w) 7 T.f_law T.d_law ["script"] (spF (cfg T x) 1 F_law) :=
  fn_okD (C := cfg T x) (k := 6) (c := c_law) T.F_law S_law rfl rfl fun cdv A outer s H E hcd hr =>
    (fss_cons (fs_for flatE0 (passes_of rfl) rfl (fi_seq rfl (fe_callO (ok__law_rounds T TB x) (hr.mono (by decide)) rfl T.m__law_rounds T.F__law_rounds.kp T.b__law_rounds (takes_of rfl rfl rfl rfl) (fa_cons (fv 0) (fa_cons fe_int fa_nil)))) (fg_name S_law.nd rfl (by first | exact Or.inl rfl | exact Or.inr rfl)) (fss_cons (fs_set S_law.nd rfl (by first | exact Or.inl rfl | exact Or.inr rfl) (fe_callO (ok__law_grid T TB x) (hr.mono (by decide)) rfl T.m__law_grid T.F__law_grid.kp T.b__law_grid (takes_of rfl rfl rfl rfl) (fa_cons (fv 1) (fa_cons fe_int (fa_cons fe_int (fa_cons (fe_ix (ix_x (hu_of hr)) os_ix (fe_lst (fa_cons fe_int (fa_cons fe_int fa_nil))) (fe_callO (ok__law_roll T TB x) (hr.mono (by decide)) rfl T.m__law_roll T.F__law_roll.kp T.b__law_roll (takes_of rfl rfl rfl rfl) (fa_cons (fv 1) (fa_cons fe_int fa_nil))) (fun _ _ => rfl)) fa_nil))))))
    (fss_cons (fs_asg (fe_tup (fa_cons (fe_callP (ok__law_places T TB x) (hr.mono (by decide)) rfl T.m__law_places T.F__law_places.kp T.b__law_places (takes_of rfl rfl rfl rfl) (fa_cons (fv 2) fa_nil)) (fa_cons fe_dicT fa_nil))) (fg_tup rfl rfl (fgs_cons flatE0 (fg_name S_law.nd rfl (by first | exact Or.inl rfl | exact Or.inr rfl)) (fgs_cons flatE0 (fg_name S_law.nd rfl (by first | exact Or.inl rfl | exact Or.inr rfl)) fgs_nil))))
    (fss_cons (fs_for flatE0 (passes_of rfl) rfl (fi_seq rfl (fv 3)) (fg_tup rfl rfl (fgs_cons flatE0 (fg_name S_law.nd rfl (by first | exact Or.inl rfl | exact Or.inr rfl)) (fgs_cons flatE0 (fg_name S_law.nd rfl (by first | exact Or.inl rfl | exact Or.inr rfl)) fgs_nil))) (fss_cons (fs_asg fe_int (fg_sub (hu_of hr) (fv 4) (fe_tup (fa_cons (fv 5) (fa_cons (fv 6) fa_nil)))))
    (fss_one (fs_if (ft_cmp op_lt os_lt (fe_callB call_lenX cs_len rfl T.n_len (by decide +kernel) (fa_cons (fe_callP (ok__law_beside T TB x) (hr.mono (by decide)) rfl T.m__law_beside T.F__law_beside.kp T.b__law_beside (takes_of rfl rfl rfl rfl) (fa_cons (fv 2) (fa_cons (fe_tup (fa_cons (fv 5) (fa_cons (fv 6) fa_nil))) fa_nil))) fa_nil)) fe_int (nomark _)) (fss_one (fs_asg (fe_ix (ix_x (hu_of hr)) os_ix (fe_ix (ix_x (hu_of hr)) os_ix (fv 2) (fv 5) (fun _ _ => rfl)) (fv 6) (fun _ _ => rfl)) (fg_sub (hu_of hr) (fv 4) (fe_tup (fa_cons (fv 5) (fa_cons (fv 6) fa_nil)))))) fss_nil))))
    (fss_cons (fs_for flatE0 (passes_of rfl) rfl (fi_range1 rfl T.n_range (fa_cons (fe_callB call_lenX cs_len rfl T.n_len (by decide +kernel) (fa_cons (fv 3) fa_nil)) fa_nil) (h1 := (len_cons len_nil))) (fg_name S_law.nd rfl (by first | exact Or.inl rfl | exact Or.inr rfl)) (fss_one (fs_for flatE0 (passes_of rfl) rfl (fi_seq rfl (fv 3)) (fg_tup rfl rfl (fgs_cons flatE0 (fg_name S_law.nd rfl (by first | exact Or.inl rfl | exact Or.inr rfl)) (fgs_cons flatE0 (fg_name S_law.nd rfl (by first | exact Or.inl rfl | exact Or.inr rfl)) fgs_nil))) (fss_cons (fs_set S_law.nd rfl (by first | exact Or.inl rfl | exact Or.inr rfl) (fe_callB (call_minX rfl) cs_min rfl T.n_min (by decide +kernel) (fa_cons (fe_bin op_addX os_add (fe_lc (own := [("place", 10)]) mk_F rfl S_law.nd (fi_seq rfl (fe_callP (ok__law_beside T TB x) (hr.mono (by decide)) rfl T.m__law_beside T.F__law_beside.kp T.b__law_beside (takes_of rfl rfl rfl rfl) (fa_cons (fv 2) (fa_cons (fe_tup (fa_cons (fv 5) (fa_cons (fv 6) fa_nil))) fa_nil)))) (blkOk_by (by first | (show blkC ["script", "dice", "grid", "places", "level", "k", "j", "turn", "near", "told", "place"] (defScope s_law) _ _ = true; decide +kernel) | kernel_rfl)) (ct_name (by decide)) (fun _ _ _ _ _ => (pg_name S_law.nd rfl (by first | exact Or.inl rfl | exact Or.inr rfl) (by first | exact Or.inr rfl | exact Or.inl rfl))) (fun _ _ _ _ _ => fts_nil) (fun _ _ _ _ _ => (fe_ix (ix_x (hu_of hr)) os_ix (fv 4) (fv 10) (fun _ _ => rfl)))) (fe_lst (fa_cons fe_int fa_nil))) fa_nil)))
    (fss_one (fs_asg (fe_callB (call_minX rfl) cs_min rfl T.n_min (by decide +kernel) (fa_cons (fe_ix (ix_x (hu_of hr)) os_ix (fv 4) (fe_tup (fa_cons (fv 5) (fa_cons (fv 6) fa_nil))) (fun _ _ => rfl)) (fa_cons (fe_callB (call_maxX rfl) cs_max rfl T.n_max (by decide +kernel) (fa_cons (fe_ix (ix_x (hu_of hr)) os_ix (fe_ix (ix_x (hu_of hr)) os_ix (fv 2) (fv 5) (fun _ _ => rfl)) (fv 6) (fun _ _ => rfl)) (fa_cons (fv 8) fa_nil))) fa_nil))) (fg_sub (hu_of hr) (fv 4) (fe_tup (fa_cons (fv 5) (fa_cons (fv 6) fa_nil))))))))))
    (fss_cons (fs_set S_law.nd rfl (by first | exact Or.inl rfl | exact Or.inr rfl) (fe_callP (ok_flooded T TB x) (hr.mono (by decide)) rfl T.m_flooded T.F_flooded.kp T.b_flooded (takes_of rfl rfl rfl rfl) (fa_cons (fv 2) fa_nil)))
    (fss_cons (fs_if (ft_cmp (op_neX hr.units) os_ne (fe_lc (own := [("place", 10)]) mk_F rfl S_law.nd (fi_seq rfl (fv 3)) (blkOk_by (by first | (show blkC ["script", "dice", "grid", "places", "level", "k", "j", "turn", "near", "told", "place"] (defScope s_law) _ _ = true; decide +kernel) | kernel_rfl)) (ct_name (by decide)) (fun _ _ _ _ _ => (pg_name S_law.nd rfl (by first | exact Or.inl rfl | exact Or.inr rfl) (by first | exact Or.inr rfl | exact Or.inl rfl))) (fun _ _ _ _ _ => (fts_one (ft_cmp (op_neX hr.units) os_ne (fe_ix (ix_x (hu_of hr)) os_ix (fe_ix (ix_x (hu_of hr)) os_ix (fv 9) (fe_ix (ix_x (hu_of hr)) os_ix (fv 10) fe_int (fun _ _ => rfl)) (fun _ _ => rfl)) (fe_ix (ix_x (hu_of hr)) os_ix (fv 10) fe_int (fun _ _ => rfl)) (fun _ _ => rfl)) (fe_ix (ix_x (hu_of hr)) os_ix (fv 4) (fv 10) (fun _ _ => rfl)) (nomark _)))) (fun _ _ _ _ _ => (fv 10))) (fe_lst fa_nil) (nomark _)) (fss_one (fs_ret fe_bl)) fss_nil)
    (fss_cons (fs_if (PW.pt (fw_or (ft_cmp (op_neX hr.units) os_ne (fe_callP (ok_flooded T TB x) (hr.mono (by decide)) rfl T.m_flooded T.F_flooded.kp T.b_flooded (takes_of rfl rfl rfl rfl) (fa_cons (fv 9) fa_nil)) (fv 9) (nomark _)) (fw_or1 (ft_cmp (op_neX hr.units) os_ne (fe_callP (ok_lake_water T TB x) (hr.mono (by decide)) rfl T.m_lake_water T.F_lake_water.kp T.b_lake_water (takes_of rfl rfl rfl rfl) (fa_cons (fv 2) fa_nil)) (fe_callB (call_sumX rfl) cs_sum rfl T.n_sum (by decide +kernel) (fa_cons (fe_lc (own := [("k", 5), ("j", 6)]) mk_F rfl S_law.nd (fi_seq rfl (fv 3)) (blkOk_by (by first | (show blkC ["script", "dice", "grid", "places", "level", "k", "j", "turn", "near", "told", "place"] (defScope s_law) _ _ = true; decide +kernel) | kernel_rfl)) (ct_tup rfl (cts_cons (ct_name (by decide)) (cts_cons (ct_name (by decide)) cts_nil))) (fun _ _ _ _ _ => (pg_tup rfl (pgs_cons (pg_name S_law.nd rfl (by first | exact Or.inl rfl | exact Or.inr rfl) (by first | exact Or.inr rfl | exact Or.inl rfl)) (pgs_cons (pg_name S_law.nd rfl (by first | exact Or.inl rfl | exact Or.inr rfl) (by first | exact Or.inr rfl | exact Or.inl rfl)) pgs_nil)))) (fun _ _ _ _ _ => fts_nil) (fun _ _ _ _ _ => (fe_bin op_sub os_sub (fe_ix (ix_x (hu_of hr)) os_ix (fv 4) (fe_tup (fa_cons (fv 5) (fa_cons (fv 6) fa_nil))) (fun _ _ => rfl)) (fe_ix (ix_x (hu_of hr)) os_ix (fe_ix (ix_x (hu_of hr)) os_ix (fv 2) (fv 5) (fun _ _ => rfl)) (fv 6) (fun _ _ => rfl))))) fa_nil)) (nomark _))))) (fss_one (fs_ret fe_bl)) fss_nil)
    (fss_one (fs_if (ft_cmp (op_neX hr.units) os_ne (fe_callP (ok_lake_water T TB x) (hr.mono (by decide)) rfl T.m_lake_water T.F_lake_water.kp T.b_lake_water (takes_of rfl rfl rfl rfl) (fa_cons (fv 9) fa_nil)) fe_int (nomark _)) (fss_one (fs_ret fe_bl)) fss_nil))))))))))
    (fss_one (fs_ret fe_bl)))
end
/-! ### the head -/
def dd__law_dice : He.DefD := ⟨("_law_dice", none), "_law_dice", "_law_dice", defArgs s__law_dice, defBody s__law_dice, defScope s__law_dice, [], []⟩
def dd__law_rounds : He.DefD := ⟨("_law_rounds", none), "_law_rounds", "_law_rounds", defArgs s__law_rounds, defBody s__law_rounds, defScope s__law_rounds, [], []⟩
def dd__law_roll : He.DefD := ⟨("_law_roll", none), "_law_roll", "_law_roll", defArgs s__law_roll, defBody s__law_roll, defScope s__law_roll, [], []⟩
def dd__law_grid : He.DefD := ⟨("_law_grid", none), "_law_grid", "_law_grid", defArgs s__law_grid, defBody s__law_grid, defScope s__law_grid, [], []⟩
def dd__law_places : He.DefD := ⟨("_law_places", none), "_law_places", "_law_places", defArgs s__law_places, defBody s__law_places, defScope s__law_places, [], []⟩
def dd__law_beside : He.DefD := ⟨("_law_beside", none), "_law_beside", "_law_beside", defArgs s__law_beside, defBody s__law_beside, defScope s__law_beside, [], []⟩
def dd_is_whole : He.DefD := ⟨("is_whole", none), "is_whole", "is_whole", defArgs s_is_whole, defBody s_is_whole, defScope s_is_whole, [], []⟩
def dd_is_grid : He.DefD := ⟨("is_grid", none), "is_grid", "is_grid", defArgs s_is_grid, defBody s_is_grid, defScope s_is_grid, [.int (-1000000000), .int 1000000000], []⟩
def dd_check_grid : He.DefD := ⟨("check_grid", none), "check_grid", "check_grid", defArgs s_check_grid, defBody s_check_grid, defScope s_check_grid, [], []⟩
def dd_size_of : He.DefD := ⟨("size_of", none), "size_of", "size_of", defArgs s_size_of, defBody s_size_of, defScope s_size_of, [], []⟩
def dd_cells : He.DefD := ⟨("cells", none), "cells", "cells", defArgs s_cells, defBody s_cells, defScope s_cells, [], []⟩
def dd_within : He.DefD := ⟨("within", none), "within", "within", defArgs s_within, defBody s_within, defScope s_within, [], []⟩
def dd_beside : He.DefD := ⟨("beside", none), "beside", "beside", defArgs s_beside, defBody s_beside, defScope s_beside, [], []⟩
def dd_at : He.DefD := ⟨("at", none), "at", "at", defArgs s_at, defBody s_at, defScope s_at, [], []⟩
def dd_flooded : He.DefD := ⟨("flooded", none), "flooded", "flooded", defArgs s_flooded, defBody s_flooded, defScope s_flooded, [], []⟩
def dd_lake_water : He.DefD := ⟨("lake_water", none), "lake_water", "lake_water", defArgs s_lake_water, defBody s_lake_water, defScope s_lake_water, [], []⟩
def dd_law : He.DefD := ⟨("law", none), "law", "law", defArgs s_law, defBody s_law, defScope s_law, [], []⟩
def hfn : List He.DefD := [dd__law_dice, dd__law_rounds, dd__law_roll, dd__law_grid, dd__law_places, dd__law_beside, dd_is_whole, dd_is_grid, dd_check_grid, dd_size_of, dd_cells, dd_within, dd_beside, dd_at, dd_flooded, dd_lake_water, dd_law]
def hfa : List He.Fa := [.glo "_law_dice", .glo "_law_rounds", .glo "_law_roll", .glo "_law_grid", .glo "_law_places", .glo "_law_beside", .glo "is_whole", .glo "is_grid", .glo "check_grid", .glo "size_of", .glo "cells", .glo "within", .glo "beside", .glo "at", .glo "flooded", .glo "lake_water", .glo "law", .free "abs", .free "all", .free "bool", .free "int", .free "isinstance", .free "len", .free "max", .free "min", .free "range", .free "sum", .free "tuple", .glo "FOUR", .int "HIGH" 1000, .int "WIDE" 40, .glo "BadGrid", .exc "BadGrid"]
def htf : List He.Defn := [("is_grid", none), ("flooded", none), ("lake_water", none)]
def hex (K : PySem.W.Frag) : Bool := kvB K k_FOUR (.ref (He.ga K "FOUR")) && decide ([(He.cT K ("is_grid", none)).2, (He.cT K ("flooded", none)).2, (He.cT K ("lake_water", none)).2].Nodup)
theorem all_mk {l : PySem.W.OpenLaw} {w : World} {K : PySem.W.Frag} {h : Heap} {mg : Str → Option Value} {fa : Addr} (n : Nat) (X : K.In h) (G : h.Ns mainGlobals mg) (hlw : mg "law" = some (.ref fa)) (c : He.SaysX hfa hfn [] htf hex w h K)
    (hlaw : ∀ ns : List Int, ns.length ≤ n → ∃ st, F_law [scriptV ns] [] = .ok (.dat (.bool true)) st) : LamX.LawAtS l w K (L2.CX l.prog w) 7 n "script" mg fa h := by
  have cd := c.t.d
  have e := hlw.symm.trans (He.glo_ok X G (cd.fact 16 (f := .glo "law") rfl))
  cases e
  obtain ⟨fd0, F0⟩ := cd.def_ 0 (d := dd__law_dice) rfl
  have b0 := FunD.bindsN (ps := ["cell"]) F0 fun _ _ _ _ _ _ us hl => match us, hl with | [_], _ => rfl
  obtain ⟨fd1, F1⟩ := cd.def_ 1 (d := dd__law_rounds) rfl
  have b1 := FunD.bindsN (ps := ["script", "most"]) F1 fun _ _ _ _ _ _ us hl => match us, hl with | [_, _], _ => rfl
  obtain ⟨fd2, F2⟩ := cd.def_ 2 (d := dd__law_roll) rfl
  have b2 := FunD.bindsN (ps := ["dice", "many"]) F2 fun _ _ _ _ _ _ us hl => match us, hl with | [_, _], _ => rfl
  obtain ⟨fd3, F3⟩ := cd.def_ 3 (d := dd__law_grid) rfl
  have b3 := FunD.bindsN (ps := ["dice", "most", "low", "high"]) F3 fun _ _ _ _ _ _ us hl => match us, hl with | [_, _, _, _], _ => rfl
  obtain ⟨fd4, F4⟩ := cd.def_ 4 (d := dd__law_places) rfl
  have b4 := FunD.bindsN (ps := ["grid"]) F4 fun _ _ _ _ _ _ us hl => match us, hl with | [_], _ => rfl
  obtain ⟨fd5, F5⟩ := cd.def_ 5 (d := dd__law_beside) rfl
  have b5 := FunD.bindsN (ps := ["grid", "place"]) F5 fun _ _ _ _ _ _ us hl => match us, hl with | [_, _], _ => rfl
  obtain ⟨fd6, F6⟩ := cd.def_ 6 (d := dd_is_whole) rfl
  have b6 := FunD.bindsN (ps := ["thing", "low", "high"]) F6 fun _ _ _ _ _ _ us hl => match us, hl with | [_, _, _], _ => rfl
  obtain ⟨fd7, F7⟩ := cd.def_ 7 (d := dd_is_grid) rfl
  have F7 : FunD K "is_grid" "is_grid" (defArgs s_is_grid) (defBody s_is_grid) (defScope s_is_grid) [.int (-1000000000), .int 1000000000] [] _ fd7 := F7
  obtain ⟨ds7, hv7, b7⟩ := F7.binds1 (ps := ["thing", "low", "high"]) 3 2 (by simp) rfl fun _ _ _ _ _ _ _ us its h1 h2 => match us, its, h1, h2 with | [_, _, _], [_, _], _, _ => ⟨_, rfl, rfl⟩
  cases hv7
  obtain ⟨fd8, F8⟩ := cd.def_ 8 (d := dd_check_grid) rfl
  have b8 := FunD.bindsN (ps := ["thing", "low", "high"]) F8 fun _ _ _ _ _ _ us hl => match us, hl with | [_, _, _], _ => rfl
  obtain ⟨fd9, F9⟩ := cd.def_ 9 (d := dd_size_of) rfl
  have b9 := FunD.bindsN (ps := ["grid"]) F9 fun _ _ _ _ _ _ us hl => match us, hl with | [_], _ => rfl
  obtain ⟨fd10, F10⟩ := cd.def_ 10 (d := dd_cells) rfl
  have b10 := FunD.bindsN (ps := ["grid"]) F10 fun _ _ _ _ _ _ us hl => match us, hl with | [_], _ => rfl
  obtain ⟨fd11, F11⟩ := cd.def_ 11 (d := dd_within) rfl
  have b11 := FunD.bindsN (ps := ["grid", "place"]) F11 fun _ _ _ _ _ _ us hl => match us, hl with | [_, _], _ => rfl
  obtain ⟨fd12, F12⟩ := cd.def_ 12 (d := dd_beside) rfl
  have b12 := FunD.bindsN (ps := ["grid", "place", "steps"]) F12 fun _ _ _ _ _ _ us hl => match us, hl with | [_, _, _], _ => rfl
  obtain ⟨fd13, F13⟩ := cd.def_ 13 (d := dd_at) rfl
  have b13 := FunD.bindsN (ps := ["grid", "place"]) F13 fun _ _ _ _ _ _ us hl => match us, hl with | [_, _], _ => rfl
  obtain ⟨fd14, F14⟩ := cd.def_ 14 (d := dd_flooded) rfl
  have b14 := FunD.bindsN (ps := ["grid"]) F14 fun _ _ _ _ _ _ us hl => match us, hl with | [_], _ => rfl
  obtain ⟨fd15, F15⟩ := cd.def_ 15 (d := dd_lake_water) rfl
  have b15 := FunD.bindsN (ps := ["grid"]) F15 fun _ _ _ _ _ _ us hl => match us, hl with | [_], _ => rfl
  obtain ⟨fd16, F16⟩ := cd.def_ 16 (d := dd_law) rfl
  have b16 := FunD.bindsN (ps := ["script"]) F16 fun _ _ _ _ _ _ us hl => match us, hl with | [_], _ => rfl
  obtain ⟨tk_HIGH, mk_HIGH⟩ := He.int_ok X G (cd.fact 29 (f := .int "HIGH" 1000) rfl)
  obtain ⟨tk_WIDE, mk_WIDE⟩ := He.int_ok X G (cd.fact 30 (f := .int "WIDE" 40) rfl)
  have hx := c.more
  simp only [hex, Bool.and_eq_true, decide_eq_true_eq] at hx
  obtain ⟨hx_FOUR, hnd⟩ := hx
  obtain ⟨xq_BadGrid, xk_BadGrid, xb_BadGrid, xt_BadGrid⟩ := He.exc_ok (cd.fact 32 (f := .exc "BadGrid") rfl)
  let T : Tops K mg := { f__law_dice := He.ga K "_law_dice", d__law_dice := fd0, F__law_dice := F0, m__law_dice := He.glo_ok X G (cd.fact 0 (f := .glo "_law_dice") rfl), b__law_dice := b0, f__law_rounds := He.ga K "_law_rounds", d__law_rounds := fd1, F__law_rounds := F1, m__law_rounds := He.glo_ok X G (cd.fact 1 (f := .glo "_law_rounds") rfl), b__law_rounds := b1, f__law_roll := He.ga K "_law_roll", d__law_roll := fd2, F__law_roll := F2, m__law_roll := He.glo_ok X G (cd.fact 2 (f := .glo "_law_roll") rfl), b__law_roll := b2, f__law_grid := He.ga K "_law_grid", d__law_grid := fd3, F__law_grid := F3, m__law_grid := He.glo_ok X G (cd.fact 3 (f := .glo "_law_grid") rfl), b__law_grid := b3, f__law_places := He.ga K "_law_places", d__law_places := fd4, F__law_places := F4, m__law_places := He.glo_ok X G (cd.fact 4 (f := .glo "_law_places") rfl), b__law_places := b4, f__law_beside := He.ga K "_law_beside", d__law_beside := fd5, F__law_beside := F5, m__law_beside := He.glo_ok X G (cd.fact 5 (f := .glo "_law_beside") rfl), b__law_beside := b5, f_is_whole := He.ga K "is_whole", d_is_whole := fd6, F_is_whole := F6, m_is_whole := He.glo_ok X G (cd.fact 6 (f := .glo "is_whole") rfl), b_is_whole := b6, f_is_grid := He.ga K "is_grid", d_is_grid := fd7, F_is_grid := F7, m_is_grid := He.glo_ok X G (cd.fact 7 (f := .glo "is_grid") rfl), b_is_grid := b7, o_is_grid := (He.cT K ("is_grid", none)).1, P_is_grid := (He.cT K ("is_grid", none)).2, c_is_grid := code_cT (p := ("is_grid", none)) F7, f_check_grid := He.ga K "check_grid", d_check_grid := fd8, F_check_grid := F8, m_check_grid := He.glo_ok X G (cd.fact 8 (f := .glo "check_grid") rfl), b_check_grid := b8, f_size_of := He.ga K "size_of", d_size_of := fd9, F_size_of := F9, m_size_of := He.glo_ok X G (cd.fact 9 (f := .glo "size_of") rfl), b_size_of := b9, f_cells := He.ga K "cells", d_cells := fd10, F_cells := F10, m_cells := He.glo_ok X G (cd.fact 10 (f := .glo "cells") rfl), b_cells := b10, f_within := He.ga K "within", d_within := fd11, F_within := F11, m_within := He.glo_ok X G (cd.fact 11 (f := .glo "within") rfl), b_within := b11, f_beside := He.ga K "beside", d_beside := fd12, F_beside := F12, m_beside := He.glo_ok X G (cd.fact 12 (f := .glo "beside") rfl), b_beside := b12, f_at := He.ga K "at", d_at := fd13, F_at := F13, m_at := He.glo_ok X G (cd.fact 13 (f := .glo "at") rfl), b_at := b13, f_flooded := He.ga K "flooded", d_flooded := fd14, F_flooded := F14, m_flooded := He.glo_ok X G (cd.fact 14 (f := .glo "flooded") rfl), b_flooded := b14, o_flooded := (He.cT K ("flooded", none)).1, P_flooded := (He.cT K ("flooded", none)).2, c_flooded := code_cT (p := ("flooded", none)) F14, f_lake_water := He.ga K "lake_water", d_lake_water := fd15, F_lake_water := F15, m_lake_water := He.glo_ok X G (cd.fact 15 (f := .glo "lake_water") rfl), b_lake_water := b15, o_lake_water := (He.cT K ("lake_water", none)).1, P_lake_water := (He.cT K ("lake_water", none)).2, c_lake_water := code_cT (p := ("lake_water", none)) F15, f_law := He.ga K "law", d_law := fd16, F_law := F16, m_law := He.glo_ok X G (cd.fact 16 (f := .glo "law") rfl), b_law := b16, n_abs := He.free_ok X G (cd.fact 17 (f := .free "abs") rfl), n_all := He.free_ok X G (cd.fact 18 (f := .free "all") rfl), n_bool := He.free_ok X G (cd.fact 19 (f := .free "bool") rfl), n_int := He.free_ok X G (cd.fact 20 (f := .free "int") rfl), n_isinstance := He.free_ok X G (cd.fact 21 (f := .free "isinstance") rfl), n_len := He.free_ok X G (cd.fact 22 (f := .free "len") rfl), n_max := He.free_ok X G (cd.fact 23 (f := .free "max") rfl), n_min := He.free_ok X G (cd.fact 24 (f := .free "min") rfl), n_range := He.free_ok X G (cd.fact 25 (f := .free "range") rfl), n_sum := He.free_ok X G (cd.fact 26 (f := .free "sum") rfl), n_tuple := He.free_ok X G (cd.fact 27 (f := .free "tuple") rfl), t_HIGH := tk_HIGH, m_HIGH := mk_HIGH, t_WIDE := tk_WIDE, m_WIDE := mk_WIDE, a_FOUR := He.ga K "FOUR", m_FOUR := He.glo_ok X G (cd.fact 28 (f := .glo "FOUR") rfl), q_FOUR := kvB_ref hx_FOUR, x_BadGrid := He.ga K "BadGrid", xm_BadGrid := He.glo_ok X G (cd.fact 31 (f := .glo "BadGrid") rfl), xk_BadGrid := xk_BadGrid, xb_BadGrid := xb_BadGrid, xt_BadGrid := xt_BadGrid, xq_BadGrid := xq_BadGrid }
  have tabs_eq : tabs T = [((He.cT K ("is_grid", none)).1, (He.cT K ("is_grid", none)).2), ((He.cT K ("flooded", none)).1, (He.cT K ("flooded", none)).2), ((He.cT K ("lake_water", none)).1, (He.cT K ("lake_water", none)).2)] := rfl
  refine ⟨_, tabs T, spF (cfg T x0) 1 F_law, ?_, ?_, ?_, fun s v => .of_eq (by obtain ⟨oc, od, dV, kV, doc, pm, an, cdv, ct, osl, rfl, lk, hcd, hD, _⟩ := F16.ex; rcases hD with ⟨_, rfl⟩ | ⟨z, _⟩; rfl; exact absurd rfl z), fun H a ns hn _ hT hS => sp_law (cs := tabs T) (fun p hp => ?_) rfl rfl hlaw H a ns hn hT hS, fun base KB GB TBs => ok_law T ?_ x0⟩
  · intro p hp
    rw [tabs_eq] at hp
    simp only [List.mem_cons, List.not_mem_nil, or_false] at hp
    rcases hp with rfl | rfl | rfl
    · exact c.empty ("is_grid", none) (by decide)
    · exact c.empty ("flooded", none) (by decide)
    · exact c.empty ("lake_water", none) (by decide)
  · intro p hp
    rw [tabs_eq] at hp
    simp only [List.mem_cons, List.not_mem_nil, or_false] at hp
    rcases hp with rfl | rfl | rfl
    · exact c.out ("is_grid", none) (by decide)
    · exact c.out ("flooded", none) (by decide)
    · exact c.out ("lake_water", none) (by decide)
  · intro p hp
    rw [tabs_eq] at hp
    simp only [List.mem_cons, List.not_mem_nil, or_false] at hp
    rcases hp with rfl | rfl | rfl
    · exact PySem.W.codeHd_of_K X (c.hd ("is_grid", none) (by decide))
    · exact PySem.W.codeHd_of_K X (c.hd ("flooded", none) (by decide))
    · exact PySem.W.codeHd_of_K X (c.hd ("lake_water", none) (by decide))
  · obtain ⟨q, hq, e⟩ := List.mem_map.mp hp
    exact ⟨q.1, (List.of_mem_zip hq).1, by rw [← e]⟩
  · have hnd2 : ((tbT T).map Prod.fst).Nodup := hnd
    refine { t_is_grid := (let z := TBs ((He.cT K ("is_grid", none)).1, (He.cT K ("is_grid", none)).2) (by rw [tabs_eq]; simp); ⟨z.1, z.2, z.3⟩), p_is_grid := List.mem_of_getElem? (i := 0) rfl, q_is_grid := fun q hq => (by have z := T_uniq hnd2 (List.mem_of_getElem? (i := 0) rfl) hq; cases z), t_flooded := (let z := TBs ((He.cT K ("flooded", none)).1, (He.cT K ("flooded", none)).2) (by rw [tabs_eq]; simp); ⟨z.1, z.2, z.3⟩), p_flooded := List.mem_of_getElem? (i := 1) rfl, q_flooded := fun p hp e => T_uniq hnd2 (List.mem_of_getElem? (i := 1) rfl) (by rw [← e]; exact hp), t_lake_water := (let z := TBs ((He.cT K ("lake_water", none)).1, (He.cT K ("lake_water", none)).2) (by rw [tabs_eq]; simp); ⟨z.1, z.2, z.3⟩), p_lake_water := List.mem_of_getElem? (i := 2) rfl, q_lake_water := fun q hq => (by have z := T_uniq hnd2 (List.mem_of_getElem? (i := 2) rfl) hq; cases z) }
def loose0 : List Str := ["SkyError", "BadGrid", "WIDE", "FAR", "FOUR", "is_whole", "is_grid", "check_grid", "size_of", "cells", "within", "beside", "at", "HIGH", "flooded", "lake_water", "_law_dice", "_law_roll", "_law_rounds", "_law_grid", "_law_places", "_law_beside"]
def loose : List Str := loose0
end L_k08

namespace L_k08
open PySem PySem.Spec PyProof.Rows L2 Sk
abbrev R : PySem.W.OpenRow := PySem.W.OpenLaw.row PySem.Challenge.rw_skytable_k08_lakes_on_a_land
abbrev hk : PySem.W.Hook := He.hookX 5 hfa hfn [] htf hex
def ob (s : PySem.W.SharedT) : He.AlX := He.obsX 5 hfa hfn [] htf hex (HandSHeadRun.getT s)
theorem ob_eq (s : PySem.W.SharedT) : ob s = hk.obs s.abs := He.obsX_eq (HandSHeadRun.getT_eq s)
set_option maxHeartbeats 0 in
theorem run (w : World) : HandSHeadRun.RunEq R (PySem.W.view R.prog [26]) hk ob 4000 loose w := by
  intro os
  kernel_rfl
end L_k08
open PySem PySem.W PySem.Calls PyProof.Rows
set_option maxRecDepth 100000 in
set_option maxHeartbeats 0 in
theorem PySem.Challenge.cw_skytable_k08_lakes_on_a_land_holds : PySem.Challenge.rw_skytable_k08_lakes_on_a_land.Holds := by
  w_on; o_law
  refine HandSHeadRun.head_any (r := OpenLaw.row PySem.Challenge.rw_skytable_k08_lakes_on_a_land) (q := view (OpenLaw.row PySem.Challenge.rw_skytable_k08_lakes_on_a_land).prog [26]) (H := L_k08.hk) (ob := L_k08.ob) (M := 4000) (loose := L_k08.loose) (d := HandSHeadRun.topDef (OpenLaw.row PySem.Challenge.rw_skytable_k08_lakes_on_a_land).prog 26) (kwd := []) L_k08.ob_eq
    (by kernel_rfl) (fun s => by kernel_rfl) L_k08.run (by kernel_rfl) (by kernel_rfl) (by kernel_rfl) (by rfl) (by first | assumption | decide +kernel) (by decide +kernel) ⟨rfl, rfl, rfl, rfl, rfl, by decide +kernel⟩ ?hw ?hc
  case hw => w_witness2
  case hc =>
    refine LamX.walk_ofTsE (l := PySem.Challenge.rw_skytable_k08_lakes_on_a_land) (n := 63) (k := 7) (x := "script") (CX := fun w => L2.CX (PySem.Challenge.rw_skytable_k08_lakes_on_a_land).prog w) rfl (by decide) (by kernel_rfl) ⟨rfl, by decide, by decide⟩ ?F (fun w H s e s' z => by
      obtain ⟨_, _, _, _, _, _, _, _, _, _, _, _, z⟩ := z
      exact z)
    intro w mg fa h Y G hmg0
    obtain ⟨K, KX, c⟩ := Y
    have hmg : mg ("law" : PySem.Str) = some (.ref fa) := by
      have e : (HandSHeadRun.topDef (OpenLaw.row PySem.Challenge.rw_skytable_k08_lakes_on_a_land).prog 26).name = ("law" : PySem.Str) := by kernel_rfl
      rw [← e]
      exact hmg0
    exact ⟨K, KX, L_k08.all_mk 63 KX G hmg c L_k08.law_true⟩

