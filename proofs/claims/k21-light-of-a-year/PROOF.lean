import PyProof.Rows.All
import Wide.All
import OpenK.AllK
import Wide.FinOn
import HandS.ForMost
import HandS.ForExc
import HandS.EndTab
import HandS.TupAny
import HandS.Deep
import HandS.IsInst
import HandS.Style
import HandS.WordsExc
import HandS.AnyAll
import HandS.GenList
import HandS.Nested
import PySem.Challenge.RW_skytable_k21_the_light_of_a_year
set_option Elab.async false
set_option linter.all false
set_option maxRecDepth 100000
/-! Sk, part 1: pure values, stores, the relation to the abstract heap, steps. -/
namespace Sk
open PySem PySem.Spec PyProof.Rows L2

/-! ### values -/
mutual
def pdEq : (a b : PyData) → Decidable (a = b)
  | .none, .none => .isTrue rfl
  | .bool a, .bool b => if h : a = b then .isTrue (by rw [h]) else .isFalse fun e => h (PyData.bool.inj e)
  | .int a, .int b => if h : a = b then .isTrue (by rw [h]) else .isFalse fun e => h (PyData.int.inj e)
  | .str a, .str b => if h : a = b then .isTrue (by rw [h]) else .isFalse fun e => h (PyData.str.inj e)
  | .list a, .list b => match pdEqs a b with
    | .isTrue h => .isTrue (by rw [h])
    | .isFalse h => .isFalse fun e => h (PyData.list.inj e)
  | .tuple a, .tuple b => match pdEqs a b with
    | .isTrue h => .isTrue (by rw [h])
    | .isFalse h => .isFalse fun e => h (PyData.tuple.inj e)
  | .dict a, .dict b => match pdEqk a b with
    | .isTrue h => .isTrue (by rw [h])
    | .isFalse h => .isFalse fun e => h (PyData.dict.inj e)
  | .none, .bool _ | .none, .int _ | .none, .str _ | .none, .list _ | .none, .tuple _ | .none, .dict _ => .isFalse (fun e => nomatch e)
  | .bool _, .none | .bool _, .int _ | .bool _, .str _ | .bool _, .list _ | .bool _, .tuple _ | .bool _, .dict _ => .isFalse (fun e => nomatch e)
  | .int _, .none | .int _, .bool _ | .int _, .str _ | .int _, .list _ | .int _, .tuple _ | .int _, .dict _ => .isFalse (fun e => nomatch e)
  | .str _, .none | .str _, .bool _ | .str _, .int _ | .str _, .list _ | .str _, .tuple _ | .str _, .dict _ => .isFalse (fun e => nomatch e)
  | .list _, .none | .list _, .bool _ | .list _, .int _ | .list _, .str _ | .list _, .tuple _ | .list _, .dict _ => .isFalse (fun e => nomatch e)
  | .tuple _, .none | .tuple _, .bool _ | .tuple _, .int _ | .tuple _, .str _ | .tuple _, .list _ | .tuple _, .dict _ => .isFalse (fun e => nomatch e)
  | .dict _, .none | .dict _, .bool _ | .dict _, .int _ | .dict _, .str _ | .dict _, .list _ | .dict _, .tuple _ => .isFalse (fun e => nomatch e)
def pdEqs : (a b : List PyData) → Decidable (a = b)
  | [], [] => .isTrue rfl
  | x :: xs, y :: ys => match pdEq x y, pdEqs xs ys with
    | .isTrue h, .isTrue g => .isTrue (by rw [h, g])
    | .isFalse h, _ => .isFalse fun e => h (List.cons.inj e).1
    | _, .isFalse g => .isFalse fun e => g (List.cons.inj e).2
  | [], _ :: _ => .isFalse (fun e => nomatch e)
  | _ :: _, [] => .isFalse (fun e => nomatch e)
def pdEqk : (a b : List (PyData × PyData)) → Decidable (a = b)
  | [], [] => .isTrue rfl
  | (x, u) :: xs, (y, v) :: ys => match pdEq x y, pdEq u v, pdEqk xs ys with
    | .isTrue h, .isTrue k, .isTrue g => .isTrue (by rw [h, k, g])
    | .isFalse h, _, _ => .isFalse fun e => h (Prod.mk.inj (List.cons.inj e).1).1
    | _, .isFalse k, _ => .isFalse fun e => k (Prod.mk.inj (List.cons.inj e).1).2
    | _, _, .isFalse g => .isFalse fun e => g (List.cons.inj e).2
  | [], _ :: _ => .isFalse (fun e => nomatch e)
  | _ :: _, [] => .isFalse (fun e => nomatch e)
end
instance : DecidableEq PyData := pdEq

/-- a value: data; a thing of the store; a frozen list or tuple that holds such; a function -/
inductive Va where
  | dat (d : PyData) | ref (n : Nat) | seq (t : Bool) (xs : List Va) | fn (n : Nat)
mutual
def vaEq : (a b : Va) → Decidable (a = b)
  | .dat a, .dat b => if h : a = b then .isTrue (by rw [h]) else .isFalse fun e => h (Va.dat.inj e)
  | .ref a, .ref b => if h : a = b then .isTrue (by rw [h]) else .isFalse fun e => h (Va.ref.inj e)
  | .fn a, .fn b => if h : a = b then .isTrue (by rw [h]) else .isFalse fun e => h (Va.fn.inj e)
  | .seq t a, .seq u b => if h : t = u then (match vaEqs a b with
      | .isTrue g => .isTrue (by rw [h, g])
      | .isFalse g => .isFalse fun e => g (Va.seq.inj e).2) else .isFalse fun e => h (Va.seq.inj e).1
  | .dat _, .ref _ | .dat _, .seq _ _ | .dat _, .fn _ => .isFalse (fun e => nomatch e)
  | .ref _, .dat _ | .ref _, .seq _ _ | .ref _, .fn _ => .isFalse (fun e => nomatch e)
  | .seq _ _, .dat _ | .seq _ _, .ref _ | .seq _ _, .fn _ => .isFalse (fun e => nomatch e)
  | .fn _, .dat _ | .fn _, .ref _ | .fn _, .seq _ _ => .isFalse (fun e => nomatch e)
def vaEqs : (a b : List Va) → Decidable (a = b)
  | [], [] => .isTrue rfl
  | x :: xs, y :: ys => match vaEq x y, vaEqs xs ys with
    | .isTrue h, .isTrue g => .isTrue (by rw [h, g])
    | .isFalse h, _ => .isFalse fun e => h (List.cons.inj e).1
    | _, .isFalse g => .isFalse fun e => g (List.cons.inj e).2
  | [], _ :: _ => .isFalse (fun e => nomatch e)
  | _ :: _, [] => .isFalse (fun e => nomatch e)
end
instance : DecidableEq Va := vaEq
/-- a thing of the store -/
inductive Ob where
  | lst (xs : List Va) | dic (t : Bool) (kvs : List (PyData × Va)) | ins (c : Nat) (fs : List (Str × Va))
  deriving DecidableEq
abbrev Sto := List (Option Ob)
abbrev Ev := List (Option Va)
/-- an exception: the number of its class, what it was handed -/
structure Ec where
  cls : Nat
  arg : Option PyData
inductive Rs (a : Type) where
  | ok (x : a) (st : Sto) | err (e : Ec) (st : Sto) | bad
def Rs.bind {a b : Type} : Rs a → (a → Sto → Rs b) → Rs b
  | .ok x st, k => k x st
  | .err e st, _ => .err e st
  | .bad, _ => .bad
@[simp] theorem Rs.bind_ok {a b : Type} (x : a) (st : Sto) (k : a → Sto → Rs b) : (Rs.ok x st).bind k = k x st := rfl
@[simp] theorem Rs.bind_err {a b : Type} (e : Ec) (st : Sto) (k : a → Sto → Rs b) : (Rs.err e st).bind k = .err e st := rfl
@[simp] theorem Rs.bind_bad {a b : Type} (k : a → Sto → Rs b) : (Rs.bad).bind k = .bad := rfl

/-! ### the relation -/
structure Cfg where
  K : PySem.W.Frag
  /-- tables of code objects: some q for lambdas of the name q -/
  T : List (Addr × Option Str)
  cl : Nat → Option Addr
  ec : Nat → Option Addr
  ic : Nat → Option Addr

mutual
inductive RD (K : PySem.W.Frag) (H : Hp) (M : Addr → Prop) : V → PyData → Prop
  | non : RD K H M .non .none
  | bl (b : Bool) : RD K H M (.bl b) (.bool b)
  | int (i : Int) : RD K H M (.int i) (.int i)
  | str (x : Str) : RD K H M (.str x) (.str x)
  | lst {a : Addr} {vs : List V} {ds : List PyData} : H a = some (.lst vs) → ¬ M a → RDs K H M vs ds → RD K H M (.ref a) (.list ds)
  | tup {a : Addr} {vs : List V} {ds : List PyData} : H a = some (.tup vs) → RDs K H M vs ds → RD K H M (.ref a) (.tuple ds)
inductive RDs (K : PySem.W.Frag) (H : Hp) (M : Addr → Prop) : List V → List PyData → Prop
  | nil : RDs K H M [] []
  | cons {v : V} {vs : List V} {d : PyData} {ds : List PyData} : RD K H M v d → RDs K H M vs ds → RDs K H M (v :: vs) (d :: ds)
end
/-- a list that nobody changes -/
def SqF (K : PySem.W.Frag) (H : Hp) (a : Addr) (xs : List V) : Prop := (∃ o, H a = some (.frz o (.lst xs))) ∨
    ∃ (o : Obj) (its : Array Value) (n : Nat), K.lookup a = some o ∧ o.cls = .type "list" ∧ o.dict = none ∧ o.data = .seq its n ∧ its.size ≤ sizeLine ∧ Vals xs its.toList
theorem SqF.sql {K : PySem.W.Frag} {H : Hp} {a : Addr} {xs : List V} (h : SqF K H a xs) : SqL K H a xs := by
  rcases h with h | h
  · exact .inl (.inr h)
  · exact .inr h
mutual
inductive RV (C : Cfg) (H : Hp) (M : Addr → Prop) (m : List Addr) : V → Va → Prop
  | dat {v : V} {d : PyData} : RD C.K H M v d → RV C H M m v (.dat d)
  | ref {n : Nat} {a : Addr} : m[n]? = some a → RV C H M m (.ref a) (.ref n)
  | lst {a : Addr} {vs : List V} {xs : List Va} : H a = some (.lst vs) → ¬ M a → RVs C H M m vs xs → RV C H M m (.ref a) (.seq false xs)
  | frz {a : Addr} {vs : List V} {xs : List Va} : SqF C.K H a vs → RVs C H M m vs xs → RV C H M m (.ref a) (.seq false xs)
  | tup {a : Addr} {vs : List V} {xs : List Va} : SqT C.K H a vs → RVs C H M m vs xs → RV C H M m (.ref a) (.seq true xs)
  | fn {n : Nat} {a : Addr} : C.cl n = some a → RV C H M m (.ref a) (.fn n)
inductive RVs (C : Cfg) (H : Hp) (M : Addr → Prop) (m : List Addr) : List V → List Va → Prop
  | nil : RVs C H M m [] []
  | cons {v : V} {vs : List V} {x : Va} {xs : List Va} : RV C H M m v x → RVs C H M m vs xs → RVs C H M m (v :: vs) (x :: xs)
end

/-- what may be changed: the callers' and our own -/
abbrev Mx (M0 : Addr → Prop) (m : List Addr) : Addr → Prop := fun a => M0 a ∨ a ∈ m
def NoTbl (o : HO) : Prop := ∀ ps, o ≠ .tbl ps
/-- a step of ours: what we may not change stays; what we add was free -/
structure Go (m : List Addr) (H : Hp) (m' : List Addr) (H' : Hp) : Prop where
  pre : ∃ n, m' = m ++ n
  kp : ∀ b o, H b = some o → b ∉ m → NoTbl o → H' b = some o
  tk : ∀ b ps, H b = some (.tbl ps) → ∃ qs, H' b = some (.tbl qs)
  nw : ∀ a, a ∈ m' → a ∉ m → H a = none
theorem Go.refl (m : List Addr) (H : Hp) : Go m H m H := ⟨⟨[], by simp⟩, fun _ _ h _ _ => h, fun _ ps h => ⟨ps, h⟩, fun _ h n => absurd h n⟩
theorem Go.ex {m m' : List Addr} {H H' : Hp} (g : Go m H m' H') {b : Addr} {o : HO} (h : H b = some o) (n : b ∉ m) : ∃ u, H' b = some u := by
  by_cases t : NoTbl o
  · exact ⟨o, g.kp b o h n t⟩
  · have e : ∃ ps, o = .tbl ps := by
      apply Classical.byContradiction
      intro z
      exact t fun ps e => z ⟨ps, e⟩
    obtain ⟨ps, rfl⟩ := e
    obtain ⟨qs, q⟩ := g.tk b ps h
    exact ⟨_, q⟩
theorem Go.trans {m m1 m2 : List Addr} {H H1 H2 : Hp} (a : Go m H m1 H1) (b : Go m1 H1 m2 H2) : Go m H m2 H2 := by
  obtain ⟨n1, e1⟩ := a.pre
  obtain ⟨n2, e2⟩ := b.pre
  refine ⟨⟨n1 ++ n2, by rw [e2, e1, List.append_assoc]⟩, fun c o h n t => ?_, fun c ps h => ?_, fun x hx n => ?_⟩
  · refine b.kp c o (a.kp c o h n t) (fun hc => ?_) t
    rw [a.nw c hc n] at h
    cases h
  · obtain ⟨qs, q⟩ := a.tk c ps h
    exact b.tk c qs q
  · by_cases h1 : x ∈ m1
    · exact a.nw x h1 n
    · have q := b.nw x hx h1
      cases e : H x with
      | none => rfl
      | some o =>
        obtain ⟨u, hu⟩ := a.ex e n
        rw [hu] at q
        cases q
theorem Go.mem {m m' : List Addr} {H H' : Hp} (g : Go m H m' H') {n : Nat} {a : Addr} (h : m[n]? = some a) : m'[n]? = some a := by
  obtain ⟨l, e⟩ := g.pre
  rw [e, List.getElem?_append_left (List.getElem?_eq_some_iff.mp h).1]
  exact h
theorem Rd.ex {H : Hp} {a : Addr} {u : HO} (h : Rd H a u) : ∃ o, H a = some o := by
  rcases h with h | ⟨o, h⟩
  · exact ⟨_, h⟩
  · exact ⟨_, h⟩
theorem Go.rd {m m' : List Addr} {H H' : Hp} (g : Go m H m' H') {a : Addr} {u : HO} (h : Rd H a u) (n : a ∉ m) (t : NoTbl u) : Rd H' a u := by
  rcases h with h | ⟨o, h⟩
  · exact .inl (g.kp a _ h n t)
  · exact .inr ⟨o, g.kp a _ h n fun ps e => nomatch e⟩
theorem Go.nmx {m m' : List Addr} {H H' : Hp} (g : Go m H m' H') {M0 : Addr → Prop} {a : Addr} {o : HO} (h : H a = some o) (n : ¬ Mx M0 m a) : ¬ Mx M0 m' a := fun z => by
  rcases z with z | z
  · exact n (.inl z)
  · have q := g.nw a z fun y => n (.inr y)
    rw [h] at q
    cases q
/-- what stands in m: a list, a dict, an instance -/
def MutX : HO → Prop
  | .lst _ => True
  | .dK _ => True
  | .dT _ => True
  | .ins _ _ _ => True
  | _ => False
def MutO (H : Hp) (m : List Addr) : Prop := ∀ a ∈ m, ∃ o, H a = some o ∧ MutX o
theorem Go.sqt {K : PySem.W.Frag} {m m' : List Addr} {H H' : Hp} (g : Go m H m' H') (mu : MutO H m) {a : Addr} {vs : List V} (h : SqT K H a vs) : SqT K H' a vs := by
  rcases h with h | h
  · refine .inl (g.rd h (fun z => ?_) fun ps e => nomatch e)
    obtain ⟨o, ho, mo⟩ := mu a z
    rcases h with h | ⟨ob, h⟩
    · rw [h] at ho
      cases ho
      exact mo
    · rw [h] at ho
      cases ho
      exact mo
  · exact .inr h
theorem Go.sqf {K : PySem.W.Frag} {m m' : List Addr} {H H' : Hp} (g : Go m H m' H') (mu : MutO H m) {a : Addr} {vs : List V} (h : SqF K H a vs) : SqF K H' a vs := by
  rcases h with ⟨ob, h⟩ | h
  · refine .inl ⟨ob, g.kp a _ h (fun z => ?_) fun ps e => nomatch e⟩
    obtain ⟨o, ho, mo⟩ := mu a z
    rw [h] at ho
    cases ho
    exact mo
  · exact .inr h
theorem Go.tup {m m' : List Addr} {H H' : Hp} (g : Go m H m' H') (mu : MutO H m) {a : Addr} {vs : List V} (h : H a = some (.tup vs)) : H' a = some (.tup vs) := by
  refine g.kp a _ h (fun z => ?_) fun ps e => nomatch e
  obtain ⟨o, ho, mo⟩ := mu a z
  rw [h] at ho
  cases ho
  exact mo
section
variable {C : Cfg} {M0 : Addr → Prop} {m m' : List Addr} {H H' : Hp}
mutual
theorem RD.go {K : PySem.W.Frag} (g : Go m H m' H') (mu : MutO H m) : ∀ {v : V} {d : PyData}, RD K H (Mx M0 m) v d → RD K H' (Mx M0 m') v d
  | _, _, .non => .non
  | _, _, .bl b => .bl b
  | _, _, .int i => .int i
  | _, _, .str x => .str x
  | _, _, .lst h n r => .lst (g.kp _ _ h (fun z => n (.inr z)) fun ps e => nomatch e) (g.nmx h n) (RDs.go g mu r)
  | _, _, .tup h r => .tup (g.tup mu h) (RDs.go g mu r)
theorem RDs.go {K : PySem.W.Frag} (g : Go m H m' H') (mu : MutO H m) : ∀ {vs : List V} {ds : List PyData}, RDs K H (Mx M0 m) vs ds → RDs K H' (Mx M0 m') vs ds
  | _, _, .nil => .nil
  | _, _, .cons a b => .cons (RD.go g mu a) (RDs.go g mu b)
end
mutual
theorem RV.go (g : Go m H m' H') (mu : MutO H m) : ∀ {v : V} {x : Va}, RV C H (Mx M0 m) m v x → RV C H' (Mx M0 m') m' v x
  | _, _, .dat h => .dat (h.go g mu)
  | _, _, .ref h => .ref (g.mem h)
  | _, _, .lst h n r => .lst (g.kp _ _ h (fun z => n (.inr z)) fun ps e => nomatch e) (g.nmx h n) (RVs.go g mu r)
  | _, _, .frz h r => .frz (g.sqf mu h) (RVs.go g mu r)
  | _, _, .tup h r => .tup (g.sqt mu h) (RVs.go g mu r)
  | _, _, .fn h => .fn h
theorem RVs.go (g : Go m H m' H') (mu : MutO H m) : ∀ {vs : List V} {xs : List Va}, RVs C H (Mx M0 m) m vs xs → RVs C H' (Mx M0 m') m' vs xs
  | _, _, .nil => .nil
  | _, _, .cons a b => .cons (RV.go g mu a) (RVs.go g mu b)
end
end

/-! ### things of the store -/
def keyD : Key → PyData
  | .inl i => .int i
  | .inr x => .str x
def RO (C : Cfg) (H : Hp) (M : Addr → Prop) (m : List Addr) (a : Addr) : Ob → Prop
  | .lst xs => ∃ vs, H a = some (.lst vs) ∧ RVs C H M m vs xs
  | .dic false kvs => ∃ ks : List (Key × V), H a = some (.dK ks) ∧ Paired (fun (p : Key × V) (q : PyData × Va) => keyD p.1 = q.1 ∧ RV C H M m p.2 q.2) ks kvs
  | .dic true kvs => ∃ ks : List (List Key × V), H a = some (.dT ks) ∧ Paired (fun (p : List Key × V) (q : PyData × Va) => PyData.tuple (p.1.map keyD) = q.1 ∧ RV C H M m p.2 q.2) ks kvs
  | .ins c fs => ∃ A dx gs, C.ic c = some A ∧ H a = some (.ins A dx gs) ∧ Paired (fun (p : Str × V) (q : Str × Va) => p.1 = q.1 ∧ RV C H M m p.2 q.2) gs fs
theorem RO.mut {C : Cfg} {H : Hp} {M : Addr → Prop} {m : List Addr} {a : Addr} {o : Ob} (h : RO C H M m a o) : ∃ u, H a = some u ∧ MutX u := by
  cases o with
  | lst xs => obtain ⟨vs, e, _⟩ := h; exact ⟨_, e, trivial⟩
  | dic t kvs =>
    cases t with
    | false => obtain ⟨ks, e, _⟩ := h; exact ⟨_, e, trivial⟩
    | true => obtain ⟨ks, e, _⟩ := h; exact ⟨_, e, trivial⟩
  | ins c fs => obtain ⟨_, _, _, _, e, _⟩ := h; exact ⟨_, e, trivial⟩
theorem RO.go {C : Cfg} {M0 : Addr → Prop} {m m' : List Addr} {H H' : Hp} {a : Addr} {o : Ob} (h : RO C H (Mx M0 m) m a o) (g : Go m H m' H') (mu : MutO H m) (e : H' a = H a) : RO C H' (Mx M0 m') m' a o := by
  cases o with
  | lst xs => obtain ⟨vs, q, r⟩ := h; exact ⟨vs, e.trans q, r.go g mu⟩
  | dic t kvs =>
    cases t with
    | false => obtain ⟨ks, q, r⟩ := h; exact ⟨ks, e.trans q, Paired.mapP r fun _ _ z => ⟨z.1, z.2.go g mu⟩⟩
    | true => obtain ⟨ks, q, r⟩ := h; exact ⟨ks, e.trans q, Paired.mapP r fun _ _ z => ⟨z.1, z.2.go g mu⟩⟩
  | ins c fs => obtain ⟨A, dx, gs, ha, q, r⟩ := h; exact ⟨A, dx, gs, ha, e.trans q, Paired.mapP r fun _ _ z => ⟨z.1, z.2.go g mu⟩⟩

def TbOk (H : Hp) (p : Addr × Option Str) : Prop := ∃ ps : Array Value, H p.1 = some (.tbl ps) ∧ TriplesOk ps.toList ∧
  ∀ q, p.2 = some q → ∀ (pos : Pos) (cv : Value), codeAmong pos ps.toList = some cv → ∃ c, cv = .ref c ∧ H c = some (LamX.CodeO c q)
structure RH (C : Cfg) (M0 : Addr → Prop) (m : List Addr) (H : Hp) (st : Sto) : Prop where
  m0 : ∀ a, M0 a → ∃ o, H a = some o
  len : m.length = st.length
  nd : m.Nodup
  dj : ∀ a ∈ m, ¬ M0 a
  mu : MutO H m
  ob : ∀ (n : Nat) (o : Ob), st[n]? = some (some o) → ∃ a, m[n]? = some a ∧ RO C H (Mx M0 m) m a o
  tb : ∀ p ∈ C.T, TbOk H p
section
variable {C : Cfg} {M0 : Addr → Prop} {m m' : List Addr} {H H' : Hp} {st : Sto}
theorem TbOk.same {p : Addr × Option Str} (t : TbOk H p) (e : ∀ b o, H b = some o → H' b = some o) : TbOk H' p := by
  obtain ⟨ps, h1, h2, h3⟩ := t
  refine ⟨ps, e _ _ h1, h2, fun q hq pos cv hc => ?_⟩
  obtain ⟨c, e1, e2⟩ := h3 q hq pos cv hc
  exact ⟨c, e1, e _ _ e2⟩
theorem Go.same (e : Same H H') : Go m H m H' := ⟨⟨[], by simp⟩, fun b o h _ _ => e b o h, fun b ps h => ⟨ps, e _ _ h⟩, fun _ h n => absurd h n⟩
/-- all that stood stands -/
theorem RH.same (r : RH C M0 m H st) (e : Same H H') : RH C M0 m H' st where
  m0 := fun a h => let ⟨o, q⟩ := r.m0 a h; ⟨o, e _ _ q⟩
  len := r.len
  nd := r.nd
  dj := r.dj
  mu := fun a h => let ⟨o, q, z⟩ := r.mu a h; ⟨o, e _ _ q, z⟩
  ob := fun n o h => by
    obtain ⟨a, ha, ro⟩ := r.ob n o h
    obtain ⟨u, hu, _⟩ := ro.mut
    exact ⟨a, ha, ro.go (Go.same e) r.mu ((e _ _ hu).trans hu.symm)⟩
  tb := fun p h => (r.tb p h).same e
theorem same_new {p : Addr} {o : HO} (h : H p = none) : Same H (upd H p o) := fun b x e => by
  rw [upd_ne (ne_of_none e h)]
  exact e
/-- a new thing of the store -/
theorem Go.alloc {p : Addr} {o : HO} (h : H p = none) : Go m H (m ++ [p]) (upd H p o) :=
  ⟨⟨[p], rfl⟩, fun b u e _ _ => same_new h b u e, fun b ps e => ⟨ps, same_new h _ _ e⟩, fun a ha n => by
    rcases List.mem_append.mp ha with z | z
    · exact absurd z n
    · have e : a = p := by simpa using z
      rw [e]
      exact h⟩
theorem RH.alloc (r : RH C M0 m H st) {p : Addr} {o : HO} {ob : Ob} (h : H p = none) (ro : RO C (upd H p o) (Mx M0 (m ++ [p])) (m ++ [p]) p ob) : RH C M0 (m ++ [p]) (upd H p o) (st ++ [some ob]) where
  m0 := fun a ha => let ⟨u, q⟩ := r.m0 a ha; ⟨u, same_new h _ _ q⟩
  len := by rw [List.length_append, List.length_append, r.len]; rfl
  nd := by
    rw [List.nodup_append]
    refine ⟨r.nd, by simp, fun a ha b hb e => ?_⟩
    have e2 : b = p := by simpa using hb
    obtain ⟨u, hu, _⟩ := r.mu a ha
    rw [e, e2, h] at hu
    cases hu
  dj := fun a ha z => by
    rcases List.mem_append.mp ha with q | q
    · exact r.dj a q z
    · have e2 : a = p := by simpa using q
      obtain ⟨u, hu⟩ := r.m0 a z
      rw [e2, h] at hu
      cases hu
  mu := fun a ha => by
    rcases List.mem_append.mp ha with q | q
    · obtain ⟨u, hu, z⟩ := r.mu a q
      exact ⟨u, same_new h _ _ hu, z⟩
    · have e2 : a = p := by simpa using q
      obtain ⟨u, hu, z⟩ := ro.mut
      rw [e2]
      exact ⟨u, hu, z⟩
  ob := fun n u hn => by
    by_cases hl : n < st.length
    · rw [List.getElem?_append_left hl] at hn
      obtain ⟨a, ha, q⟩ := r.ob n u hn
      obtain ⟨x, hx, _⟩ := q.mut
      exact ⟨a, (Go.alloc (m := m) (o := o) h).mem ha, q.go (Go.alloc h) r.mu ((same_new h _ _ hx).trans hx.symm)⟩
    · have e : n = st.length := by
        have h2 := (List.getElem?_eq_some_iff.mp hn).1
        rw [List.length_append] at h2
        simp at h2
        omega
      subst e
      rw [List.getElem?_append_right (Nat.le_refl _)] at hn
      have e3 : u = ob := by simpa using hn.symm
      refine ⟨p, ?_, by rw [e3]; exact ro⟩
      rw [← r.len, List.getElem?_append_right (Nat.le_refl _)]
      simp
  tb := fun q hq => (r.tb q hq).same (same_new h)
/-- a thing of the store is written -/
theorem Go.write {a : Addr} {o : HO} (ha : a ∈ m) (mu : MutO H m) : Go m H m (upd H a o) :=
  ⟨⟨[], by simp⟩, fun b u e n _ => (upd_ne (show b ≠ a from fun z => n (z.symm ▸ ha))).trans e, fun b ps e => ⟨ps, (upd_ne (show b ≠ a from fun z => by
      obtain ⟨u, hu, w⟩ := mu a ha
      rw [z, hu] at e
      cases e
      exact w)).trans e⟩, fun _ h n => absurd h n⟩
theorem RH.write (r : RH C M0 m H st) {n : Nat} {a : Addr} {o : HO} {ob : Ob} (ha : m[n]? = some a) (mo : MutX o) (ro : RO C (upd H a o) (Mx M0 m) m a ob) : RH C M0 m (upd H a o) (st.set n (some ob)) := by
  have hm : a ∈ m := List.mem_of_getElem? ha
  have g := Go.write (o := o) hm r.mu
  refine ⟨fun b hb => ?_, by rw [List.length_set]; exact r.len, r.nd, r.dj, fun b hb => ?_, fun k u hk => ?_, fun p hp => ?_⟩
  · obtain ⟨u, hu⟩ := r.m0 b hb
    exact ⟨u, (upd_ne (show b ≠ a from fun z => r.dj a hm (z ▸ hb))).trans hu⟩
  · by_cases e : b = a
    · subst e
      exact ⟨o, upd_same, mo⟩
    · obtain ⟨u, hu, z⟩ := r.mu b hb
      exact ⟨u, by rw [upd_ne e]; exact hu, z⟩
  · by_cases e : n = k
    · subst e
      have hl : n < st.length := by rw [← r.len]; exact (List.getElem?_eq_some_iff.mp ha).1
      rw [List.getElem?_set_self hl] at hk
      cases hk
      exact ⟨a, ha, ro⟩
    · rw [List.getElem?_set_ne e] at hk
      obtain ⟨b, hb, q⟩ := r.ob k u hk
      have nb : b ≠ a := fun z => e (by
        obtain ⟨h1, e1⟩ := List.getElem?_eq_some_iff.mp ha
        obtain ⟨h2, e2⟩ := List.getElem?_eq_some_iff.mp hb
        exact (List.getElem_inj r.nd).mp (e1.trans (z.symm.trans e2.symm)))
      exact ⟨b, hb, q.go g r.mu (upd_ne nb)⟩
  · obtain ⟨ps, h1, h2, h3⟩ := r.tb p hp
    have na : ∀ c u, H c = some u → ¬ MutX u → c ≠ a := fun c u hc nm z => by
      obtain ⟨u', hu', w⟩ := r.mu a hm
      rw [← z, hc] at hu'
      cases hu'
      exact nm w
    refine ⟨ps, by rw [upd_ne (na _ _ h1 fun z => z)]; exact h1, h2, fun q hq pos cv hc => ?_⟩
    obtain ⟨c, e1, e2⟩ := h3 q hq pos cv hc
    exact ⟨c, e1, by rw [upd_ne (na _ _ e2 fun z => z)]; exact e2⟩
end
end Sk

/-! Sk, part 2: ends, readings, expressions. -/
namespace Sk
open PySem PySem.Spec PyProof.Rows L2

/-! ### ends -/
def REx (C : Cfg) (H : Hp) (M : Addr → Prop) (e : Ec) (c : Value) (d : Option Addr) : Prop :=
  (∃ A, C.ec e.cls = some A ∧ c = .ref A) ∧ (match e.arg with
    | none => d = none
    | some p => ∃ x v, d = some x ∧ H x = some (.xd [("at", v)]) ∧ RD C.K H M v p)
/-- what a result of ours promises to Q (and to E) -/
def FinG {a b : Type} (R : Hp → List Addr → b → a → Prop) (C : Cfg) (M0 : Addr → Prop) (m : List Addr) (H : Hp) (E : XK) (r : Rs a) (Q : b → Hp → Prop) : Prop :=
  match r with
  | .ok x st => ∀ (y : b) (m' : List Addr) (H' : Hp), Go m H m' H' → RH C M0 m' H' st → R H' m' y x → Q y H'
  | .err e st => ∀ (c : Value) (d : Option Addr) (m' : List Addr) (H' : Hp), Go m H m' H' → RH C M0 m' H' st → REx C H' (Mx M0 m') e c d → E c d H'
  | .bad => False
abbrev relV (C : Cfg) (M0 : Addr → Prop) : Hp → List Addr → V → Va → Prop := fun H m v x => RV C H (Mx M0 m) m v x
abbrev relVs (C : Cfg) (M0 : Addr → Prop) : Hp → List Addr → List V → List Va → Prop := fun H m v x => RVs C H (Mx M0 m) m v x
abbrev relB : Hp → List Addr → Bool → Bool → Prop := fun _ _ a b => a = b
abbrev Fin (C : Cfg) (M0 : Addr → Prop) := FinG (relV C M0) C M0
section
variable {a b c d : Type} {R : Hp → List Addr → b → a → Prop} {R2 : Hp → List Addr → d → c → Prop} {C : Cfg} {M0 : Addr → Prop} {m m1 : List Addr} {H H1 : Hp} {E : XK} {Q Q' : b → Hp → Prop}
theorem FinG.rebase {r : Rs a} (h : FinG R C M0 m H E r Q) (g : Go m H m1 H1) : FinG R C M0 m1 H1 E r Q := by
  cases r with
  | ok x st => exact fun y m' H' g' rh q => h y m' H' (g.trans g') rh q
  | err e st => exact fun c d m' H' g' rh q => h c d m' H' (g.trans g') rh q
  | bad => exact h
theorem FinG.mono {r : Rs a} (h : FinG R C M0 m H E r Q) (i : ∀ y H, Q y H → Q' y H) : FinG R C M0 m H E r Q' := by
  cases r with
  | ok x st => exact fun y m' H' g' rh q => i _ _ (h y m' H' g' rh q)
  | err e st => exact h
  | bad => exact h
/-- first r, then k -/
theorem FinG.bind {r : Rs a} {k : a → Sto → Rs c} {Q2 : d → Hp → Prop} (h : FinG R2 C M0 m H E (r.bind k) Q2) :
    FinG R C M0 m H E r (fun y H1 => ∃ m1 st1 x, Go m H m1 H1 ∧ RH C M0 m1 H1 st1 ∧ R H1 m1 y x ∧ FinG R2 C M0 m1 H1 E (k x st1) Q2) := by
  cases r with
  | ok x st => exact fun y m' H' g' rh q => ⟨m', st, x, g', rh, q, FinG.rebase h g'⟩
  | err e st => exact h
  | bad => exact h
theorem FinG.out {x : a} {st : Sto} {y : b} (h : FinG R C M0 m H E (.ok x st) Q) (rh : RH C M0 m H st) (q : R H m y x) : Q y H := h y m H (Go.refl m H) rh q
theorem FinG.same {x : a} {st : Sto} {y : b} (h : FinG R C M0 m H E (.ok x st) Q) (rh : RH C M0 m H st) (e : Same H H1) (q : R H1 m y x) : Q y H1 := h y m H1 (Go.same e) (rh.same e) q
end

/-! ### names -/
structure RE (C : Cfg) (H : Hp) (M0 : Addr → Prop) (m : List Addr) (s : L2.St) (ev : Ev) : Prop where
  len : s.length = ev.length
  vr : ∀ (i : Nat) (x : Va), ev[i]? = some (some x) → ∃ v, s[i]? = some (some v) ∧ RV C H (Mx M0 m) m v x
section
variable {C : Cfg} {H H1 : Hp} {M0 : Addr → Prop} {m m1 : List Addr} {s : L2.St} {ev : Ev}
theorem RE.go (r : RE C H M0 m s ev) (g : Go m H m1 H1) (mu : MutO H m) : RE C H1 M0 m1 s ev := ⟨r.len, fun i x h => let ⟨v, e, q⟩ := r.vr i x h; ⟨v, e, q.go g mu⟩⟩
theorem RE.set (r : RE C H M0 m s ev) (i : Nat) {v : V} {x : Va} (q : RV C H (Mx M0 m) m v x) : RE C H M0 m (s.set i (some v)) (ev.set i (some x)) := by
  refine ⟨by rw [List.length_set, List.length_set, r.len], fun j y h => ?_⟩
  by_cases e : i = j
  · subst e
    have hl : i < ev.length := by
      have h2 := (List.getElem?_eq_some_iff.mp h).1
      rw [List.length_set] at h2
      exact h2
    rw [List.getElem?_set_self hl] at h
    cases h
    exact ⟨v, List.getElem?_set_self (by rw [r.len]; exact hl), q⟩
  · rw [List.getElem?_set_ne e] at h
    rw [List.getElem?_set_ne e]
    exact r.vr j y h
end

/-! ### readings -/
abbrev CE := Ev → Sto → Rs Va
abbrev CA := Ev → Sto → Rs (List Va)
abbrev CB := Ev → Sto → Rs Bool
def tG {a b : Type} (R : Cfg → (Addr → Prop) → Hp → List Addr → b → a → Prop) (C : Cfg) (W : WX) (c : Ev → Sto → Rs a) : L2.St → Hp → (b → Hp → Prop) → Prop := fun s H Q =>
  ∃ M0 m ev st, RH C M0 m H st ∧ RE C H M0 m s ev ∧ FinG (R C M0) C M0 m H (WE W s) (c ev st) Q
abbrev tE (C : Cfg) (W : WX) (c : CE) : TE := tG relV C W c
abbrev tA (C : Cfg) (W : WX) (c : CA) : TA := tG relVs C W c
abbrev tT (C : Cfg) (W : WX) (c : CB) : TT := tG (fun _ _ => relB) C W c
section
variable {X : Cx}
theorem PE.imp {e : Expr} {t t' : TE} (h : PE X e t) (i : ∀ s H Q, t' s H Q → t s H Q) : PE X e t' := ⟨fun pins s σ H Q I q => h.run pins s σ H Q I (i _ _ _ q)⟩
theorem PT.imp {e : Expr} {t t' : TT} (h : PT X e t) (i : ∀ s H Q, t' s H Q → t s H Q) : PT X e t' := ⟨fun pins s σ H Q I q => h.run pins s σ H Q I (i _ _ _ q)⟩
theorem PW.imp {e : Expr} {t t' : TT} (h : PW X e t) (i : ∀ s H Q, t' s H Q → t s H Q) : PW X e t' := ⟨fun w pins s σ H Q I q => h.run w pins s σ H Q I (i _ _ _ q)⟩
theorem PA.imp {e : List Expr} {t t' : TA} (h : PA X e t) (i : ∀ s H Q, t' s H Q → t s H Q) : PA X e t' := ⟨fun p pins s σ H Q I q => h.run p pins s σ H Q I (i _ _ _ q)⟩
end
section
variable {a b c d : Type} {R : Cfg → (Addr → Prop) → Hp → List Addr → b → a → Prop} {R2 : Cfg → (Addr → Prop) → Hp → List Addr → d → c → Prop} {C : Cfg} {W : WX} {s : L2.St} {H : Hp}
/-- a reading taken apart: first f, then k -/
theorem tG.bind {f : Ev → Sto → Rs a} {k : a → Ev → Sto → Rs c} {Q : d → Hp → Prop} {P : b → Hp → Prop} (h : tG R2 C W (fun ev st => (f ev st).bind fun x st1 => k x ev st1) s H Q)
    (n : ∀ M0 m ev st x y H1, RH C M0 m H1 st → RE C H1 M0 m s ev → R C M0 H1 m y x → FinG (R2 C M0) C M0 m H1 (WE W s) (k x ev st) Q → P y H1) : tG R C W f s H P := by
  obtain ⟨M0, m, ev, st, rh, re, fin⟩ := h
  refine ⟨M0, m, ev, st, rh, re, (FinG.bind (R := R C M0) fin).mono fun y H1 q => ?_⟩
  obtain ⟨m1, st1, x, g, rh1, rx, fin1⟩ := q
  exact n M0 m1 ev st1 x y H1 rh1 (re.go g rh.mu) rx fin1
theorem tG.mk {M0 : Addr → Prop} {m : List Addr} {ev : Ev} {st : Sto} {f : Ev → Sto → Rs a} {Q : b → Hp → Prop} (rh : RH C M0 m H st) (re : RE C H M0 m s ev) (fin : FinG (R C M0) C M0 m H (WE W s) (f ev st) Q) : tG R C W f s H Q := ⟨M0, m, ev, st, rh, re, fin⟩
end

/-! ### the simplest expressions -/
section
variable {X : Cx} {C : Cfg} {W : WX} {pos : Pos}
def dC (x : PyData) : CE := fun _ st => .ok (.dat x) st
def dVar (i : Nat) : CE := fun ev st => match ev[i]? with
  | some (some x) => .ok x st
  | _ => .bad
theorem fe_c {e : Expr} {v : V} {d : PyData} (h : PE X e (tC v)) (r : ∀ H M, RD C.K H M v d) : PE X e (tE C W (dC d)) := PE.imp h fun s H Q ⟨M0, m, ev, st, rh, re, fin⟩ => FinG.out fin rh (.dat (r _ _))
theorem fe_int {i : Int} {j : Nat} : PE X (.Constant (.int i) j pos) (tE C W (dC (.int i))) := fe_c pe_int fun _ _ => .int i
theorem fe_bl {b : Bool} {j : Nat} : PE X (.Constant (.bool b) j pos) (tE C W (dC (.bool b))) := fe_c pe_bl fun _ _ => .bl b
theorem fe_non {j : Nat} : PE X (.Constant .none j pos) (tE C W (dC .none)) := fe_c pe_non fun _ _ => .non
theorem fe_str {x : Str} {j : Nat} : PE X (.Constant (.str x) j pos) (tE C W (dC (.str x))) := fe_c pe_str fun _ _ => .str x
theorem fe_v {e : Expr} {i : Nat} (h : PE X e (tVar i)) : PE X e (tE C W (dVar i)) := PE.imp h fun s H Q ⟨M0, m, ev, st, rh, re, fin⟩ => by
  have fin' : FinG (relV C M0) C M0 m H (WE W s) (match ev[i]? with | some (some x) => Rs.ok x st | _ => .bad) Q := fin
  cases e : ev[i]? with
  | none => rw [e] at fin'; exact fin'.elim
  | some o =>
    cases o with
    | none => rw [e] at fin'; exact fin'.elim
    | some x =>
      rw [e] at fin'
      obtain ⟨v, h1, h2⟩ := re.vr i x e
      exact ⟨v, h1, FinG.out fin' rh h2⟩
theorem fv (i : Nat) {x : Str} (hN : X.N[i]? = some x := by rfl) (hv : Vis X.env.scope x := by first | exact Or.inl rfl | exact Or.inr (Or.inl rfl) | exact Or.inr (Or.inr rfl)) (hd : (x == ("__debug__" : Str)) = false := by decide)
    (hcd : (x == ("__classdict__" : Str)) = false := by decide) : PE X (.Name x pos) (tE C W (dVar i)) := fe_v (pe_var hN hv hd hcd)

/-! ### two operands -/
def dBin (f : Va → Va → Sto → Rs Va) (a b : CE) : CE := fun ev st => (a ev st).bind fun x st1 => (b ev st1).bind fun y st2 => f x y st2
def OpS (C : Cfg) (r : R2) (f : Va → Va → Sto → Rs Va) : Prop := ∀ (M0 : Addr → Prop) (m : List Addr) (H : Hp) (st : Sto) (v u : V) (x y : Va) (E : XK) (Q : VK),
  RH C M0 m H st → RV C H (Mx M0 m) m v x → RV C H (Mx M0 m) m u y → Fin C M0 m H E (f x y st) Q → r v u H Q
theorem tOp_of {r : R2} {f : Va → Va → Sto → Rs Va} {ca cb : CE} (hs : OpS C r f) (s : L2.St) (H : Hp) (Q : VK) (h : tE C W (dBin f ca cb) s H Q) : tOp r (tE C W ca) (tE C W cb) s H Q :=
  tG.bind h fun M0 m ev st x v H1 rh re rv fin => by
    refine ⟨M0, m, ev, st, rh, re, (FinG.bind (R := relV C M0) fin).mono fun u H2 q => ?_⟩
    obtain ⟨m2, st2, y, g, rh2, ry, fin2⟩ := q
    exact hs M0 m2 H2 st2 v u x y _ Q rh2 (rv.go g rh.mu) ry fin2
variable {a b c : Expr} {ca cb cc : CE}
theorem fe_bin {op : Operator} {r : R2} {f : Va → Va → Sto → Rs Va} (ho : OpR X (binaryOp op) r) (hs : OpS C r f) (ha : PE X a (tE C W ca)) (hb : PE X b (tE C W cb)) : PE X (.BinOp a op b pos) (tE C W (dBin f ca cb)) :=
  PE.imp (pe_op ho ha hb) (tOp_of hs)
theorem fe_cmp {op : CmpOp} {r : R2} {f : Va → Va → Sto → Rs Va} (ho : OpR X (compareOp op) r) (hs : OpS C r f) (ha : PE X a (tE C W ca)) (hb : PE X b (tE C W cb)) (hm : behindInMarks op b = false) : PE X (.Compare a [op] [b] pos) (tE C W (dBin f ca cb)) :=
  PE.imp (pe_cmpR ho ha hb hm) (tOp_of hs)
theorem fe_ix {r : R2} {f : Va → Va → Sto → Rs Va} (ho : IxR X r) (hs : OpS C r f) (ha : PE X a (tE C W ca)) (hb : PE X b (tE C W cb)) (hp : PlainIx b) : PE X (.Subscript a b pos) (tE C W (dBin f ca cb)) :=
  PE.imp (pe_ix ho ha hb hp) (tOp_of hs)
/-- as a test -/
def asB (x : Va) (st : Sto) : Rs Bool := match x with
  | .dat (.bool k) => .ok k st
  | _ => .bad
def dTest (c : CE) : CB := fun ev st => (c ev st).bind asB
theorem tB_of (s : L2.St) (H : Hp) (Q : Bool → Hp → Prop) (h : tT C W (dTest cc) s H Q) : tTest (tE C W cc) s H Q := by
  refine tG.bind (k := fun x _ st => asB x st) h fun M0 m ev st x v H1 rh re rv fin => ?_
  cases rv with
  | dat rd =>
    cases rd with
    | bl k => exact ⟨k, rfl, FinG.out (R := relB) fin rh rfl⟩
    | _ => exact False.elim fin
  | _ => exact False.elim fin
theorem ft_val (h : PE X c (tE C W cc)) (he : ∀ whole, isTrue c X.env whole = (do let v ← whole; standAt c.pos; holding [v] (truthy v)) := by intro _; rfl) : PT X c (tT C W (dTest cc)) := PT.imp (pt_val h he) tB_of
theorem ft_cmp {op : CmpOp} {r : R2} {f : Va → Va → Sto → Rs Va} (ho : OpR X (compareOp op) r) (hs : OpS C r f) (ha : PE X a (tE C W ca)) (hb : PE X b (tE C W cb)) (hm : behindInMarks op b = false) : PT X (.Compare a [op] [b] pos) (tT C W (dTest (dBin f ca cb))) :=
  PT.imp (pt_cmpR ho ha hb hm) fun s H Q h => tG.bind (k := fun x ev st => (cb ev st).bind fun y st2 => (f x y st2).bind asB)
    (show tT C W (fun ev st => (ca ev st).bind fun x st1 => (cb ev st1).bind fun y st2 => (f x y st2).bind asB) s H Q from by
      have e : (dTest (dBin f ca cb)) = (fun ev st => (ca ev st).bind fun x st1 => (cb ev st1).bind fun y st2 => (f x y st2).bind asB) := by
        funext ev st
        unfold dTest dBin
        cases ca ev st with
        | ok x st1 =>
          show ((cb ev st1).bind fun y st2 => f x y st2).bind asB = _
          cases h2 : cb ev st1 with
          | ok y st2 => simp [h2]
          | err _ _ => simp [h2]
          | bad => simp [h2]
        | err _ _ => rfl
        | bad => rfl
      rw [← e]
      exact h) fun M0 m ev st x v H1 rh re rv fin => by
    refine ⟨M0, m, ev, st, rh, re, (FinG.bind (R := relV C M0) fin).mono fun u H2 q => ?_⟩
    obtain ⟨m2, st2, y, g, rh2, ry, fin2⟩ := q
    refine hs M0 m2 H2 st2 v u x y _ _ rh2 (rv.go g rh.mu) ry ((FinG.bind (R := relV C M0) fin2).mono fun w H3 q3 => ?_)
    obtain ⟨m3, st3, z, g3, rh3, rz, fin3⟩ := q3
    cases rz with
    | dat rd =>
      cases rd with
      | bl k => exact ⟨k, rfl, FinG.out (R := relB) fin3 rh3 rfl⟩
      | _ => exact False.elim fin3
    | _ => exact False.elim fin3
end
end Sk

/-! Sk, part 3: and, or, not, chains, arguments, displays, operators by values. -/
namespace Sk
open PySem PySem.Spec PyProof.Rows L2
@[simp] theorem Rs.bind_assoc {a b c : Type} (r : Rs a) (f : a → Sto → Rs b) (g : b → Sto → Rs c) : (r.bind f).bind g = r.bind fun x st => (f x st).bind g := by
  cases r <;> rfl

/-! ### and, or, not, if -/
section
variable {X : Cx} {C : Cfg} {W : WX} {pos : Pos} {a b c : Expr} {rest : List Expr} {ca cb cc : CE} {ta tb tc : CB}
def dAndT (a b : CB) : CB := fun ev st => (a ev st).bind fun k st1 => if k = true then b ev st1 else .ok false st1
def dOrT (a b : CB) : CB := fun ev st => (a ev st).bind fun k st1 => if k = true then .ok true st1 else b ev st1
def dNotT (a : CB) : CB := fun ev st => (a ev st).bind fun k st1 => .ok (!k) st1
theorem fw_and1 (ha : PT X a (tT C W ta)) : PW X (.BoolOp .And [a] pos) (tT C W ta) := pw_and1 ha
theorem fw_or1 (ha : PT X a (tT C W ta)) : PW X (.BoolOp .Or [a] pos) (tT C W ta) := pw_or1 ha
theorem fw_and (ha : PT X a (tT C W ta)) (hb : PW X (.BoolOp .And (b :: rest) pos) (tT C W tb)) : PW X (.BoolOp .And (a :: b :: rest) pos) (tT C W (dAndT ta tb)) :=
  PW.imp (pw_and ha hb) fun s H Q h => tG.bind (R := fun _ _ => relB) (k := fun k ev st => if k = true then tb ev st else .ok false st) h fun M0 m ev st x y H1 rh re rv fin => by
    have e0 : y = x := rv
    subst e0
    cases y with
    | true => exact ite_tt (tG.mk rh re fin)
    | false => exact ite_ff (FinG.out (R := relB) fin rh rfl)
theorem fw_or (ha : PT X a (tT C W ta)) (hb : PW X (.BoolOp .Or (b :: rest) pos) (tT C W tb)) : PW X (.BoolOp .Or (a :: b :: rest) pos) (tT C W (dOrT ta tb)) :=
  PW.imp (pw_or ha hb) fun s H Q h => tG.bind (R := fun _ _ => relB) (k := fun k ev st => if k = true then .ok true st else tb ev st) h fun M0 m ev st x y H1 rh re rv fin => by
    have e0 : y = x := rv
    subst e0
    cases y with
    | true => exact ite_tt (FinG.out (R := relB) fin rh rfl)
    | false => exact ite_ff (tG.mk rh re fin)
theorem ft_not (ha : PT X a (tT C W ta)) : PT X (.UnaryOp .Not a pos) (tT C W (dNotT ta)) :=
  PT.imp (pt_not ha) fun s H Q h => tG.bind (R := fun _ _ => relB) (k := fun k ev st => .ok (!k) st) h fun M0 m ev st x y H1 rh re rv fin => by
    have e0 : y = x := rv
    subst e0
    exact FinG.out (R := relB) fin rh rfl
def dAnd (a b : CE) : CE := fun ev st => (a ev st).bind fun x st1 => (asB x st1).bind fun k st2 => if k = true then b ev st2 else .ok (.dat (.bool false)) st2
def dOr (a b : CE) : CE := fun ev st => (a ev st).bind fun x st1 => (asB x st1).bind fun k st2 => if k = true then .ok (.dat (.bool true)) st2 else b ev st2
def notV (x : Va) (st : Sto) : Rs Va := (asB x st).bind fun k st2 => .ok (.dat (.bool (!k))) st2
def dUn (f : Va → Sto → Rs Va) (a : CE) : CE := fun ev st => (a ev st).bind f
theorem asB_inv {b : Type} {R : Hp → List Addr → b → Va → Prop} {H : Hp} {M0 : Addr → Prop} {m : List Addr} {v : V} {x : Va} (rv : RV C H (Mx M0 m) m v x) (st : Sto) : asB x st = .bad ∨ ∃ k, v = .bl k ∧ x = .dat (.bool k) := by
  cases rv with
  | dat rd =>
    cases rd with
    | bl k => exact .inr ⟨k, rfl, rfl⟩
    | _ => exact .inl rfl
  | _ => exact .inl rfl
theorem fe_one {op : BoolOp} (h : PE X a (tE C W ca)) : PE X (.BoolOp op [a] pos) (tE C W ca) := pe_one h
theorem fe_and (ha : PE X a (tE C W ca)) (hb : PE X (.BoolOp .And (b :: rest) pos) (tE C W cb)) : PE X (.BoolOp .And (a :: b :: rest) pos) (tE C W (dAnd ca cb)) :=
  PE.imp (pe_and ha hb) fun s H Q h => tG.bind (R := relV) (k := fun x ev st1 => (asB x st1).bind fun k st2 => if k = true then cb ev st2 else .ok (.dat (.bool false)) st2) h fun M0 m ev st x v H1 rh re rv fin => by
    rcases asB_inv (R := relV C M0) rv st with z | ⟨k, rfl, rfl⟩
    · rw [z] at fin; exact fin.elim
    · refine ⟨k, rfl, ?_⟩
      cases k with
      | true => exact ite_tt (tG.mk rh re fin)
      | false => exact ite_ff (FinG.out (R := relV C M0) fin rh (.dat (.bl false)))
theorem fe_or (ha : PE X a (tE C W ca)) (hb : PE X (.BoolOp .Or (b :: rest) pos) (tE C W cb)) : PE X (.BoolOp .Or (a :: b :: rest) pos) (tE C W (dOr ca cb)) :=
  PE.imp (pe_or ha hb) fun s H Q h => tG.bind (R := relV) (k := fun x ev st1 => (asB x st1).bind fun k st2 => if k = true then .ok (.dat (.bool true)) st2 else cb ev st2) h fun M0 m ev st x v H1 rh re rv fin => by
    rcases asB_inv (R := relV C M0) rv st with z | ⟨k, rfl, rfl⟩
    · rw [z] at fin; exact fin.elim
    · refine ⟨k, rfl, ?_⟩
      cases k with
      | true => exact ite_tt (FinG.out (R := relV C M0) fin rh (.dat (.bl true)))
      | false => exact ite_ff (tG.mk rh re fin)
theorem fe_not (ha : PE X a (tE C W ca)) : PE X (.UnaryOp .Not a pos) (tE C W (dUn notV ca)) :=
  PE.imp (pe_not ha) fun s H Q h => tG.bind (R := relV) (k := fun x _ st => notV x st) h fun M0 m ev st x v H1 rh re rv fin => by
    rcases asB_inv (R := relV C M0) rv st with z | ⟨k, rfl, rfl⟩
    · unfold notV at fin; rw [z] at fin; exact fin.elim
    · exact ⟨k, rfl, FinG.out (R := relV C M0) fin rh (.dat (.bl _))⟩
def dIf (c : CB) (a b : CE) : CE := fun ev st => (c ev st).bind fun k st1 => if k = true then a ev st1 else b ev st1
theorem fe_if (hc : PT X c (tT C W tc)) (ha : PE X a (tE C W ca)) (hb : PE X b (tE C W cb)) : PE X (.IfExp c a b pos) (tE C W (dIf tc ca cb)) :=
  PE.imp (pe_ifExp hc ha hb) fun s H Q h => tG.bind (R := fun _ _ => relB) (k := fun k ev st => if k = true then ca ev st else cb ev st) h fun M0 m ev st x y H1 rh re rv fin => by
    have e0 : y = x := rv
    subst e0
    cases y with
    | true => exact ite_tt (tG.mk rh re fin)
    | false => exact ite_ff (tG.mk rh re fin)
/-- an operator of one operand -/
def UnS (C : Cfg) (r : V → Hp → VK → Prop) (f : Va → Sto → Rs Va) : Prop := ∀ (M0 : Addr → Prop) (m : List Addr) (H : Hp) (st : Sto) (v : V) (x : Va) (E : XK) (Q : VK),
  RH C M0 m H st → RV C H (Mx M0 m) m v x → Fin C M0 m H E (f x st) Q → r v H Q
theorem fe_un {op : UnaryOp} {r : V → Hp → VK → Prop} {f : Va → Sto → Rs Va} (ho : UnR X (unaryOp op) r) (hs : UnS C r f) (ha : PE X a (tE C W ca)) : PE X (.UnaryOp op a pos) (tE C W (dUn f ca)) :=
  PE.imp (pe_un ho ha) fun s H Q h => tG.bind (R := relV) (k := fun x _ st => f x st) h fun M0 m ev st x v H1 rh re rv fin => hs M0 m H1 st v x _ Q rh rv fin
/-! ### chains -/
def dChain (f g : Va → Va → Sto → Rs Va) (a b c : CE) : CE := fun ev st => (a ev st).bind fun x st1 => (b ev st1).bind fun y st2 => (f x y st2).bind fun z st3 => (asB z st3).bind fun k st4 =>
  if k = true then (c ev st4).bind fun w st5 => g y w st5 else .ok (.dat (.bool false)) st4
theorem tChain_of {r r' : R2} {f g : Va → Va → Sto → Rs Va} (hf : OpS C r f) (hg : OpS C r' g) (s : L2.St) (H : Hp) (Q : VK) (h : tE C W (dChain f g ca cb cc) s H Q) : tChain r r' (tE C W ca) (tE C W cb) (tE C W cc) s H Q :=
  tG.bind (R := relV) (k := fun x ev st1 => (cb ev st1).bind fun y st2 => (f x y st2).bind fun z st3 => (asB z st3).bind fun k st4 => if k = true then (cc ev st4).bind fun w st5 => g y w st5 else .ok (.dat (.bool false)) st4) h fun M0 m ev st x v H1 rh re rv fin => by
    refine ⟨M0, m, ev, st, rh, re, (FinG.bind (R := relV C M0) fin).mono fun u H2 q => ?_⟩
    obtain ⟨m2, st2, y, g2, rh2, ry, fin2⟩ := q
    refine hf M0 m2 H2 st2 v u x y (WE W s) _ rh2 (rv.go g2 rh.mu) ry ((FinG.bind (R := relV C M0) fin2).mono fun w H3 q3 => ?_)
    obtain ⟨m3, st3, z, g3, rh3, rz, fin3⟩ := q3
    rcases asB_inv (R := relV C M0) rz st3 with e | ⟨k, rfl, rfl⟩
    · rw [e] at fin3; exact fin3.elim
    · refine ⟨k, rfl, ?_⟩
      cases k with
      | false => exact ite_ff (FinG.out (R := relV C M0) fin3 rh3 (.dat (.bl false)))
      | true =>
        have re3 := (re.go g2 rh.mu).go g3 rh2.mu
        refine ite_tt ⟨M0, m3, ev, st3, rh3, re3, (FinG.bind (R := relV C M0) fin3).mono fun w H4 q4 => ?_⟩
        obtain ⟨m4, st4, z4, g4, rh4, rz4, fin4⟩ := q4
        exact hg M0 m4 H4 st4 u w y z4 _ Q rh4 ((ry.go g3 rh2.mu).go g4 rh3.mu) rz4 fin4
theorem fe_chain {op op' : CmpOp} {r r' : R2} {f g : Va → Va → Sto → Rs Va} (ho : OpR X (compareOp op) r) (ho' : OpR X (compareOp op') r') (hf : OpS C r f) (hg : OpS C r' g) (ha : PE X a (tE C W ca)) (hb : PE X b (tE C W cb)) (hc : PE X c (tE C W cc))
    (hm : lastMarks [op, op'] [b, c] = false := by with_unfolding_all rfl) : PE X (.Compare a [op, op'] [b, c] pos) (tE C W (dChain f g ca cb cc)) := PE.imp (pe_chain ho ho' ha hb hc hm) (tChain_of hf hg)
/-- a reading weakened at its end -/
theorem tE_test {t : TE} (i : ∀ s H Q, tE C W cc s H Q → t s H Q) (s : L2.St) (H : Hp) (Q : Bool → Hp → Prop) (h : tT C W (dTest cc) s H Q) : tTest t s H Q := i s H _ (tB_of s H Q h)
theorem ft_chain {op op' : CmpOp} {r r' : R2} {f g : Va → Va → Sto → Rs Va} (ho : OpR X (compareOp op) r) (ho' : OpR X (compareOp op') r') (hf : OpS C r f) (hg : OpS C r' g) (ha : PE X a (tE C W ca)) (hb : PE X b (tE C W cb)) (hc : PE X c (tE C W cc))
    (hm : lastMarks [op, op'] [b, c] = false := by with_unfolding_all rfl) : PT X (.Compare a [op, op'] [b, c] pos) (tT C W (dTest (dChain f g ca cb cc))) := PT.imp (pt_chain ho ho' ha hb hc hm) (tE_test (tChain_of hf hg))
end

/-! ### arguments, displays -/
def allDat : List Va → Option (List PyData)
  | [] => some []
  | .dat d :: r => (allDat r).map (d :: ·)
  | _ :: _ => none
theorem allDat_map : ∀ ds : List PyData, allDat (ds.map .dat) = some ds
  | [] => rfl
  | d :: r => by
    show (allDat (r.map .dat)).map (d :: ·) = _
    rw [allDat_map r]
    rfl
def mkT (xs : List Va) : Va := match allDat xs with
  | some ds => .dat (.tuple ds)
  | none => .seq true xs
def mkL (xs : List Va) : Va := match allDat xs with
  | some ds => .dat (.list ds)
  | none => .seq false xs
@[simp] theorem mkT_map (ds : List PyData) : mkT (ds.map .dat) = .dat (.tuple ds) := by unfold mkT; rw [allDat_map]
@[simp] theorem mkL_map (ds : List PyData) : mkL (ds.map .dat) = .dat (.list ds) := by unfold mkL; rw [allDat_map]
section
variable {C : Cfg} {H : Hp} {M : Addr → Prop} {m : List Addr}
theorem RVs.dats : ∀ {vs : List V} {xs : List Va} {ds : List PyData}, RVs C H M m vs xs → allDat xs = some ds → RDs C.K H M vs ds
  | _, _, _, .nil, e => by cases e; exact .nil
  | _, _, _, .cons (.dat h) r, e => by
    have e' : (allDat _).map (_ :: ·) = some _ := e
    obtain ⟨ds', e1, e2⟩ := Option.map_eq_some_iff.mp e'
    subst e2
    exact .cons h (RVs.dats r e1)
  | _, _, _, .cons (.ref _) r, e => nomatch e
  | _, _, _, .cons (.lst _ _ _) r, e => nomatch e
  | _, _, _, .cons (.frz _ _) r, e => nomatch e
  | _, _, _, .cons (.tup _ _) r, e => nomatch e
  | _, _, _, .cons (.fn _) r, e => nomatch e
theorem RVs.len : ∀ {vs : List V} {xs : List Va}, RVs C H M m vs xs → vs.length = xs.length
  | _, _, .nil => rfl
  | _, _, .cons _ r => by rw [List.length_cons, List.length_cons, RVs.len r]
theorem RDs.len {K : PySem.W.Frag} : ∀ {vs : List V} {xs : List PyData}, RDs K H M vs xs → vs.length = xs.length
  | _, _, .nil => rfl
  | _, _, .cons _ r => by rw [List.length_cons, List.length_cons, RDs.len r]
theorem RDs.rvs : ∀ {vs : List V} {ds : List PyData}, RDs C.K H M vs ds → RVs C H M m vs (ds.map .dat)
  | _, _, .nil => .nil
  | _, _, .cons a r => .cons (.dat a) (RDs.rvs r)
theorem RV.mkT {vs : List V} {xs : List Va} {a : Addr} (h : H a = some (.tup vs)) (r : RVs C H M m vs xs) : RV C H M m (.ref a) (mkT xs) := by
  unfold Sk.mkT
  cases e : allDat xs with
  | some ds => exact .dat (.tup h (r.dats e))
  | none => exact .tup (.inl (.inl h)) r
theorem RV.mkL {vs : List V} {xs : List Va} {a : Addr} (h : H a = some (.lst vs)) (n : ¬ M a) (r : RVs C H M m vs xs) : RV C H M m (.ref a) (mkL xs) := by
  unfold Sk.mkL
  cases e : allDat xs with
  | some ds => exact .dat (.lst h n (r.dats e))
  | none => exact .lst h n r
end
theorem notMx {C : Cfg} {M0 : Addr → Prop} {m : List Addr} {H : Hp} {st : Sto} {p : Addr} (rh : RH C M0 m H st) (hp : H p = none) : ¬ Mx M0 m p := fun z => by
  rcases z with z | z
  · obtain ⟨o, e⟩ := rh.m0 p z
    rw [hp] at e; cases e
  · obtain ⟨o, e, _⟩ := rh.mu p z
    rw [hp] at e; cases e
section
variable {X : Cx} {C : Cfg} {W : WX} {pos : Pos} {e : Expr} {es : List Expr} {ca : CE} {cs : CA}
def dNil : CA := fun _ st => .ok [] st
def dCons (a : CE) (r : CA) : CA := fun ev st => (a ev st).bind fun x st1 => (r ev st1).bind fun xs st2 => .ok (x :: xs) st2
theorem fa_nil : PA X [] (tA C W dNil) := PA.imp pa_nil fun s H Q ⟨M0, m, ev, st, rh, re, fin⟩ => FinG.out (R := relVs C M0) fin rh .nil
theorem fa_cons (ha : PE X e (tE C W ca)) (hr : PA X es (tA C W cs)) (hs : starEach (e :: es) X.env = (false, eval e X.env) :: starEach es X.env := by rfl) : PA X (e :: es) (tA C W (dCons ca cs)) :=
  PA.imp (pa_cons ha hr hs) fun s H Q h => tG.bind (R := relV) (k := fun x ev st1 => (cs ev st1).bind fun xs st2 => .ok (x :: xs) st2) h fun M0 m ev st x v H1 rh re rv fin => by
    refine ⟨M0, m, ev, st, rh, re, (FinG.bind (R := relVs C M0) fin).mono fun us H2 q => ?_⟩
    obtain ⟨m2, st2, xs, g, rh2, rs, fin2⟩ := q
    exact FinG.out (R := relVs C M0) fin2 rh2 (.cons (rv.go g rh.mu) rs)
/-- the most items that we make at once -/
def few (n : Nat) : Bool := decide (n ≤ 10000000)
theorem few_le {n : Nat} (h : few n = true) : n ≤ sizeLine := Nat.le_trans (of_decide_eq_true h) (by rw [sizeLine_eq]; decide)
theorem few_lt {n : Nat} (h : few n = true) : n < sizeLine := Nat.lt_of_le_of_lt (of_decide_eq_true h) (by rw [sizeLine_eq]; decide)
def dTup (c : CA) : CE := fun ev st => (c ev st).bind fun xs st1 => if few xs.length = true then .ok (mkT xs) st1 else .bad
def dLst (c : CA) : CE := fun ev st => (c ev st).bind fun xs st1 => if few xs.length = true then .ok (mkL xs) st1 else .bad
/-- a list that is to be changed -/
def newL (xs : List Va) (st : Sto) : Rs Va := .ok (.ref st.length) (st ++ [some (.lst xs)])
def dLstM (c : CA) : CE := fun ev st => (c ev st).bind fun xs st1 => if few xs.length = true then newL xs st1 else .bad
theorem Fin.newL {M0 : Addr → Prop} {m : List Addr} {H : Hp} {st : Sto} {E : XK} {Q : VK} {xs : List Va} {vs : List V} {p : Addr} (fin : Fin C M0 m H E (newL xs st) Q) (rh : RH C M0 m H st) (hp : H p = none) (r : RVs C H (Mx M0 m) m vs xs) : Q (.ref p) (upd H p (.lst vs)) := by
  have g : Go m H (m ++ [p]) (upd H p (.lst vs)) := Go.alloc hp
  refine fin (.ref p) (m ++ [p]) _ g (rh.alloc hp ⟨vs, upd_same, r.go g rh.mu⟩) (.ref ?_)
  rw [← rh.len, List.getElem?_append_right (Nat.le_refl _)]
  simp
theorem Fin.newT {M0 : Addr → Prop} {m : List Addr} {H : Hp} {st : Sto} {E : XK} {Q : VK} {xs : List Va} {vs : List V} {p : Addr} (fin : Fin C M0 m H E (.ok (mkT xs) st) Q) (rh : RH C M0 m H st) (hp : H p = none) (r : RVs C H (Mx M0 m) m vs xs) : Q (.ref p) (upd H p (.tup vs)) :=
  FinG.same (R := relV C M0) fin rh (same_new hp) (RV.mkT upd_same (r.go (Go.same (same_new hp)) rh.mu))
theorem Fin.newF {M0 : Addr → Prop} {m : List Addr} {H : Hp} {st : Sto} {E : XK} {Q : VK} {xs : List Va} {vs : List V} {p : Addr} (fin : Fin C M0 m H E (.ok (mkL xs) st) Q) (rh : RH C M0 m H st) (hp : H p = none) (r : RVs C H (Mx M0 m) m vs xs) : Q (.ref p) (upd H p (.lst vs)) :=
  FinG.same (R := relV C M0) fin rh (same_new hp) (RV.mkL upd_same (notMx rh hp) (r.go (Go.same (same_new hp)) rh.mu))
theorem Fin.ifGo {a b : Type} {R : Hp → List Addr → b → a → Prop} {M0 : Addr → Prop} {m : List Addr} {H : Hp} {E : XK} {Q : b → Hp → Prop} {k : Bool} {r : Rs a} (h : FinG R C M0 m H E (if k = true then r else .bad) Q) : k = true ∧ FinG R C M0 m H E r Q := by
  cases k with
  | true => exact ⟨rfl, h⟩
  | false => exact h.elim
theorem fe_tup {x1 : Nat} (h : PA X es (tA C W cs)) : PE X (.Tuple es x1 pos) (tE C W (dTup cs)) :=
  PE.imp (pe_tup h) fun s H Q h => tG.bind (R := relVs) (k := fun xs _ st1 => if few xs.length = true then .ok (mkT xs) st1 else .bad) h fun M0 m ev st xs vs H1 rh re rv fin => by
    obtain ⟨hk, fin⟩ := Fin.ifGo fin
    exact ⟨by rw [rv.len]; exact few_le hk, fun p hp => Fin.newT fin rh hp rv⟩
theorem fe_lst (h : PA X es (tA C W cs)) : PE X (.List es pos) (tE C W (dLst cs)) :=
  PE.imp (pe_lst h) fun s H Q h => tG.bind (R := relVs) (k := fun xs _ st1 => if few xs.length = true then .ok (mkL xs) st1 else .bad) h fun M0 m ev st xs vs H1 rh re rv fin => by
    obtain ⟨hk, fin⟩ := Fin.ifGo fin
    exact ⟨by rw [rv.len]; exact few_le hk, fun p hp => Fin.newF fin rh hp rv⟩
theorem fe_lstM (h : PA X es (tA C W cs)) : PE X (.List es pos) (tE C W (dLstM cs)) :=
  PE.imp (pe_lst h) fun s H Q h => tG.bind (R := relVs) (k := fun xs _ st1 => if few xs.length = true then newL xs st1 else .bad) h fun M0 m ev st xs vs H1 rh re rv fin => by
    obtain ⟨hk, fin⟩ := Fin.ifGo fin
    exact ⟨by rw [rv.len]; exact few_le hk, fun p hp => Fin.newL fin rh hp rv⟩

/-! ### calls of built-ins by values -/
def dCallB (f : List Va → Sto → Rs Va) (c : CA) : CE := fun ev st => (c ev st).bind f
def CallS (C : Cfg) (r : List V → Hp → VK → Prop) (f : List Va → Sto → Rs Va) : Prop := ∀ (M0 : Addr → Prop) (m : List Addr) (H : Hp) (st : Sto) (vs : List V) (xs : List Va) (E : XK) (Q : VK),
  RH C M0 m H st → RVs C H (Mx M0 m) m vs xs → Fin C M0 m H E (f xs st) Q → r vs H Q
theorem tCB_of {r : List V → Hp → VK → Prop} {f : List Va → Sto → Rs Va} (hs : CallS C r f) (s : L2.St) (H : Hp) (Q : VK) (h : tE C W (dCallB f cs) s H Q) : tCB r (tA C W cs) s H Q :=
  tG.bind (R := relVs) (k := fun xs _ st => f xs st) h fun M0 m ev st xs vs H1 rh re rv fin => hs M0 m H1 st vs xs _ Q rh rv fin
theorem fe_callB {x : Str} {p : Pos} {id : String} {r : List V → Hp → VK → Prop} {f : List Va → Sto → Rs Va} (hc : CallR X (.builtin id) r) (hs : CallS C r f) (hg : Gl X x) (hm : X.mg x = none) (hv : bootBuiltins x = some (.builtin id)) (ha : PA X (e :: es) (tA C W cs)) (hn : x ≠ "__name__" := by decide) (hdb : (x == ("__debug__" : Str)) = false := by decide)
    (he : starEach (e :: es) X.env = (false, eval e X.env) :: starEach es X.env := by rfl) (hpl : (backTo pos (starEach es X.env)).any (·.1) = false := by rfl) : PE X (.Call (.Name x p) (e :: es) [] pos) (tE C W (dCallB f cs)) :=
  PE.imp (pe_callB hc hg hm hv ha hn hdb he hpl) (tCB_of hs)
theorem fe_callTy {x : Str} {p : Pos} {T : String} {r : List V → Hp → VK → Prop} {f : List Va → Sto → Rs Va} (hc : CallR X (.type T) r) (hs : CallS C r f) (hg : Gl X x) (hm : X.mg x = none) (hv : bootBuiltins x = some (.type T)) (ha : PA X (e :: es) (tA C W cs)) (hn : x ≠ "__name__" := by decide) (hdb : (x == ("__debug__" : Str)) = false := by decide)
    (he : starEach (e :: es) X.env = (false, eval e X.env) :: starEach es X.env := by rfl) (hpl : (backTo pos (starEach es X.env)).any (·.1) = false := by rfl) : PE X (.Call (.Name x p) (e :: es) [] pos) (tE C W (dCallB f cs)) :=
  PE.imp (pe_callTy hc hg hm hv ha hn hdb he hpl) (tCB_of hs)
end
end Sk

/-! Sk, part 4: operators and built-ins by values. -/
namespace Sk
open PySem PySem.Spec PyProof.Rows L2

/-! ### deep reading -/
def mapO {a b : Type} (f : a → Option b) : List a → Option (List b)
  | [] => some []
  | x :: r => (f x).bind fun y => (mapO f r).map (y :: ·)
theorem mapO_dat {f : Va → Option PyData} (h : ∀ d, f (.dat d) = some d) : ∀ ds : List PyData, mapO f (ds.map .dat) = some ds
  | [] => rfl
  | d :: r => by
    show ((f (.dat d)).bind fun y => (mapO f (r.map .dat)).map (y :: ·)) = _
    rw [h, mapO_dat h r]
    rfl
def rdD : Nat → Sto → Va → Option PyData
  | _, _, .dat d => some d
  | k + 1, st, .ref n => match st[n]? with
    | some (some (.lst xs)) => (mapO (rdD k st) xs).map .list
    | _ => none
  | k + 1, st, .seq false xs => (mapO (rdD k st) xs).map .list
  | k + 1, st, .seq true xs => (mapO (rdD k st) xs).map .tuple
  | _, _, _ => none
@[simp] theorem rdD_dat (k : Nat) (st : Sto) (d : PyData) : rdD k st (.dat d) = some d := by cases k <;> rfl
section
variable {K : PySem.W.Frag} {H : Hp} {M : Addr → Prop}
mutual
theorem RD.dp : ∀ {v : V} {d : PyData}, RD K H M v d → Dp K H v d
  | _, _, .non => .non
  | _, _, .bl b => .bl b
  | _, _, .int i => .int i
  | _, _, .str x => .str x
  | _, _, .lst h n r => .lst (.inl (.inl h)) (RDs.dp r)
  | _, _, .tup h r => .tup (.inl (.inl h)) (RDs.dp r)
theorem RDs.dp : ∀ {vs : List V} {ds : List PyData}, RDs K H M vs ds → DpAll K H vs ds
  | _, _, .nil => .nil
  | _, _, .cons a b => .cons (RD.dp a) (RDs.dp b)
end
end
section
variable {C : Cfg} {M0 : Addr → Prop} {m : List Addr} {H : Hp} {st : Sto}
theorem dpAll_of {f : Va → Option PyData} (ih : ∀ v x d, RV C H (Mx M0 m) m v x → f x = some d → Dp C.K H v d) : ∀ {vs : List V} {xs : List Va} {ds : List PyData}, RVs C H (Mx M0 m) m vs xs → mapO f xs = some ds → DpAll C.K H vs ds
  | _, _, _, .nil, e => by cases e; exact .nil
  | _, _, _, .cons (x := x) (xs := xs) a b, e => by
    have e' : ((f x).bind fun y => (mapO f xs).map (y :: ·)) = some _ := e
    cases h : f x with
    | none => rw [h] at e'; cases e'
    | some y =>
      rw [h] at e'
      obtain ⟨ds', e1, e2⟩ := Option.map_eq_some_iff.mp (show (mapO f xs).map (y :: ·) = some _ from e')
      subst e2
      exact .cons (ih _ _ _ a h) (dpAll_of ih b e1)
theorem rdD_dp (rh : RH C M0 m H st) : ∀ (k : Nat) (v : V) (x : Va) (d : PyData), RV C H (Mx M0 m) m v x → rdD k st x = some d → Dp C.K H v d
  | k, _, _, _, .dat h, e => by
    rw [rdD_dat] at e
    cases e
    exact h.dp
  | 0, _, _, _, .ref _, e => nomatch e
  | 0, _, _, _, .lst _ _ _, e => nomatch e
  | 0, _, _, _, .frz _ _, e => nomatch e
  | 0, _, _, _, .tup _ _, e => nomatch e
  | 0, _, _, _, .fn _, e => nomatch e
  | k + 1, _, _, _, .fn _, e => nomatch e
  | k + 1, _, _, d, .lst h n r, e => by
    obtain ⟨ds, e1, e2⟩ := Option.map_eq_some_iff.mp (show (mapO (rdD k st) _).map PyData.list = some d from e)
    subst e2
    exact .lst (.inl (.inl h)) (dpAll_of (fun v x d => rdD_dp rh k v x d) r e1)
  | k + 1, _, _, d, .frz h r, e => by
    obtain ⟨ds, e1, e2⟩ := Option.map_eq_some_iff.mp (show (mapO (rdD k st) _).map PyData.list = some d from e)
    subst e2
    exact .lst h.sql (dpAll_of (fun v x d => rdD_dp rh k v x d) r e1)
  | k + 1, _, _, d, .tup h r, e => by
    obtain ⟨ds, e1, e2⟩ := Option.map_eq_some_iff.mp (show (mapO (rdD k st) _).map PyData.tuple = some d from e)
    subst e2
    exact .tup h (dpAll_of (fun v x d => rdD_dp rh k v x d) r e1)
  | k + 1, _, _, d, .ref (n := n) (a := a) h, e => by
    have e' : (match st[n]? with | some (some (.lst xs)) => (mapO (rdD k st) xs).map PyData.list | _ => none) = some d := e
    split at e'
    · rename_i xs hx
      obtain ⟨ds, e1, e2⟩ := Option.map_eq_some_iff.mp e'
      subst e2
      obtain ⟨b, hb, vs, hv, r⟩ := rh.ob n _ hx
      rw [h] at hb
      cases hb
      exact .lst (.inl (.inl hv)) (dpAll_of (fun v x d => rdD_dp rh k v x d) r e1)
    · cases e'
end

/-! ### numbers -/
def oI (i : Int) (st : Sto) : Rs Va := .ok (.dat (.int i)) st
def oB (b : Bool) (st : Sto) : Rs Va := .ok (.dat (.bool b)) st
def addV (x y : Va) (st : Sto) : Rs Va := match x, y with
  | .dat (.int i), .dat (.int j) => oI (i + j) st
  | .dat (.str i), .dat (.str j) => if few (i.length + j.length) = true then .ok (.dat (.str (i ++ j))) st else .bad
  | .dat (.tuple i), .dat (.tuple j) => if few (i.length + j.length) = true then .ok (.dat (.tuple (i ++ j))) st else .bad
  | .dat (.list i), .dat (.list j) => if few (i.length + j.length) = true then .ok (.dat (.list (i ++ j))) st else .bad
  | _, _ => .bad
def subV (x y : Va) (st : Sto) : Rs Va := match x, y with
  | .dat (.int i), .dat (.int j) => oI (i - j) st
  | _, _ => .bad
def near64 (i : Int) : Bool := decide (-(2 ^ 64) < i) && decide (i < 2 ^ 64)
def mulI (x y : Va) (st : Sto) : Rs Va := match x, y with
  | .dat (.int i), .dat (.int j) => if (near64 i || near64 j) = true then oI (i * j) st else .bad
  | _, _ => .bad
def divV (x y : Va) (st : Sto) : Rs Va := match x, y with
  | .dat (.int i), .dat (.int j) => if (decide (0 < j) && decide (j < 1073741824)) = true then oI (i / j) st else .bad
  | _, _ => .bad
def modV (x y : Va) (st : Sto) : Rs Va := match x, y with
  | .dat (.int i), .dat (.int j) => if decide (0 < j) = true then oI (i % j) st else .bad
  | _, _ => .bad
def powV (x y : Va) (st : Sto) : Rs Va := match x, y with
  | .dat (.int i), .dat (.int j) => if (decide (0 ≤ j) && decide (j ≤ 1000) && near64 i) = true then oI (i ^ j.toNat) st else .bad
  | _, _ => .bad
def negV (x : Va) (st : Sto) : Rs Va := match x with
  | .dat (.int i) => oI (-i) st
  | _ => .bad
def ltV (x y : Va) (st : Sto) : Rs Va := match x, y with
  | .dat (.int i), .dat (.int j) => oB (decide (i < j)) st
  | _, _ => .bad
def leV (x y : Va) (st : Sto) : Rs Va := match x, y with
  | .dat (.int i), .dat (.int j) => oB (decide (i ≤ j)) st
  | _, _ => .bad
def gtV (x y : Va) (st : Sto) : Rs Va := match x, y with
  | .dat (.int i), .dat (.int j) => oB (decide (j < i)) st
  | _, _ => .bad
def geV (x y : Va) (st : Sto) : Rs Va := match x, y with
  | .dat (.int i), .dat (.int j) => oB (decide (j ≤ i)) st
  | _, _ => .bad
def eqV (x y : Va) (st : Sto) : Rs Va := match rdD 8 st x, rdD 8 st y with
  | some d, some e => if (SeqAt.shaped d && SeqAt.shaped e) = true then oB (PyData.eqv d e) st else .bad
  | _, _ => .bad
def neV (x y : Va) (st : Sto) : Rs Va := match rdD 8 st x, rdD 8 st y with
  | some d, some e => if (SeqAt.shaped d && SeqAt.shaped e) = true then oB (!PyData.eqv d e) st else .bad
  | _, _ => .bad
def isNV (x y : Va) (st : Sto) : Rs Va := match x, y with
  | .dat d, .dat .none => oB (decide (d = .none)) st
  | .ref _, .dat .none => oB false st
  | .seq _ _, .dat .none => oB false st
  | _, _ => .bad
def notNV (x y : Va) (st : Sto) : Rs Va := match x, y with
  | .dat d, .dat .none => oB (!decide (d = .none)) st
  | .ref _, .dat .none => oB true st
  | .seq _ _, .dat .none => oB true st
  | _, _ => .bad
section
variable {C : Cfg} {X : Cx}
theorem near_of {i : Int} (h : near64 i = true) : -(2 ^ 64) < i ∧ i < 2 ^ 64 := by
  obtain ⟨a, b⟩ := Bool.and_eq_true_iff.mp h
  exact ⟨of_decide_eq_true a, of_decide_eq_true b⟩
theorem RV.int_inv {H : Hp} {M : Addr → Prop} {m : List Addr} {v : V} {i : Int} (h : RV C H M m v (.dat (.int i))) : v = .int i := by
  cases h with
  | dat h => cases h; rfl
theorem RV.str_inv {H : Hp} {M : Addr → Prop} {m : List Addr} {v : V} {i : Str} (h : RV C H M m v (.dat (.str i))) : v = .str i := by
  cases h with
  | dat h => cases h; rfl
theorem RV.tup_inv {H : Hp} {M : Addr → Prop} {m : List Addr} {v : V} {i : List PyData} (h : RV C H M m v (.dat (.tuple i))) : ∃ a vs, v = .ref a ∧ H a = some (.tup vs) ∧ RDs C.K H M vs i := by
  cases h with
  | dat h => cases h with
    | tup h r => exact ⟨_, _, rfl, h, r⟩
theorem RV.lst_inv {H : Hp} {M : Addr → Prop} {m : List Addr} {v : V} {i : List PyData} (h : RV C H M m v (.dat (.list i))) : ∃ a vs, v = .ref a ∧ H a = some (.lst vs) ∧ ¬ M a ∧ RDs C.K H M vs i := by
  cases h with
  | dat h => cases h with
    | lst h n r => exact ⟨_, _, rfl, h, n, r⟩
theorem RDs.append {K : PySem.W.Frag} {H : Hp} {M : Addr → Prop} : ∀ {vs us : List V} {ds es : List PyData}, RDs K H M vs ds → RDs K H M us es → RDs K H M (vs ++ us) (ds ++ es)
  | _, _, _, _, .nil, h => h
  | _, _, _, _, .cons a b, h => .cons a (RDs.append b h)
theorem RVs.append {H : Hp} {M : Addr → Prop} {m : List Addr} : ∀ {vs us : List V} {ds es : List Va}, RVs C H M m vs ds → RVs C H M m us es → RVs C H M m (vs ++ us) (ds ++ es)
  | _, _, _, _, .nil, h => h
  | _, _, _, _, .cons a b, h => .cons a (RVs.append b h)
def rAddX (K : PySem.W.Frag) : R2 := fun x y H Q => rI0 (fun i j => .int (i + j)) x y H Q ∨ (∃ i j, x = .str i ∧ y = .str j ∧ i.length + j.length ≤ sizeLine ∧ Q (.str (i ++ j)) H) ∨ rCatA K x y H Q ∨ rCat x y H Q
theorem op_addX (hK : X.K = C.K := by rfl) : OpR X (binaryOp .Add) (rAddX C.K) := hK ▸ op_add.or (op_add_str.or (op_catA.or op_cat))
theorem RDs.nil_of {K : PySem.W.Frag} {H : Hp} {M : Addr → Prop} {ds : List PyData} (h : RDs K H M [] ds) : ds = [] := by cases h; rfl
theorem os_add : OpS C (rAddX C.K) addV := by
  intro M0 m H st v u x y E Q rh rx ry fin
  unfold addV at fin
  split at fin
  · exact .inl ⟨_, _, rx.int_inv, ry.int_inv, FinG.out (R := relV C M0) fin rh (.dat (.int _))⟩
  · obtain ⟨hk, fin⟩ := Fin.ifGo fin
    exact .inr (.inl ⟨_, _, rx.str_inv, ry.str_inv, few_le hk, FinG.out (R := relV C M0) fin rh (.dat (.str _))⟩)
  · obtain ⟨hk, fin⟩ := Fin.ifGo fin
    obtain ⟨a, vs, rfl, h1, r1⟩ := rx.tup_inv
    obtain ⟨b, us, rfl, h2, r2⟩ := ry.tup_inv
    refine .inr (.inr (.inl ⟨a, b, vs, us, rfl, rfl, .inl (.inl h1), .inl (.inl h2), by rw [r1.len, r2.len]; exact few_le hk, fun e => ?_, fun _ e => ?_, fun _ _ p hp => ?_⟩))
    · subst e
      cases r1.nil_of
      exact FinG.out (R := relV C M0) fin rh ry
    · subst e
      cases r2.nil_of
      rw [List.append_nil] at fin
      exact FinG.out (R := relV C M0) fin rh rx
    · have g : Go m H m (upd H p (.tup (vs ++ us))) := Go.same (same_new hp)
      exact FinG.same (R := relV C M0) fin rh (same_new hp) (.dat (.tup upd_same ((r1.append r2).go g rh.mu)))
  · obtain ⟨hk, fin⟩ := Fin.ifGo fin
    obtain ⟨a, vs, rfl, h1, n1, r1⟩ := rx.lst_inv
    obtain ⟨b, us, rfl, h2, n2, r2⟩ := ry.lst_inv
    refine .inr (.inr (.inr ⟨a, b, vs, us, rfl, rfl, h1, h2, by rw [r1.len, r2.len]; exact few_le hk, fun p hp => ?_⟩))
    have g : Go m H m (upd H p (.lst (vs ++ us))) := Go.same (same_new hp)
    exact FinG.same (R := relV C M0) fin rh (same_new hp) (.dat (.lst upd_same (notMx rh hp) ((r1.append r2).go g rh.mu)))
  · exact fin.elim
theorem os_sub : OpS C (rI0 fun i j => .int (i - j)) subV := by
  intro M0 m H st v u x y E Q rh rx ry fin
  unfold subV at fin
  split at fin
  · exact ⟨_, _, rx.int_inv, ry.int_inv, FinG.out (R := relV C M0) fin rh (.dat (.int _))⟩
  · exact fin.elim
theorem os_mulI : OpS C (rI CMul fun i j => .int (i * j)) mulI := by
  intro M0 m H st v u x y E Q rh rx ry fin
  unfold mulI at fin
  split at fin
  · obtain ⟨hk, fin⟩ := Fin.ifGo fin
    refine ⟨_, _, rx.int_inv, ry.int_inv, ?_, FinG.out (R := relV C M0) fin rh (.dat (.int _))⟩
    rcases Bool.or_eq_true_iff.mp hk with h | h
    · exact .inl (near_of h)
    · exact .inr (near_of h)
  · exact fin.elim
theorem os_div : OpS C (rI CDiv fun i j => .int (i / j)) divV := by
  intro M0 m H st v u x y E Q rh rx ry fin
  unfold divV at fin
  split at fin
  · obtain ⟨hk, fin⟩ := Fin.ifGo fin
    obtain ⟨h1, h2⟩ := Bool.and_eq_true_iff.mp hk
    exact ⟨_, _, rx.int_inv, ry.int_inv, ⟨of_decide_eq_true h1, of_decide_eq_true h2⟩, FinG.out (R := relV C M0) fin rh (.dat (.int _))⟩
  · exact fin.elim
theorem os_mod : OpS C (rI (fun _ j => 0 < j) fun i j => .int (i % j)) modV := by
  intro M0 m H st v u x y E Q rh rx ry fin
  unfold modV at fin
  split at fin
  · obtain ⟨hk, fin⟩ := Fin.ifGo fin
    exact ⟨_, _, rx.int_inv, ry.int_inv, of_decide_eq_true hk, FinG.out (R := relV C M0) fin rh (.dat (.int _))⟩
  · exact fin.elim
theorem os_pow : OpS C (rI CPow fun i j => .int (i ^ j.toNat)) powV := by
  intro M0 m H st v u x y E Q rh rx ry fin
  unfold powV at fin
  split at fin
  · obtain ⟨hk, fin⟩ := Fin.ifGo fin
    obtain ⟨h12, h3⟩ := Bool.and_eq_true_iff.mp hk
    obtain ⟨h1, h2⟩ := Bool.and_eq_true_iff.mp h12
    have a := of_decide_eq_true h1
    have b := of_decide_eq_true h2
    obtain ⟨c, d⟩ := near_of h3
    exact ⟨_, _, rx.int_inv, ry.int_inv, ⟨a, by omega, by omega⟩, FinG.out (R := relV C M0) fin rh (.dat (.int _))⟩
  · exact fin.elim
theorem us_neg : UnS C (rU fun i => .int (-i)) negV := by
  intro M0 m H st v x E Q rh rx fin
  unfold negV at fin
  split at fin
  · exact ⟨_, rx.int_inv, FinG.out (R := relV C M0) fin rh (.dat (.int _))⟩
  · exact fin.elim
theorem os_lt : OpS C (rI0 fun i j => .bl (decide (i < j))) ltV := by
  intro M0 m H st v u x y E Q rh rx ry fin
  unfold ltV at fin
  split at fin
  · exact ⟨_, _, rx.int_inv, ry.int_inv, FinG.out (R := relV C M0) fin rh (.dat (.bl _))⟩
  · exact fin.elim
theorem os_le : OpS C (rI0 fun i j => .bl (decide (i ≤ j))) leV := by
  intro M0 m H st v u x y E Q rh rx ry fin
  unfold leV at fin
  split at fin
  · exact ⟨_, _, rx.int_inv, ry.int_inv, FinG.out (R := relV C M0) fin rh (.dat (.bl _))⟩
  · exact fin.elim
theorem os_gt : OpS C (rI0 fun i j => .bl (decide (j < i))) gtV := by
  intro M0 m H st v u x y E Q rh rx ry fin
  unfold gtV at fin
  split at fin
  · exact ⟨_, _, rx.int_inv, ry.int_inv, FinG.out (R := relV C M0) fin rh (.dat (.bl _))⟩
  · exact fin.elim
theorem os_ge : OpS C (rI0 fun i j => .bl (decide (j ≤ i))) geV := by
  intro M0 m H st v u x y E Q rh rx ry fin
  unfold geV at fin
  split at fin
  · exact ⟨_, _, rx.int_inv, ry.int_inv, FinG.out (R := relV C M0) fin rh (.dat (.bl _))⟩
  · exact fin.elim
theorem op_eqX (hu : X.A.units + 64 < cLine) (hK : X.K = C.K := by rfl) : OpR X (compareOp .Eq) (rEqD C.K) := hK ▸ op_eqD hu
theorem op_neX (hu : X.A.units + 64 < cLine) (hK : X.K = C.K := by rfl) : OpR X (compareOp .NotEq) (rNeD C.K) := hK ▸ op_neD hu
theorem os_eq : OpS C (rEqD C.K) eqV := by
  intro M0 m H st v u x y E Q rh rx ry fin
  unfold eqV at fin
  split at fin
  · rename_i d e h1 h2
    obtain ⟨hk, fin⟩ := Fin.ifGo fin
    obtain ⟨a, b⟩ := Bool.and_eq_true_iff.mp hk
    exact ⟨d, e, rdD_dp rh 8 v x d rx h1, rdD_dp rh 8 u y e ry h2, a, b, FinG.out (R := relV C M0) fin rh (.dat (.bl _))⟩
  · exact fin.elim
theorem os_ne : OpS C (rNeD C.K) neV := by
  intro M0 m H st v u x y E Q rh rx ry fin
  unfold neV at fin
  split at fin
  · rename_i d e h1 h2
    obtain ⟨hk, fin⟩ := Fin.ifGo fin
    obtain ⟨a, b⟩ := Bool.and_eq_true_iff.mp hk
    exact ⟨d, e, rdD_dp rh 8 v x d rx h1, rdD_dp rh 8 u y e ry h2, a, b, FinG.out (R := relV C M0) fin rh (.dat (.bl _))⟩
  · exact fin.elim
theorem RD.non_iff {K : PySem.W.Frag} {H : Hp} {M : Addr → Prop} {v : V} {d : PyData} (h : RD K H M v d) : decide (v = .non) = decide (d = .none) := by
  cases h <;> rfl
theorem RV.none_inv {H : Hp} {M : Addr → Prop} {m : List Addr} {v : V} (h : RV C H M m v (.dat .none)) : v = .non := by
  cases h with
  | dat h => cases h; rfl
theorem os_isN : OpS C (fun x y H Q => y = .non ∧ Q (.bl (decide (x = .non))) H) isNV := by
  intro M0 m H st v u x y E Q rh rx ry fin
  unfold isNV at fin
  split at fin
  · refine ⟨ry.none_inv, ?_⟩
    cases rx with
    | dat rd => rw [rd.non_iff]; exact FinG.out (R := relV C M0) fin rh (.dat (.bl _))
  · refine ⟨ry.none_inv, ?_⟩
    cases rx
    exact FinG.out (R := relV C M0) fin rh (.dat (.bl _))
  · refine ⟨ry.none_inv, ?_⟩
    cases rx <;> exact FinG.out (R := relV C M0) fin rh (.dat (.bl _))
  · exact fin.elim
theorem os_notN : OpS C (fun x y H Q => y = .non ∧ Q (.bl (!decide (x = .non))) H) notNV := by
  intro M0 m H st v u x y E Q rh rx ry fin
  unfold notNV at fin
  split at fin
  · refine ⟨ry.none_inv, ?_⟩
    cases rx with
    | dat rd => rw [rd.non_iff]; exact FinG.out (R := relV C M0) fin rh (.dat (.bl _))
  · refine ⟨ry.none_inv, ?_⟩
    cases rx
    exact FinG.out (R := relV C M0) fin rh (.dat (.bl _))
  · refine ⟨ry.none_inv, ?_⟩
    cases rx <;> exact FinG.out (R := relV C M0) fin rh (.dat (.bl _))
  · exact fin.elim
end
end Sk

/-! Sk, part 5: sequences and dicts by values. -/
namespace Sk
open PySem PySem.Spec PyProof.Rows L2

/-! ### sequences -/
def seqOf (st : Sto) : Va → Option (Bool × List Va)
  | .dat (.list ds) => some (false, ds.map .dat)
  | .dat (.tuple ds) => some (true, ds.map .dat)
  | .seq t xs => some (t, xs)
  | .ref n => match st[n]? with
    | some (some (.lst xs)) => some (false, xs)
    | _ => none
  | _ => none
@[simp] theorem seqOf_list (st : Sto) (ds : List PyData) : seqOf st (.dat (.list ds)) = some (false, ds.map .dat) := rfl
@[simp] theorem seqOf_tuple (st : Sto) (ds : List PyData) : seqOf st (.dat (.tuple ds)) = some (true, ds.map .dat) := rfl
@[simp] theorem seqOf_seq (st : Sto) (t : Bool) (xs : List Va) : seqOf st (.seq t xs) = some (t, xs) := rfl
theorem seqOf_ref {st : Sto} {n : Nat} {xs : List Va} (h : st[n]? = some (some (.lst xs))) : seqOf st (.ref n) = some (false, xs) := by
  show (match st[n]? with | some (some (.lst xs)) => some (false, xs) | _ => none) = _
  rw [h]
section
variable {C : Cfg} {M0 : Addr → Prop} {m : List Addr} {H : Hp} {st : Sto}
theorem seqOf_rel (rh : RH C M0 m H st) {v : V} {x : Va} {t : Bool} {xs : List Va} (r : RV C H (Mx M0 m) m v x) (e : seqOf st x = some (t, xs)) :
    ∃ a vs, v = .ref a ∧ RVs C H (Mx M0 m) m vs xs ∧ (if t = true then SqT C.K H a vs else SqL C.K H a vs) := by
  cases r with
  | dat rd =>
    cases rd with
    | lst h n r => cases e; exact ⟨_, _, rfl, r.rvs, .inl (.inl h)⟩
    | tup h r => cases e; exact ⟨_, _, rfl, r.rvs, .inl (.inl h)⟩
    | _ => cases e
  | @ref n a h =>
    have e' : (match st[n]? with | some (some (.lst xs)) => some (false, xs) | _ => none) = some (t, xs) := e
    split at e'
    · rename_i ys hy
      cases e'
      obtain ⟨b, hb, vs, hv, r⟩ := rh.ob n _ hy
      rw [h] at hb
      cases hb
      exact ⟨_, vs, rfl, r, .inl (.inl hv)⟩
    · cases e'
  | lst h n r => cases e; exact ⟨_, _, rfl, r, .inl (.inl h)⟩
  | frz h r => cases e; exact ⟨_, _, rfl, r, h.sql⟩
  | tup h r => cases e; exact ⟨_, _, rfl, r, h⟩
  | fn h => cases e
theorem RVs.get {M : Addr → Prop} : ∀ {vs : List V} {xs : List Va} {i : Nat} {x : Va}, RVs C H M m vs xs → xs[i]? = some x → ∃ v, vs[i]? = some v ∧ RV C H M m v x
  | _, _, _, _, .nil, e => by simp at e
  | _, _, 0, _, .cons a r, e => by simp at e; subst e; exact ⟨_, rfl, a⟩
  | _, _, i + 1, x, .cons _ r, e => by
    obtain ⟨v, h1, h2⟩ := RVs.get (i := i) (x := x) r (by simpa using e)
    exact ⟨v, by simpa using h1, h2⟩
theorem RVs.set {M : Addr → Prop} {v : V} {x : Va} (h : RV C H M m v x) : ∀ {vs : List V} {xs : List Va} (i : Nat), RVs C H M m vs xs → RVs C H M m (vs.set i v) (xs.set i x)
  | _, _, _, .nil => .nil
  | _, _, 0, .cons _ r => .cons h r
  | _, _, i + 1, .cons a r => .cons a (RVs.set h i r)
theorem RVs.take {M : Addr → Prop} : ∀ {vs : List V} {xs : List Va} (i : Nat), RVs C H M m vs xs → RVs C H M m (vs.take i) (xs.take i)
  | _, _, 0, _ => .nil
  | _, _, _ + 1, .nil => .nil
  | _, _, i + 1, .cons a r => .cons a (RVs.take i r)
theorem RVs.drop {M : Addr → Prop} : ∀ {vs : List V} {xs : List Va} (i : Nat), RVs C H M m vs xs → RVs C H M m (vs.drop i) (xs.drop i)
  | _, _, 0, r => r
  | _, _, _ + 1, .nil => .nil
  | _, _, i + 1, .cons a r => RVs.drop i r
theorem RVs.eraseIdx {M : Addr → Prop} : ∀ {vs : List V} {xs : List Va} (i : Nat), RVs C H M m vs xs → RVs C H M m (vs.eraseIdx i) (xs.eraseIdx i)
  | _, _, _, .nil => .nil
  | _, _, 0, .cons a r => r
  | _, _, i + 1, .cons a r => .cons a (RVs.eraseIdx i r)
theorem RVs.reverse {M : Addr → Prop} : ∀ {vs : List V} {xs : List Va}, RVs C H M m vs xs → RVs C H M m vs.reverse xs.reverse
  | _, _, .nil => .nil
  | _, _, .cons a r => by
    rw [List.reverse_cons, List.reverse_cons]
    exact (RVs.reverse r).append (.cons a .nil)
theorem RVs.atI {M : Addr → Prop} {vs : List V} {xs : List Va} {i : Int} {x : Va} (r : RVs C H M m vs xs) (e : L2.atI xs i = some x) : ∃ v, L2.atI vs i = some v ∧ RV C H M m v x := by
  unfold L2.atI at e ⊢
  rw [r.len]
  cases h : ixN xs.length i with
  | none => rw [h] at e; cases e
  | some j =>
    rw [h] at e
    exact r.get e
def cut {a : Type} (xs : List a) (lo hi : Option Int) : List a := (xs.drop (HT.sIx xs.length 0 lo)).take (HT.sIx xs.length xs.length hi - HT.sIx xs.length 0 lo)
theorem cut_map {a b : Type} (f : a → b) (xs : List a) (lo hi : Option Int) : cut (xs.map f) lo hi = (cut xs lo hi).map f := by
  unfold cut
  rw [List.length_map, List.map_take, List.map_drop]
theorem RVs.cut {M : Addr → Prop} {vs : List V} {xs : List Va} (r : RVs C H M m vs xs) (lo hi : Option Int) : RVs C H M m (cutV vs lo hi) (cut xs lo hi) := by
  unfold cutV Sk.cut
  rw [r.len]
  exact (r.drop _).take _
end
theorem atI_map {a b : Type} (f : a → b) (xs : List a) (i : Int) : L2.atI (xs.map f) i = (L2.atI xs i).map f := by
  unfold L2.atI
  rw [List.length_map]
  cases ixN xs.length i with
  | none => rfl
  | some j => simp

/-! ### dicts -/
def dget (kvs : List (PyData × Va)) (k : PyData) : Option Va := (kvs.find? fun kv => decide (kv.1 = k)).map (·.2)
def dput (kvs : List (PyData × Va)) (k : PyData) (x : Va) : List (PyData × Va) :=
  if (kvs.any fun kv => decide (kv.1 = k)) = true then kvs.map (fun kv => if kv.1 = k then (kv.1, x) else kv) else kvs ++ [(k, x)]
def ddrop (kvs : List (PyData × Va)) (k : PyData) : List (PyData × Va) := kvs.filter fun kv => decide (kv.1 ≠ k)
theorem keyD_inj {a b : Key} (e : keyD a = keyD b) : a = b := by
  cases a <;> cases b <;> simp [keyD] at e
  · rw [e]
  · rw [e]
theorem keyDs_inj : ∀ {a b : List Key}, a.map keyD = b.map keyD → a = b
  | [], [], _ => rfl
  | [], _ :: _, e => by simp at e
  | _ :: _, [], e => by simp at e
  | x :: xs, y :: ys, e => by
    simp only [List.map_cons, List.cons.injEq] at e
    rw [keyD_inj e.1, keyDs_inj e.2]
section
variable {C : Cfg} {H : Hp} {M : Addr → Prop} {m : List Addr} {κ : Type} [DecidableEq κ] {f : κ → PyData}
abbrev RK (C : Cfg) (H : Hp) (M : Addr → Prop) (m : List Addr) (f : κ → PyData) : List (κ × V) → List (PyData × Va) → Prop := Paired fun (p : κ × V) (q : PyData × Va) => f p.1 = q.1 ∧ RV C H M m p.2 q.2
theorem RK.val (inj : ∀ a b, f a = f b → a = b) : ∀ {ks : List (κ × V)} {kvs : List (PyData × Va)} (k : κ), RK C H M m f ks kvs →
    (valV ks k = none ∧ dget kvs (f k) = none) ∨ ∃ v x, valV ks k = some v ∧ dget kvs (f k) = some x ∧ RV C H M m v x
  | _, _, k, .nil => .inl ⟨rfl, rfl⟩
  | p :: ks, q :: kvs, k, .cons h r => by
    by_cases e : p.1 = k
    · refine .inr ⟨p.2, q.2, valV_pos e, ?_, h.2⟩
      have e2 : q.1 = f k := by rw [← h.1, e]
      simp [dget, List.find?_cons, e2]
    · have e2 : ¬ q.1 = f k := fun z => e (inj _ _ (h.1.trans z))
      have e3 : dget (q :: kvs) (f k) = dget kvs (f k) := by simp [dget, List.find?_cons, e2]
      rw [valV_neg e, e3]
      exact RK.val inj k r
theorem RK.len : ∀ {ks : List (κ × V)} {kvs : List (PyData × Va)}, RK C H M m f ks kvs → ks.length = kvs.length
  | _, _, .nil => rfl
  | _, _, .cons _ r => by rw [List.length_cons, List.length_cons, RK.len r]
theorem RK.any (inj : ∀ a b, f a = f b → a = b) (k : κ) : ∀ {ks : List (κ × V)} {kvs : List (PyData × Va)}, RK C H M m f ks kvs → (ks.any fun kv => decide (kv.1 = k)) = kvs.any fun kv => decide (kv.1 = f k)
  | _, _, .nil => rfl
  | p :: ks, q :: kvs, .cons h r => by
    rw [List.any_cons, List.any_cons, RK.any inj k r]
    congr 1
    by_cases e : p.1 = k
    · have e2 : q.1 = f k := by rw [← h.1, e]
      simp [e, e2]
    · have e2 : ¬ q.1 = f k := fun z => e (inj _ _ (h.1.trans z))
      simp [e, e2]
theorem RK.repl (inj : ∀ a b, f a = f b → a = b) (k : κ) {v : V} {x : Va} (hv : RV C H M m v x) : ∀ {ks : List (κ × V)} {kvs : List (PyData × Va)}, RK C H M m f ks kvs →
    RK C H M m f (ks.map fun kv => if kv.1 = k then (kv.1, v) else kv) (kvs.map fun kv => if kv.1 = f k then (kv.1, x) else kv)
  | _, _, .nil => .nil
  | p :: ks, q :: kvs, .cons h r => by
    rw [List.map_cons, List.map_cons]
    refine .cons ?_ (RK.repl inj k hv r)
    by_cases e : p.1 = k
    · have e2 : q.1 = f k := by rw [← h.1, e]
      rw [if_pos e, if_pos e2]
      exact ⟨h.1, hv⟩
    · have e2 : ¬ q.1 = f k := fun z => e (inj _ _ (h.1.trans z))
      rw [if_neg e, if_neg e2]
      exact h
theorem RK.snoc {k : κ} {v : V} {x : Va} (hv : RV C H M m v x) : ∀ {ks : List (κ × V)} {kvs : List (PyData × Va)}, RK C H M m f ks kvs → RK C H M m f (ks ++ [(k, v)]) (kvs ++ [(f k, x)])
  | _, _, .nil => .cons ⟨rfl, hv⟩ .nil
  | _, _, .cons h r => .cons h (RK.snoc hv r)
theorem RK.put (inj : ∀ a b, f a = f b → a = b) (k : κ) {v : V} {x : Va} (hv : RV C H M m v x) {ks : List (κ × V)} {kvs : List (PyData × Va)} (r : RK C H M m f ks kvs) : RK C H M m f (putK ks k v) (dput kvs (f k) x) := by
  unfold putK dput
  rw [← r.any inj k]
  by_cases e : (ks.any fun kv => decide (kv.1 = k)) = true
  · rw [if_pos e, if_pos e]
    exact r.repl inj k hv
  · rw [if_neg e, if_neg e]
    exact r.snoc hv
end
end Sk

/-! Sk, part 6: rules for sequences and dicts. -/
namespace Sk
open PySem PySem.Spec PyProof.Rows L2

/-! ### keys -/
def dicOf (st : Sto) : Va → Option (Bool × List (PyData × Va))
  | .ref n => match st[n]? with
    | some (some (.dic t kvs)) => some (t, kvs)
    | _ => none
  | _ => none
theorem dicOf_ref {st : Sto} {n : Nat} {t : Bool} {kvs : List (PyData × Va)} (h : st[n]? = some (some (.dic t kvs))) : dicOf st (.ref n) = some (t, kvs) := by
  show (match st[n]? with | some (some (.dic t kvs)) => some (t, kvs) | _ => none) = _
  rw [h]
def flatKey : PyData → Option Key
  | .int i => some (.inl i)
  | .str x => some (.inr x)
  | _ => none
def flatKeys : List PyData → Option (List Key)
  | [] => some []
  | d :: r => (flatKey d).bind fun k => (flatKeys r).map (k :: ·)
theorem flatKey_eq {d : PyData} {k : Key} (h : flatKey d = some k) : keyD k = d := by
  cases d <;> simp [flatKey] at h <;> subst h <;> rfl
theorem flatKeys_eq : ∀ {ds : List PyData} {ks : List Key}, flatKeys ds = some ks → ks.map keyD = ds
  | [], _, h => by cases h; rfl
  | d :: r, ks, h => by
    have h' : ((flatKey d).bind fun k => (flatKeys r).map (k :: ·)) = some ks := h
    cases e : flatKey d with
    | none => rw [e] at h'; cases h'
    | some k =>
      rw [e] at h'
      obtain ⟨l, e1, e2⟩ := Option.map_eq_some_iff.mp (show (flatKeys r).map (k :: ·) = some ks from h')
      subst e2
      rw [List.map_cons, flatKey_eq e, flatKeys_eq e1]
/-- may the thing be a key of such a dict? -/
def isKey (t : Bool) (x : Va) : Option PyData := match t, x with
  | false, .dat d => (flatKey d).map fun _ => d
  | true, .dat (.tuple ds) => (flatKeys ds).map fun _ => .tuple ds
  | _, _ => none
section
variable {C : Cfg} {M0 : Addr → Prop} {m : List Addr} {H : Hp} {st : Sto}
theorem RD.keyV {K : PySem.W.Frag} {M : Addr → Prop} {v : V} {k : Key} (h : RD K H M v (keyD k)) : v = kV k := by
  cases k with
  | inl i => cases h; rfl
  | inr x => cases h; rfl
theorem RDs.keyVs {K : PySem.W.Frag} {M : Addr → Prop} : ∀ {ks : List Key} {vs : List V}, RDs K H M vs (ks.map keyD) → vs = ks.map kV
  | [], _, .nil => rfl
  | k :: ks, _, .cons a r => by rw [List.map_cons, RD.keyV a, RDs.keyVs r]
theorem tupD_inj (a b : List Key) (e : PyData.tuple (a.map keyD) = PyData.tuple (b.map keyD)) : a = b := keyDs_inj (PyData.tuple.inj e)
theorem keyD_inj' (a b : Key) (e : keyD a = keyD b) : a = b := keyD_inj e
/-- the dict at n, asked at a key -/
theorem dic_at (rh : RH C M0 m H st) {v : V} {x : Va} {t : Bool} {kvs : List (PyData × Va)} (r : RV C H (Mx M0 m) m v x) (e : dicOf st x = some (t, kvs)) : ∃ n a, x = .ref n ∧ v = .ref a ∧ m[n]? = some a ∧ st[n]? = some (some (.dic t kvs)) ∧ RO C H (Mx M0 m) m a (.dic t kvs) := by
  cases r with
  | @ref n a h =>
    have e' : (match st[n]? with | some (some (.dic t kvs)) => some (t, kvs) | _ => none) = some (t, kvs) := e
    split at e'
    · rename_i t' ys hy
      cases e'
      obtain ⟨b, hb, ro⟩ := rh.ob n _ hy
      rw [h] at hb
      cases hb
      exact ⟨n, a, rfl, rfl, h, hy, ro⟩
    · cases e'
  | _ => cases e
theorem dget_rel {a : Addr} {t : Bool} {kvs : List (PyData × Va)} {M : Addr → Prop} (ro : RO C H M m a (.dic t kvs)) {u : V} {y : Va} {k : PyData} (ry : RV C H M m u y) (hk : isKey t y = some k) :
    ∃ o, DGet H a u o ∧ ((o = none ∧ dget kvs k = none) ∨ ∃ w z, o = some w ∧ dget kvs k = some z ∧ RV C H M m w z) := by
  cases t with
  | false =>
    cases y with
    | dat d =>
      obtain ⟨kk, e1, e2⟩ := Option.map_eq_some_iff.mp (show (flatKey d).map (fun _ => d) = some k from hk)
      subst e2
      obtain ⟨ks, h1, h2⟩ := ro
      cases ry with
      | dat rd =>
        rw [← flatKey_eq e1] at rd ⊢
        have eu := RD.keyV rd
        subst eu
        exact ⟨_, DGet.k h1, RK.val (f := keyD) keyD_inj' kk h2⟩
    | _ => cases hk
  | true =>
    cases y with
    | dat d =>
      cases d with
      | tuple ds =>
        obtain ⟨kk, e1, e2⟩ := Option.map_eq_some_iff.mp (show (flatKeys ds).map (fun _ => PyData.tuple ds) = some k from hk)
        subst e2
        obtain ⟨ks, h1, h2⟩ := ro
        obtain ⟨b, vs, eu, hb, rs⟩ := ry.tup_inv
        subst eu
        rw [← flatKeys_eq e1] at rs ⊢
        have ev := RDs.keyVs rs
        subst ev
        exact ⟨_, DGet.t h1 hb, RK.val (f := fun l : List Key => PyData.tuple (l.map keyD)) tupD_inj kk h2⟩
      | _ => cases hk
    | _ => cases hk
/-- the dict at n, written at a key -/
theorem dput_rel (rh : RH C M0 m H st) {n : Nat} {a : Addr} {t : Bool} {kvs : List (PyData × Va)} (hn : m[n]? = some a) (ro : RO C H (Mx M0 m) m a (.dic t kvs)) {u w : V} {y z : Va} {k : PyData} (ry : RV C H (Mx M0 m) m u y) (rz : RV C H (Mx M0 m) m w z) (hk : isKey t y = some k) (hl : few kvs.length = true) :
    ∃ H', DPut H a u w H' ∧ Go m H m H' ∧ RH C M0 m H' (st.set n (some (.dic t (dput kvs k z)))) := by
  have hm : a ∈ m := List.mem_of_getElem? hn
  cases t with
  | false =>
    cases y with
    | dat d =>
      obtain ⟨kk, e1, e2⟩ := Option.map_eq_some_iff.mp (show (flatKey d).map (fun _ => d) = some k from hk)
      subst e2
      obtain ⟨ks, h1, h2⟩ := ro
      cases ry with
      | dat rd =>
        rw [← flatKey_eq e1] at rd ⊢
        have eu := RD.keyV rd
        subst eu
        have g : Go m H m (upd H a (.dK (putK ks kk w))) := Go.write hm rh.mu
        have h3 : RK C H (Mx M0 m) m keyD (putK ks kk w) (dput kvs (keyD kk) z) := RK.put (f := keyD) keyD_inj' kk rz h2
        exact ⟨_, DPut.k h1 (by rw [RK.len (f := keyD) h2]; exact few_lt hl), g, rh.write hn trivial ⟨_, upd_same, Paired.mapP h3 fun _ _ z => ⟨z.1, z.2.go g rh.mu⟩⟩⟩
    | _ => cases hk
  | true =>
    cases y with
    | dat d =>
      cases d with
      | tuple ds =>
        obtain ⟨kk, e1, e2⟩ := Option.map_eq_some_iff.mp (show (flatKeys ds).map (fun _ => PyData.tuple ds) = some k from hk)
        subst e2
        obtain ⟨ks, h1, h2⟩ := ro
        obtain ⟨b, vs, eu, hb, rs⟩ := ry.tup_inv
        subst eu
        rw [← flatKeys_eq e1] at rs ⊢
        have ev := RDs.keyVs rs
        subst ev
        have g : Go m H m (upd H a (.dT (putK ks kk w))) := Go.write hm rh.mu
        have h3 : RK C H (Mx M0 m) m (fun l : List Key => PyData.tuple (l.map keyD)) (putK ks kk w) (dput kvs (PyData.tuple (kk.map keyD)) z) := RK.put (f := fun l : List Key => PyData.tuple (l.map keyD)) tupD_inj kk rz h2
        exact ⟨_, DPut.t h1 hb (by rw [RK.len (f := fun l : List Key => PyData.tuple (l.map keyD)) h2]; exact few_lt hl), g, rh.write hn trivial ⟨_, upd_same, Paired.mapP h3 fun _ _ z => ⟨z.1, z.2.go g rh.mu⟩⟩⟩
      | _ => cases hk
    | _ => cases hk
end

/-! ### x[i] -/
def ixV (x y : Va) (st : Sto) : Rs Va := match seqOf st x with
  | some (_, xs) => (match y with
    | .dat (.int i) => (match L2.atI xs i with
      | some z => .ok z st
      | none => .bad)
    | _ => .bad)
  | none => (match x with
    | .dat (.str s) => (match y with
      | .dat (.int i) => if few s.length = true then (match L2.atI s.cps.toList i with
        | some c => .ok (.dat (.str ⟨#[c]⟩)) st
        | none => .bad) else .bad
      | _ => .bad)
    | _ => (match dicOf st x with
      | some (t, kvs) => (match isKey t y with
        | some k => (match dget kvs k with
          | some z => .ok z st
          | none => .bad)
        | none => .bad)
      | none => .bad))
section
variable {X : Cx} {C : Cfg}
def rIxDic : R2 := fun x y H Q => ∃ a v, x = .ref a ∧ DGet H a y (some v) ∧ Q v H
theorem ix_dic (hu : X.A.units + 1 < cLine) : IxR X rIxDic := by
  intro value slice pins s σ H x y v u Q I rx ry h hs
  obtain ⟨a, z, rfl, g, q⟩ := h
  cases rx
  exact tail_any (dict_typeIs I g) PySem.F.slot_dict_getitem.lookup (d_getItem hu I g ry fun w' s' I' r' => ⟨z, H, I', r', q⟩) hs
def rIxX (K : PySem.W.Frag) : R2 := fun x y H Q => rIx K x y H Q ∨ rIxDic x y H Q
theorem ix_x (hu : X.A.units + 1 < cLine) (hK : X.K = C.K := by rfl) : IxR X (rIxX C.K) := hK ▸ ix_seq.or (ix_dic hu)
theorem os_ix : OpS C (rIxX C.K) ixV := by
  intro M0 m H st v u x y E Q rh rx ry fin
  unfold ixV at fin
  split at fin
  · rename_i t xs hs
    obtain ⟨a, vs, rfl, rs, sq⟩ := seqOf_rel rh rx hs
    split at fin
    · rename_i i
      split at fin
      · rename_i z hz
        obtain ⟨w, hw, rw'⟩ := rs.atI hz
        have q := FinG.out (R := relV C M0) fin rh rw'
        cases t with
        | true => exact .inl (.inr (.inl ⟨a, vs, i, w, rfl, ry.int_inv, sq, hw, q⟩))
        | false => exact .inl (.inl ⟨a, vs, i, w, rfl, ry.int_inv, sq, hw, q⟩)
      · exact fin.elim
    · exact fin.elim
  · split at fin
    · rename_i s _
      split at fin
      · obtain ⟨hk, fin⟩ := Fin.ifGo fin
        split at fin
        · rename_i c hc
          exact .inl (.inr (.inr ⟨_, _, c, rx.str_inv, ry.int_inv, few_le hk, hc, FinG.out (R := relV C M0) fin rh (.dat (.str _))⟩))
        · exact fin.elim
      · exact fin.elim
    · split at fin
      · rename_i t kvs hd
        obtain ⟨n, a, rfl, rfl, hn, _, ro⟩ := dic_at rh rx hd
        split at fin
        · rename_i k hk
          obtain ⟨o, g, h | ⟨w, z, h1, h2, h3⟩⟩ := dget_rel ro ry hk
          · rw [h.2] at fin; exact fin.elim
          · rw [h2] at fin
            subst h1
            exact .inr ⟨a, w, rfl, g, FinG.out (R := relV C M0) fin rh h3⟩
        · exact fin.elim
      · exact fin.elim

/-! ### slices -/
def wholeSl (n : Nat) (lo hi : Option Int) : Bool := HT.sIx n 0 lo == 0 && HT.sIx n n hi == n
def slV (x : Va) (lo hi : Option Int) (st : Sto) : Rs Va := match seqOf st x with
  | some (true, xs) => if wholeSl xs.length lo hi = true then .ok x st else .ok (mkT (cut xs lo hi)) st
  | some (false, xs) => .ok (mkL (cut xs lo hi)) st
  | none => (match x with
    | .dat (.str s) => if few s.length = true then .ok (.dat (.str (cutS s lo hi))) st else .bad
    | _ => .bad)
def rSlX (K : PySem.W.Frag) : V → Option Int → Option Int → Hp → VK → Prop := fun x lo hi H Q => rSlL K x lo hi H Q ∨ rSlA K x lo hi H Q ∨ (∃ z, x = .str z ∧ z.length ≤ sizeLine ∧ Q (.str (cutS z lo hi)) H)
theorem sl_x (hK : X.K = C.K := by rfl) : SlR X (rSlX C.K) := hK ▸ sl_list.or (sl_tupA.or sl_str)
def SlS (C : Cfg) (r : V → Option Int → Option Int → Hp → VK → Prop) (f : Va → Option Int → Option Int → Sto → Rs Va) : Prop := ∀ (M0 : Addr → Prop) (m : List Addr) (H : Hp) (st : Sto) (v : V) (x : Va) (lo hi : Option Int) (E : XK) (Q : VK),
  RH C M0 m H st → RV C H (Mx M0 m) m v x → Fin C M0 m H E (f x lo hi st) Q → r v lo hi H Q
theorem ss_sl : SlS C (rSlX C.K) slV := by
  intro M0 m H st v x lo hi E Q rh rx fin
  unfold slV at fin
  split at fin
  · rename_i xs hs
    obtain ⟨a, vs, rfl, rs, sq⟩ := seqOf_rel rh rx hs
    refine .inr (.inl ⟨a, vs, rfl, sq, fun hw => ?_, fun hw p hp => ?_⟩)
    · rw [rs.len] at hw
      have e : wholeSl xs.length lo hi = true := by
        unfold wholeSl
        rw [hw.1, hw.2]
        simp
      rw [if_pos e] at fin
      exact FinG.out (R := relV C M0) fin rh rx
    · rw [rs.len] at hw
      have e : ¬ wholeSl xs.length lo hi = true := fun z => hw (by
        obtain ⟨z1, z2⟩ := Bool.and_eq_true_iff.mp z
        exact ⟨eq_of_beq z1, eq_of_beq z2⟩)
      rw [if_neg e] at fin
      exact Fin.newT fin rh hp (rs.cut lo hi)
  · rename_i xs hs
    obtain ⟨a, vs, rfl, rs, sq⟩ := seqOf_rel rh rx hs
    exact .inl ⟨a, vs, rfl, sq, fun p hp => Fin.newF fin rh hp (rs.cut lo hi)⟩
  · split at fin
    · obtain ⟨hk, fin⟩ := Fin.ifGo fin
      exact .inr (.inr ⟨_, rx.str_inv, few_le hk, FinG.out (R := relV C M0) fin rh (.dat (.str _))⟩)
    · exact fin.elim
abbrev CO := Ev → Sto → Rs (Option Int)
def dNo : CO := fun _ st => .ok none st
def asPart (x : Va) (st : Sto) : Rs (Option Int) := match x with
  | .dat (.int i) => .ok (some i) st
  | _ => .bad
def dPart (c : CE) : CO := fun ev st => (c ev st).bind asPart
abbrev relO : Hp → List Addr → Option Int → Option Int → Prop := fun _ _ a b => a = b
abbrev tO (C : Cfg) (W : WX) (c : CO) : TO := tG (fun _ _ => relO) C W c
variable {W : WX} {pos p2 : Pos} {e : Expr} {lo hi : Option Expr} {ce : CE} {cl ch : CO}
theorem PO.imp {e : Option Expr} {t t' : TO} (h : PO X e t) (i : ∀ s H Q, t' s H Q → t s H Q) : PO X e t' := by
  obtain ⟨h⟩ := h
  exact ⟨fun pins s σ H Q I q => h pins s σ H Q I (i _ _ _ q)⟩
theorem fo_none : PO X none (tO C W dNo) := PO.imp po_none fun s H Q ⟨M0, m, ev, st, rh, re, fin⟩ => FinG.out (R := relO) fin rh rfl
theorem fo_some (h : PE X e (tE C W ce)) : PO X (some e) (tO C W (dPart ce)) := PO.imp (po_some h) fun s H Q h => tG.bind (R := relV) (k := fun x _ st => asPart x st) h fun M0 m ev st x v H1 rh re rv fin => by
  unfold asPart at fin
  split at fin
  · exact ⟨_, rv.int_inv, FinG.out (R := relO) fin rh rfl⟩
  · exact fin.elim
def dSl (a : CE) (lo hi : CO) : CE := fun ev st => (a ev st).bind fun x st1 => (lo ev st1).bind fun l st2 => (hi ev st2).bind fun h st3 => slV x l h st3
theorem fe_slice (hK : X.K = C.K) (he : PE X e (tE C W ce)) (hl : PO X lo (tO C W cl)) (hu : PO X hi (tO C W ch)) : PE X (.Subscript e (.Slice lo hi none p2) pos) (tE C W (dSl ce cl ch)) :=
  PE.imp (pe_slice (sl_x hK) he hl hu) fun s H Q h => tG.bind (R := relV) (k := fun x ev st1 => (cl ev st1).bind fun l st2 => (ch ev st2).bind fun h st3 => slV x l h st3) h fun M0 m ev st x v H1 rh re rv fin => by
    refine ⟨M0, m, ev, st, rh, re, (FinG.bind (R := relO) fin).mono fun l H2 q => ?_⟩
    obtain ⟨m2, st2, l', g2, rh2, e2, fin2⟩ := q
    have e2 : l = l' := e2
    subst e2
    have re2 := re.go g2 rh.mu
    refine ⟨M0, m2, ev, st2, rh2, re2, (FinG.bind (R := relO) fin2).mono fun h H3 q => ?_⟩
    obtain ⟨m3, st3, h', g3, rh3, e3, fin3⟩ := q
    have e3 : h = h' := e3
    subst e3
    exact ss_sl M0 m3 H3 st3 v x l h _ Q rh3 ((rv.go g2 rh.mu).go g3 rh2.mu) fin3
end
end Sk

/-! Sk, part 7: built-in functions. -/
namespace Sk
open PySem PySem.Spec PyProof.Rows L2
section
variable {X : Cx} {C : Cfg}
def lenV (xs : List Va) (st : Sto) : Rs Va := match xs with
  | [x] => (match seqOf st x with
    | some (_, ys) => oI ys.length st
    | none => (match x with
      | .dat (.str s) => if few s.length = true then oI s.length st else .bad
      | _ => .bad))
  | _ => .bad
theorem call_lenX (hK : X.K = C.K := by rfl) : CallR X (.builtin "len") (fun xs H Q => ∃ x n, xs = [x] ∧ LenV C.K x H n ∧ Q (.int n) H) := hK ▸ call_len
theorem RVs.one {H : Hp} {M : Addr → Prop} {m : List Addr} {vs : List V} {x : Va} (r : RVs C H M m vs [x]) : ∃ v, vs = [v] ∧ RV C H M m v x := by
  cases r with
  | cons a b => cases b; exact ⟨_, rfl, a⟩
theorem RVs.two {H : Hp} {M : Addr → Prop} {m : List Addr} {vs : List V} {x y : Va} (r : RVs C H M m vs [x, y]) : ∃ v u, vs = [v, u] ∧ RV C H M m v x ∧ RV C H M m u y := by
  cases r with
  | cons a b =>
    obtain ⟨u, rfl, ru⟩ := b.one
    exact ⟨_, _, rfl, a, ru⟩
theorem cs_len : CallS C (fun xs H Q => ∃ x n, xs = [x] ∧ LenV C.K x H n ∧ Q (.int n) H) lenV := by
  intro M0 m H st vs xs E Q rh rs fin
  unfold lenV at fin
  split at fin
  · rename_i x
    obtain ⟨v, rfl, rv⟩ := rs.one
    split at fin
    · rename_i t ys hs
      obtain ⟨a, us, rfl, ru, sq⟩ := seqOf_rel rh rv hs
      refine ⟨_, ys.length, rfl, ?_, FinG.out (R := relV C M0) fin rh (.dat (.int _))⟩
      cases t with
      | true => exact .inr ⟨us, sq, ru.len.symm⟩
      | false => exact .inl ⟨us, sq, ru.len.symm⟩
    · split at fin
      · obtain ⟨hk, fin⟩ := Fin.ifGo fin
        have e := rv.str_inv
        subst e
        exact ⟨_, _, rfl, ⟨few_le hk, rfl⟩, FinG.out (R := relV C M0) fin rh (.dat (.int _))⟩
      · exact fin.elim
  · exact fin.elim
/-- list(x), to be read alone; list(x), to be changed -/
def listF (xs : List Va) (st : Sto) : Rs Va := match xs with
  | [x] => (match seqOf st x with
    | some (_, ys) => .ok (mkL ys) st
    | none => .bad)
  | _ => .bad
def listM (xs : List Va) (st : Sto) : Rs Va := match xs with
  | [x] => (match seqOf st x with
    | some (_, ys) => newL ys st
    | none => .bad)
  | _ => .bad
def rListOf (K : PySem.W.Frag) : List V → Hp → VK → Prop := fun xs H Q => ∃ p ys, xs = [.ref p] ∧ (SqL K H p ys ∨ SqT K H p ys) ∧ ∀ l, H l = none → Q (.ref l) (upd H l (.lst ys))
theorem call_listX (hK : X.K = C.K := by rfl) : CallR X (.type "list") (rListOf C.K) := hK ▸ call_list_of
theorem cs_listF : CallS C (rListOf C.K) listF := by
  intro M0 m H st vs xs E Q rh rs fin
  unfold listF at fin
  split at fin
  · obtain ⟨v, rfl, rv⟩ := rs.one
    split at fin
    · rename_i t ys hs
      obtain ⟨a, us, rfl, ru, sq⟩ := seqOf_rel rh rv hs
      refine ⟨a, us, rfl, ?_, fun p hp => Fin.newF fin rh hp ru⟩
      cases t with
      | true => exact .inr sq
      | false => exact .inl sq
    · exact fin.elim
  · exact fin.elim
theorem cs_listM : CallS C (rListOf C.K) listM := by
  intro M0 m H st vs xs E Q rh rs fin
  unfold listM at fin
  split at fin
  · obtain ⟨v, rfl, rv⟩ := rs.one
    split at fin
    · rename_i t ys hs
      obtain ⟨a, us, rfl, ru, sq⟩ := seqOf_rel rh rv hs
      refine ⟨a, us, rfl, ?_, fun p hp => Fin.newL fin rh hp ru⟩
      cases t with
      | true => exact .inr sq
      | false => exact .inl sq
    · exact fin.elim
  · exact fin.elim
def tupleV (xs : List Va) (st : Sto) : Rs Va := match xs with
  | [x] => (match seqOf st x with
    | some (true, _) => .ok x st
    | some (false, ys) => .ok (mkT ys) st
    | none => .bad)
  | _ => .bad
def rTupOf (K : PySem.W.Frag) : List V → Hp → VK → Prop := fun xs H Q => ∃ p ys, xs = [.ref p] ∧ ((SqL K H p ys ∧ ∀ l, H l = none → Q (.ref l) (upd H l (.tup ys))) ∨ (SqT K H p ys ∧ Q (.ref p) H))
theorem call_tupleX (hK : X.K = C.K := by rfl) : CallR X (.type "tuple") (rTupOf C.K) := hK ▸ call_tuple_of
theorem cs_tuple : CallS C (rTupOf C.K) tupleV := by
  intro M0 m H st vs xs E Q rh rs fin
  unfold tupleV at fin
  split at fin
  · obtain ⟨v, rfl, rv⟩ := rs.one
    split at fin
    · rename_i ys hs
      obtain ⟨a, us, rfl, ru, sq⟩ := seqOf_rel rh rv hs
      exact ⟨a, us, rfl, .inr ⟨sq, FinG.out (R := relV C M0) fin rh rv⟩⟩
    · rename_i ys hs
      obtain ⟨a, us, rfl, ru, sq⟩ := seqOf_rel rh rv hs
      exact ⟨a, us, rfl, .inl ⟨sq, fun p hp => Fin.newT fin rh hp ru⟩⟩
    · exact fin.elim
  · exact fin.elim
/-! ### numbers -/
def absF (xs : List Va) (st : Sto) : Rs Va := match xs with
  | [.dat (.int i)] => oI (if i < 0 then -i else i) st
  | _ => .bad
theorem cs_abs : CallS C (fun xs H Q => ∃ i, xs = [.int i] ∧ Q (.int (if i < 0 then -i else i)) H) absF := by
  intro M0 m H st vs xs E Q rh rs fin
  unfold absF at fin
  split at fin
  · obtain ⟨v, rfl, rv⟩ := rs.one
    exact ⟨_, by rw [rv.int_inv], FinG.out (R := relV C M0) fin rh (.dat (.int _))⟩
  · exact fin.elim
def intF (xs : List Va) (st : Sto) : Rs Va := match xs with
  | [.dat (.int i)] => oI i st
  | [.dat (.bool k)] => oI (if k then 1 else 0) st
  | _ => .bad
theorem RV.bool_inv {H : Hp} {M : Addr → Prop} {m : List Addr} {v : V} {i : Bool} (h : RV C H M m v (.dat (.bool i))) : v = .bl i := by
  cases h with
  | dat h => cases h; rfl
theorem cs_int : CallS C (fun xs H Q => (∃ i, xs = [.int i] ∧ Q (.int i) H) ∨ ∃ k, xs = [.bl k] ∧ Q (.int (if k then 1 else 0)) H) intF := by
  intro M0 m H st vs xs E Q rh rs fin
  unfold intF at fin
  split at fin
  · obtain ⟨v, rfl, rv⟩ := rs.one
    exact .inl ⟨_, by rw [rv.int_inv], FinG.out (R := relV C M0) fin rh (.dat (.int _))⟩
  · obtain ⟨v, rfl, rv⟩ := rs.one
    exact .inr ⟨_, by rw [rv.bool_inv], FinG.out (R := relV C M0) fin rh (.dat (.int _))⟩
  · exact fin.elim
def intsOf : List Va → Option (List Int)
  | [] => some []
  | .dat (.int i) :: r => (intsOf r).map (i :: ·)
  | _ :: _ => none
theorem intsOf_map : ∀ ns : List Int, intsOf (ns.map fun i => .dat (.int i)) = some ns
  | [] => rfl
  | n :: r => by
    show (intsOf (r.map fun i => .dat (.int i))).map (n :: ·) = _
    rw [intsOf_map r]
    rfl
theorem RVs.ints {H : Hp} {M : Addr → Prop} {m : List Addr} : ∀ {vs : List V} {xs : List Va} {ns : List Int}, RVs C H M m vs xs → intsOf xs = some ns → vs = ns.map V.int
  | _, _, _, .nil, e => by cases e; rfl
  | _, _, _, .cons (.dat (.int i)) r, e => by
    obtain ⟨l, e1, e2⟩ := Option.map_eq_some_iff.mp (show (intsOf _).map (i :: ·) = some _ from e)
    subst e2
    rw [RVs.ints r e1]
    rfl
  | _, _, _, .cons (.dat .non) r, e => nomatch e
  | _, _, _, .cons (.dat (.bl _)) r, e => nomatch e
  | _, _, _, .cons (.dat (.str _)) r, e => nomatch e
  | _, _, _, .cons (.dat (.lst _ _ _)) r, e => nomatch e
  | _, _, _, .cons (.dat (.tup _ _)) r, e => nomatch e
  | _, _, _, .cons (.ref _) r, e => nomatch e
  | _, _, _, .cons (.lst _ _ _) r, e => nomatch e
  | _, _, _, .cons (.frz _ _) r, e => nomatch e
  | _, _, _, .cons (.tup _ _) r, e => nomatch e
  | _, _, _, .cons (.fn _) r, e => nomatch e
def leastI : List Int → Int
  | [] => 0
  | [x] => x
  | x :: r => if x ≤ leastI r then x else leastI r
def mostI : List Int → Int
  | [] => 0
  | [x] => x
  | x :: r => if mostI r ≤ x then x else mostI r
theorem leastI_eq {m : Int} : ∀ {ns : List Int}, m ∈ ns → (∀ y ∈ ns, m ≤ y) → leastI ns = m
  | [x], h, _ => by simp at h; exact h.symm
  | x :: y :: r, h, hl => by
    show (if x ≤ leastI (y :: r) then x else leastI (y :: r)) = m
    have hs : ∀ l : List Int, l ≠ [] → leastI l ∈ l := by
      intro l
      induction l with
      | nil => intro h; exact absurd rfl h
      | cons a t ih =>
        intro _
        cases t with
        | nil => simp [leastI]
        | cons b t =>
          show (if a ≤ leastI (b :: t) then a else leastI (b :: t)) ∈ _
          split
          · simp
          · exact List.mem_cons_of_mem _ (ih (by simp))
    rcases List.mem_cons.mp h with e | h'
    · subst e
      rw [if_pos]
      exact hl _ (List.mem_cons_of_mem _ (hs _ (by simp)))
    · have e := leastI_eq h' fun z hz => hl z (List.mem_cons_of_mem _ hz)
      rw [e]
      have := hl x (by simp)
      split
      · omega
      · rfl
theorem mostI_eq {m : Int} : ∀ {ns : List Int}, m ∈ ns → (∀ y ∈ ns, y ≤ m) → mostI ns = m
  | [x], h, _ => by simp at h; exact h.symm
  | x :: y :: r, h, hl => by
    show (if mostI (y :: r) ≤ x then x else mostI (y :: r)) = m
    have hs : ∀ l : List Int, l ≠ [] → mostI l ∈ l := by
      intro l
      induction l with
      | nil => intro h; exact absurd rfl h
      | cons a t ih =>
        intro _
        cases t with
        | nil => simp [mostI]
        | cons b t =>
          show (if mostI (b :: t) ≤ a then a else mostI (b :: t)) ∈ _
          split
          · simp
          · exact List.mem_cons_of_mem _ (ih (by simp))
    rcases List.mem_cons.mp h with e | h'
    · subst e
      rw [if_pos]
      exact hl _ (List.mem_cons_of_mem _ (hs _ (by simp)))
    · have e := mostI_eq h' fun z hz => hl z (List.mem_cons_of_mem _ hz)
      rw [e]
      have := hl x (by simp)
      split
      · omega
      · rfl
def iterInts (st : Sto) (x : Va) : Option (List Int) := (seqOf st x).bind fun p => intsOf p.2
def minF (xs : List Va) (st : Sto) : Rs Va := match xs with
  | [x] => (match iterInts st x with
    | some (n :: ns) => oI (leastI (n :: ns)) st
    | _ => .bad)
  | [.dat (.int i), .dat (.int j)] => oI (if j < i then j else i) st
  | _ => .bad
def maxF (xs : List Va) (st : Sto) : Rs Va := match xs with
  | [x] => (match iterInts st x with
    | some (n :: ns) => oI (mostI (n :: ns)) st
    | _ => .bad)
  | [.dat (.int i), .dat (.int j)] => oI (if j > i then j else i) st
  | _ => .bad
def sumF (xs : List Va) (st : Sto) : Rs Va := match xs with
  | [x] => (match iterInts st x with
    | some ns => oI ns.sum st
    | _ => .bad)
  | _ => .bad
end
/-! ### sum, min, max of a tuple -/
section
variable {prog : Program} {w : World} {A : Around} {E : Value → Shared → Prop} {s : Shared} {l : Addr} {its : List Value} {ns : List Int} {Q : Value → Shared → Prop}
theorem preSum_list (ns : List Int) : ∀ j, preSum (fun i => ns.getD i 0) j = (ns.take j).sum
  | 0 => by simp [preSum]
  | j + 1 => by
    rw [preSum, preSum_list ns j]
    by_cases h : j < ns.length
    · rw [List.take_add_one, List.getElem?_eq_getElem h, List.sum_append, List.getD_eq_getElem?_getD, List.getElem?_eq_getElem h]
      simp
    · rw [List.take_of_length_le (by omega), List.take_of_length_le (by omega), List.getD_eq_getElem?_getD, List.getElem?_eq_none (by omega)]
      simp
theorem ints_at : ∀ {its : List Value} {ns : List Int}, IntsAre its ns → ∀ (i : Nat) (v : Value), its[i]? = some v → ∃ t, v = .int (ns.getD i 0) t := by
  intro its ns h
  have r := vals_of_ints h
  intro i v e
  have hl : i < its.length := (List.getElem?_eq_some_iff.mp e).1
  have hl2 : i < ns.length := by
    have := r.length
    rw [List.length_map] at this
    omega
  obtain ⟨u, hu, ru⟩ := r.get (i := i) (x := V.int ns[i]) (by rw [List.getElem?_map, List.getElem?_eq_getElem hl2]; rfl)
  rw [e] at hu
  cases hu
  obtain ⟨t, rfl⟩ := ru
  exact ⟨t, by rw [List.getD_eq_getElem?_getD, List.getElem?_eq_getElem hl2]; rfl⟩
theorem iter_tup {R : Value → Shared → Prop} {items : Array Value} (hl : s.heap.IsTuple l items)
    (h : ∀ s2 : Shared, s2 = { s with heap := s.heap.push { cls := .type "tuple_iterator", data := .fields #[.ref l, .int 0 0] } } →
      (s2.heap.IsTupleIter s.heap.objs.size l 0 ∧ s2.heap.IsTuple l items) → (∀ b ∈ [s.heap.objs.size, l], b < s2.heap.objs.size) → l ≠ s.heap.objs.size → R (.ref s.heap.objs.size) s2) :
    wpAny (model prog w) A (pyIter (.ref l)) R E s := by
  have hlt : l < s.heap.objs.size := by obtain ⟨_, e, _⟩ := hl; exact Heap.lt_size e
  refine wpAny_pyIter_tuple hl (h _ rfl ⟨⟨_, Heap.get?_push_size _ rfl, rfl, rfl⟩, ?_⟩ (fun b hb => ?_) (Nat.ne_of_lt hlt))
  · obtain ⟨o, e, r⟩ := hl
    exact ⟨o, Heap.get?_push_of_some _ e, r⟩
  · show b < (s.heap.push _).objs.size
    rw [Heap.size_push]
    rcases List.mem_cons.mp hb with e | hb
    · rw [e]; exact Nat.lt_succ_self _
    · rcases List.mem_cons.mp hb with e | hb
      · rw [e]; exact Nat.lt_succ_of_lt hlt
      · cases hb
theorem kept_tup {h' : Heap} {o1 : Obj} (hk : ∀ b o, b ∉ [s.heap.objs.size] → (s.heap.push o1).get? b = some o → h'.get? b = some o) : ∀ b o, s.heap.get? b = some o → h'.get? b = some o := fun b o e => by
  refine hk b o (fun hm => ?_) (Heap.get?_push_of_some _ e)
  rcases List.mem_cons.mp hm with e1 | hm
  · exact absurd (e1 ▸ Heap.lt_size e) (Nat.lt_irrefl _)
  · cases hm
theorem sum_tup (hh : A.handled = none) (hl : s.heap.IsTuple l its.toArray) (hi : IntsAre its ns)
    (h : ∀ h' tk t', (∀ b o, s.heap.get? b = some o → h'.get? b = some o) → Q (.int ns.sum t') { s with heap := h', toks := tk }) : wpAny (model prog w) A (call (.builtin "sum") [.ref l]) Q E s := by
  refine call_sum_walkG (iter_tup hl fun s2 e st hfp hne => ?_)
  subst e
  refine ⟨_, _, _, _, _, _, fun i => ns.getD i 0, rfl, Walks.tuple (A := A.in1) hh _ l hne its.toArray, st, hfp, fun i v e => ints_at hi i v (by simpa using e), fun h' tk t' hk => ?_⟩
  have q := h h' tk t' (kept_tup hk)
  have e : preSum (fun i => ns.getD i 0) its.toArray.size = ns.sum := by
    rw [preSum_list, List.take_of_length_le]
    have := (vals_of_ints hi).length
    rw [List.length_map] at this
    simp
    omega
  rw [e]
  exact q
theorem max_tup (hh : A.handled = none) (hl : s.heap.IsTuple l its.toArray) (hi : IntsAre its ns) (hne0 : 0 < ns.length)
    (h : ∀ h' tk M t', (∀ b o, s.heap.get? b = some o → h'.get? b = some o) → M ∈ ns → (∀ a, a ∈ ns → a ≤ M) → Q (.int M t') { s with heap := h', toks := tk }) : wpAny (model prog w) A (call (.builtin "max") [.ref l]) Q E s := by
  have hlen : its.length = ns.length := by
    have := (vals_of_ints hi).length
    rw [List.length_map] at this
    omega
  refine call_max_walk (iter_tup hl fun s2 e st hfp hne => ?_)
  subst e
  have hv : ∀ (i : Nat) (v : Value), its.toArray[i]? = some v → ∃ t, v = .int (ns.getD i 0) t := fun i v e => ints_at hi i v (by simpa using e)
  refine ⟨_, _, _, _, _, _, _, rfl, Walks.tuple (A := A.in1) hh _ l hne its.toArray, st, hfp, by simp; omega, CmpOf.ints_gt (fun i => ns.getD i 0) hv, fun v h' tk hP hk => ?_⟩
  obtain ⟨t, rfl⟩ := hv _ v hP
  obtain ⟨h1, h2⟩ := argBest_gt (fun i => ns.getD i 0) (its.toArray.size - 1)
  refine h h' tk _ t (kept_tup hk) (PySem.getD_mem (by simp at h1 ⊢; omega)) fun a ha => ?_
  obtain ⟨j, hj, e⟩ := List.getElem_of_mem ha
  have h3 := h2 j (by simp; omega)
  have e2 : ns.getD j 0 = a := by rw [List.getD_eq_getElem?_getD, List.getElem?_eq_getElem hj]; exact e
  rw [← e2]
  exact h3
theorem min_tup (hh : A.handled = none) (hl : s.heap.IsTuple l its.toArray) (hi : IntsAre its ns) (hne0 : 0 < ns.length)
    (h : ∀ h' tk M t', (∀ b o, s.heap.get? b = some o → h'.get? b = some o) → M ∈ ns → (∀ a, a ∈ ns → M ≤ a) → Q (.int M t') { s with heap := h', toks := tk }) : wpAny (model prog w) A (call (.builtin "min") [.ref l]) Q E s := by
  have hlen : its.length = ns.length := by
    have := (vals_of_ints hi).length
    rw [List.length_map] at this
    omega
  refine call_min_walk (iter_tup hl fun s2 e st hfp hne => ?_)
  subst e
  have hv : ∀ (i : Nat) (v : Value), its.toArray[i]? = some v → ∃ t, v = .int (ns.getD i 0) t := fun i v e => ints_at hi i v (by simpa using e)
  refine ⟨_, _, _, _, _, _, _, rfl, Walks.tuple (A := A.in1) hh _ l hne its.toArray, st, hfp, by simp; omega, CmpOf.ints_lt (fun i => ns.getD i 0) hv, fun v h' tk hP hk => ?_⟩
  obtain ⟨t, rfl⟩ := hv _ v hP
  obtain ⟨h1, h2⟩ := argBest_lt (fun i => ns.getD i 0) (its.toArray.size - 1)
  refine h h' tk _ t (kept_tup hk) (PySem.getD_mem (by simp at h1 ⊢; omega)) fun a ha => ?_
  obtain ⟨j, hj, e⟩ := List.getElem_of_mem ha
  have h3 := h2 j (by simp; omega)
  have e2 : ns.getD j 0 = a := by rw [List.getD_eq_getElem?_getD, List.getElem?_eq_getElem hj]; exact e
  rw [← e2]
  exact h3
end
section
variable {X : Cx} {C : Cfg}
def rSumT (K : PySem.W.Frag) : List V → Hp → VK → Prop := fun vs H Q => ∃ (a : Addr) (ns : List Int), vs = [V.ref a] ∧ SqT K H a (ns.map V.int) ∧ Q (.int ns.sum) H
def rMaxT (K : PySem.W.Frag) : List V → Hp → VK → Prop := fun vs H Q => ∃ (a : Addr) (ns : List Int), vs = [V.ref a] ∧ SqT K H a (ns.map V.int) ∧ 0 < ns.length ∧ ∀ m, m ∈ ns → (∀ y, y ∈ ns → y ≤ m) → Q (.int m) H
def rMinT (K : PySem.W.Frag) : List V → Hp → VK → Prop := fun vs H Q => ∃ (a : Addr) (ns : List Int), vs = [V.ref a] ∧ SqT K H a (ns.map V.int) ∧ 0 < ns.length ∧ ∀ m, m ∈ ns → (∀ y, y ∈ ns → m ≤ y) → Q (.int m) H
theorem cr_sumT (hc : X.calm = true) : CallR X (.builtin "sum") (rSumT X.K) := by
  intro pins s σ H vs us Q I r h
  obtain ⟨a, ns, rfl, hs, q⟩ := h
  obtain ⟨its, rv, hl, _⟩ := I.tuple hs
  rw [Vals.ref1 r]
  exact sum_tup (I.ok.hd hc) hl rv.ints fun h' tk t' hk => ⟨.int _, H, I.kept hk, ⟨_, rfl⟩, q⟩
theorem cr_maxT (hc : X.calm = true) : CallR X (.builtin "max") (rMaxT X.K) := by
  intro pins s σ H vs us Q I r h
  obtain ⟨a, ns, rfl, hs, hne, q⟩ := h
  obtain ⟨its, rv, hl, _⟩ := I.tuple hs
  rw [Vals.ref1 r]
  exact max_tup (I.ok.hd hc) hl rv.ints hne fun h' tk m t' hk h1 h2 => ⟨.int _, H, I.kept hk, ⟨_, rfl⟩, q m h1 h2⟩
theorem cr_minT (hc : X.calm = true) : CallR X (.builtin "min") (rMinT X.K) := by
  intro pins s σ H vs us Q I r h
  obtain ⟨a, ns, rfl, hs, hne, q⟩ := h
  obtain ⟨its, rv, hl, _⟩ := I.tuple hs
  rw [Vals.ref1 r]
  exact min_tup (I.ok.hd hc) hl rv.ints hne fun h' tk m t' hk h1 h2 => ⟨.int _, H, I.kept hk, ⟨_, rfl⟩, q m h1 h2⟩
def rSumX (K : PySem.W.Frag) : List V → Hp → VK → Prop := fun vs H Q => rSum K vs H Q ∨ rSumT K vs H Q
theorem call_sumX (hc : X.calm = true) (hK : X.K = C.K := by rfl) : CallR X (.builtin "sum") (rSumX C.K) := hK ▸ (cr_sum hc).or (cr_sumT hc)
def rMinX (K : PySem.W.Frag) : List V → Hp → VK → Prop := fun vs H Q => (∃ i j, vs = [.int i, .int j] ∧ Q (.int (if j < i then j else i)) H) ∨ rMin K vs H Q ∨ rMinT K vs H Q
theorem call_minX (hc : X.calm = true) (hK : X.K = C.K := by rfl) : CallR X (.builtin "min") (rMinX C.K) := hK ▸ (call_min2 hc).or ((cr_min hc).or (cr_minT hc))
def rMaxX (K : PySem.W.Frag) : List V → Hp → VK → Prop := fun vs H Q => (∃ i j, vs = [.int i, .int j] ∧ Q (.int (if j > i then j else i)) H) ∨ rMax K vs H Q ∨ rMaxT K vs H Q
theorem call_maxX (hc : X.calm = true) (hK : X.K = C.K := by rfl) : CallR X (.builtin "max") (rMaxX C.K) := hK ▸ (call_max2 hc).or ((cr_max hc).or (cr_maxT hc))
theorem iterInts_rel {M0 : Addr → Prop} {m : List Addr} {H : Hp} {st : Sto} (rh : RH C M0 m H st) {v : V} {x : Va} {ns : List Int} (rv : RV C H (Mx M0 m) m v x) (e : iterInts st x = some ns) : ∃ a, v = .ref a ∧ (SqL C.K H a (ns.map V.int) ∨ SqT C.K H a (ns.map V.int)) := by
  unfold iterInts at e
  cases h : seqOf st x with
  | none => rw [h] at e; cases e
  | some p =>
    obtain ⟨t, xs⟩ := p
    rw [h] at e
    obtain ⟨a, vs, rfl, rs, sq⟩ := seqOf_rel rh rv h
    have ev := rs.ints (show intsOf xs = some ns from e)
    subst ev
    cases t with
    | true => exact ⟨a, rfl, .inr sq⟩
    | false => exact ⟨a, rfl, .inl sq⟩
theorem cs_sum : CallS C (rSumX C.K) sumF := by
  intro M0 m H st vs xs E Q rh rs fin
  unfold sumF at fin
  split at fin
  · obtain ⟨v, rfl, rv⟩ := rs.one
    split at fin
    · rename_i ns hn
      have q := FinG.out (R := relV C M0) fin rh (.dat (.int _))
      obtain ⟨a, rfl, sq | sq⟩ := iterInts_rel rh rv hn
      · exact .inl ⟨a, ns, rfl, sq, q⟩
      · exact .inr ⟨a, ns, rfl, sq, q⟩
    · exact fin.elim
  · exact fin.elim
theorem cs_min : CallS C (rMinX C.K) minF := by
  intro M0 m H st vs xs E Q rh rs fin
  unfold minF at fin
  split at fin
  · obtain ⟨v, rfl, rv⟩ := rs.one
    split at fin
    · rename_i n ns hn
      have q := FinG.out (R := relV C M0) fin rh (.dat (.int _))
      have q2 : ∀ m, m ∈ n :: ns → (∀ y, y ∈ n :: ns → m ≤ y) → Q (.int m) H := fun m h1 h2 => by rw [← leastI_eq h1 h2]; exact q
      obtain ⟨a, rfl, sq | sq⟩ := iterInts_rel rh rv hn
      · exact .inr (.inl ⟨a, _, rfl, sq, by simp, q2⟩)
      · exact .inr (.inr ⟨a, _, rfl, sq, by simp, q2⟩)
    · exact fin.elim
  · obtain ⟨v, u, rfl, rv, ru⟩ := rs.two
    exact .inl ⟨_, _, by rw [rv.int_inv, ru.int_inv], FinG.out (R := relV C M0) fin rh (.dat (.int _))⟩
  · exact fin.elim
theorem cs_max : CallS C (rMaxX C.K) maxF := by
  intro M0 m H st vs xs E Q rh rs fin
  unfold maxF at fin
  split at fin
  · obtain ⟨v, rfl, rv⟩ := rs.one
    split at fin
    · rename_i n ns hn
      have q := FinG.out (R := relV C M0) fin rh (.dat (.int _))
      have q2 : ∀ m, m ∈ n :: ns → (∀ y, y ∈ n :: ns → y ≤ m) → Q (.int m) H := fun m h1 h2 => by rw [← mostI_eq h1 h2]; exact q
      obtain ⟨a, rfl, sq | sq⟩ := iterInts_rel rh rv hn
      · exact .inr (.inl ⟨a, _, rfl, sq, by simp, q2⟩)
      · exact .inr (.inr ⟨a, _, rfl, sq, by simp, q2⟩)
    · exact fin.elim
  · obtain ⟨v, u, rfl, rv, ru⟩ := rs.two
    exact .inl ⟨_, _, by rw [rv.int_inv, ru.int_inv], FinG.out (R := relV C M0) fin rh (.dat (.int _))⟩
  · exact fin.elim
end
end Sk

/-! Sk, part 8: isinstance, in. -/
namespace Sk
open PySem PySem.Spec PyProof.Rows L2
def tyName (st : Sto) (x : Va) : Option String := match x with
  | .dat .none => some "NoneType"
  | .dat (.bool _) => some "bool"
  | .dat (.int _) => some "int"
  | .dat (.str _) => some "str"
  | .dat (.list _) => some "list"
  | .dat (.tuple _) => some "tuple"
  | .seq true _ => some "tuple"
  | .seq false _ => some "list"
  | .ref n => (match st[n]? with
    | some (some (.lst _)) => some "list"
    | some (some (.dic _ _)) => some "dict"
    | _ => none)
  | _ => none
def subTy (t T : String) : Bool := t == T || (t == "bool" && T == "int")
/-- the classes that we ask for -/
def askTy (T : String) : Bool := T == "int" || T == "bool" || T == "str" || T == "tuple" || T == "list"
def isiV (T : String) (x : Va) (st : Sto) : Rs Va := match tyName st x with
  | some t => oB (subTy t T) st
  | none => .bad
section
variable {X : Cx} {C : Cfg} {W : WX}
theorem kit_all {K : PySem.W.Frag} {t T : String} (hT : askTy T = true) (ht : t = "NoneType" ∨ t = "bool" ∨ t = "int" ∨ t = "str" ∨ t = "list" ∨ t = "tuple" ∨ t = "dict") : PySem.W.kitOne K (.type t) (.type T) = some (subTy t T) := by
  simp only [askTy, Bool.or_eq_true, beq_iff_eq] at hT
  rcases hT with (((h | h) | h) | h) | h <;> subst h <;> rcases ht with h | h | h | h | h | h | h <;> subst h <;> exact kit_ty (by decide +kernel)
theorem sqt_ty {H : Hp} {K : PySem.W.Frag} {a : Addr} {vs : List V} (h : SqT K H a vs) : TyX K H (.ref a) (.type "tuple") := by
  rcases h with (h | ⟨o, h⟩) | ⟨o, its, n, h1, h2, _⟩
  · exact .base (.tup h)
  · exact .fTuple h
  · exact .kTuple h1 h2
theorem sqf_ty {H : Hp} {K : PySem.W.Frag} {a : Addr} {vs : List V} (h : SqF K H a vs) : TyX K H (.ref a) (.type "list") := by
  rcases h with ⟨o, h⟩ | ⟨o, its, n, h1, h2, _⟩
  · exact .base (.frz h)
  · exact .kList h1 h2
theorem tyName_rel {M0 : Addr → Prop} {m : List Addr} {H : Hp} {st : Sto} (rh : RH C M0 m H st) {v : V} {x : Va} {t : String} (rv : RV C H (Mx M0 m) m v x) (e : tyName st x = some t) :
    TyX C.K H v (.type t) ∧ (t = "NoneType" ∨ t = "bool" ∨ t = "int" ∨ t = "str" ∨ t = "list" ∨ t = "tuple" ∨ t = "dict") := by
  cases rv with
  | dat rd =>
    cases rd with
    | non => cases e; exact ⟨.base .non, by simp⟩
    | bl b => cases e; exact ⟨.base (.bl b), by simp⟩
    | int i => cases e; exact ⟨.base (.int i), by simp⟩
    | str z => cases e; exact ⟨.base (.str z), by simp⟩
    | lst h _ _ => cases e; exact ⟨.base (.lst h), by simp⟩
    | tup h _ => cases e; exact ⟨.base (.tup h), by simp⟩
  | @ref n a h =>
    have e' : (match st[n]? with | some (some (.lst _)) => some "list" | some (some (.dic _ _)) => some "dict" | _ => none) = some t := e
    split at e'
    · rename_i ys hy
      cases e'
      obtain ⟨b, hb, vs, hv, _⟩ := rh.ob n _ hy
      rw [h] at hb
      cases hb
      exact ⟨.base (.lst hv), by simp⟩
    · rename_i k ys hy
      cases e'
      obtain ⟨b, hb, ro⟩ := rh.ob n _ hy
      rw [h] at hb
      cases hb
      cases k with
      | false => obtain ⟨ks, hk, _⟩ := ro; exact ⟨.base (.dK hk), by simp⟩
      | true => obtain ⟨ks, hk, _⟩ := ro; exact ⟨.base (.dT hk), by simp⟩
    · cases e'
  | lst h _ _ => cases e; exact ⟨.base (.lst h), by simp⟩
  | frz h _ => cases e; exact ⟨sqf_ty h, by simp⟩
  | tup h _ => cases e; exact ⟨sqt_ty h, by simp⟩
  | fn _ => cases e
theorem fe_isi {e : Expr} {ce : CE} {T : String} {p p2 pos : Pos} {x : Str} (hT : askTy T = true) (hK : X.K = C.K) (he : PE X e (tE C W ce)) (hg : Gl X "isinstance") (hm : X.mg "isinstance" = none) (hgT : Gl X x) (hmT : X.mg x = none) (hv : bootBuiltins x = some (.type T)) (hn : x ≠ "__name__" := by decide) (hd : (x == ("__debug__" : Str)) = false := by decide)
    (hs : starEach [e, .Name x p2] X.env = (false, eval e X.env) :: starEach [.Name x p2] X.env := by rfl) (hs2 : starEach [.Name x p2] X.env = (false, eval (.Name x p2) X.env) :: starEach [] X.env := by rfl) (hpl : (backTo pos (starEach [.Name x p2] X.env)).any (·.1) = false := by rfl) :
    PE X (.Call (.Name "isinstance" p) [e, .Name x p2] [] pos) (tE C W (dUn (isiV T) ce)) :=
  PE.imp (pe_callB (call_isi (X := X)) hg hm (by decide +kernel) (pa_cons he (pa_cons (pe_bltn hgT hmT hv (v := .ty T) rfl hn hd) pa_nil hs2) hs) (by decide) (by decide) hs hpl) fun s H Q h =>
    tG.bind (R := relV) (k := fun x _ st => isiV T x st) h fun M0 m ev st x v H1 rh re rv fin => by
      show rIsi X.K [v, .ty T] H1 Q
      unfold isiV at fin
      split at fin
      · rename_i t ht
        obtain ⟨ty, hk⟩ := tyName_rel rh rv ht
        rw [hK]
        exact ⟨v, .ty T, .type t, .type T, subTy t T, rfl, .ty T, ty, kit_all hT hk, FinG.out (R := relV C M0) fin rh (.dat (.bl _))⟩
      · exact fin.elim

/-! ### in -/
/-- is x among the things of y? -/
def inB (x y : Va) (st : Sto) : Option Bool := match y with
  | .dat (.str s) => (match x with
    | .dat (.str c) => some (!(Builtin.Str.occurrences s c 0 s.length 1).isEmpty)
    | _ => none)
  | _ => (match dicOf st y with
    | some (t, kvs) => (isKey t x).map fun k => (dget kvs k).isSome
    | none => (match rdD 8 st x, rdD 8 st y with
      | some d, some (.list ds) => if (SeqAt.shaped d && SeqAt.shaped (.list ds)) = true then some (ds.any fun z => PyData.eqv z d) else none
      | some d, some (.tuple ds) => if (SeqAt.shaped d && SeqAt.shaped (.list ds)) = true then some (ds.any fun z => PyData.eqv z d) else none
      | _, _ => none))
def inV (x y : Va) (st : Sto) : Rs Va := match inB x y st with
  | some b => oB b st
  | none => .bad
def notInV (x y : Va) (st : Sto) : Rs Va := match inB x y st with
  | some b => oB (!b) st
  | none => .bad
/-- what the rules of in ask, the answer b -/
def rInK (K : PySem.W.Frag) (x y : V) (H : Hp) (b : Bool) : Prop :=
  (∃ i j, x = .str i ∧ y = .str j ∧ b = !(Builtin.Str.occurrences j i 0 j.length 1).isEmpty) ∨ (∃ a o, y = .ref a ∧ DGet H a x o ∧ b = o.isSome) ∨
  (∃ d ds, Dp K H x d ∧ Dp K H y (.list ds) ∧ SeqAt.shaped d = true ∧ SeqAt.shaped (.list ds) = true ∧ b = ds.any fun z => PyData.eqv z d) ∨
  (∃ d ds, Dp K H x d ∧ Dp K H y (.tuple ds) ∧ SeqAt.shaped d = true ∧ SeqAt.shaped (.list ds) = true ∧ b = ds.any fun z => PyData.eqv z d)
theorem op_inX (hu : X.A.units + 65 < cLine) (hK : X.K = C.K := by rfl) : OpR X (compareOp .In) (fun x y H Q => ∃ b, rInK C.K x y H b ∧ Q (.bl b) H) := by
  rw [← hK]
  intro pins s σ H x y v u Q I rx ry h
  obtain ⟨b, h | h | h | h, q⟩ := h
  · obtain ⟨i, j, e1, e2, rfl⟩ := h
    exact op_in_str pins s σ H x y v u Q I rx ry ⟨i, j, e1, e2, q⟩
  · obtain ⟨a, o, rfl, g, rfl⟩ := h
    cases ry
    exact d_in (by omega) I g rx fun s' I' => ⟨.bl _, H, I', rfl, q⟩
  · obtain ⟨d, ds, h1, h2, h3, h4, rfl⟩ := h
    exact op_inD hu pins s σ H x y v u Q I rx ry ⟨d, ds, h1, h2, h3, h4, q⟩
  · obtain ⟨d, ds, hd, he, sd, se, rfl⟩ := h
    obtain ⟨as, r1⟩ := Dp.reads I d x v hd rx
    obtain ⟨bs, r2⟩ := Dp.reads I (.tuple ds) y u he ry
    exact SeqAt.in_tuple_reads r2 r1 (SeqAt.canLay_of_shaped se) (SeqAt.canLay_of_shaped sd) (room_in_shaped sd hu) ⟨.bl _, H, I, rfl, q⟩
theorem op_notInX (hu : X.A.units + 65 < cLine) (hK : X.K = C.K := by rfl) : OpR X (compareOp .NotIn) (fun x y H Q => ∃ b, rInK C.K x y H b ∧ Q (.bl (!b)) H) := by
  rw [← hK]
  intro pins s σ H x y v u Q I rx ry h
  obtain ⟨b, h | h | h | h, q⟩ := h
  · obtain ⟨i, j, e1, e2, rfl⟩ := h
    exact op_notIn_str pins s σ H x y v u Q I rx ry ⟨i, j, e1, e2, q⟩
  · obtain ⟨a, o, rfl, g, rfl⟩ := h
    cases ry
    exact d_notIn (by omega) I g rx fun s' I' => ⟨.bl _, H, I', rfl, q⟩
  · obtain ⟨d, ds, h1, h2, h3, h4, rfl⟩ := h
    exact op_notInD hu pins s σ H x y v u Q I rx ry ⟨d, ds, h1, h2, h3, h4, q⟩
  · obtain ⟨d, ds, hd, he, sd, se, rfl⟩ := h
    obtain ⟨as, r1⟩ := Dp.reads I d x v hd rx
    obtain ⟨bs, r2⟩ := Dp.reads I (.tuple ds) y u he ry
    exact SeqAt.notIn_tuple_reads r2 r1 (SeqAt.canLay_of_shaped se) (SeqAt.canLay_of_shaped sd) (room_in_shaped sd hu) ⟨.bl _, H, I, rfl, q⟩
theorem inB_rel {M0 : Addr → Prop} {m : List Addr} {H : Hp} {st : Sto} (rh : RH C M0 m H st) {v u : V} {x y : Va} {b : Bool} (rx : RV C H (Mx M0 m) m v x) (ry : RV C H (Mx M0 m) m u y) (e : inB x y st = some b) : rInK C.K v u H b := by
  unfold inB at e
  split at e
  · split at e
    · cases e
      exact .inl ⟨_, _, rx.str_inv, ry.str_inv, rfl⟩
    · cases e
  · split at e
    · rename_i t kvs hd
      obtain ⟨k, hk, e2⟩ := Option.map_eq_some_iff.mp e
      subst e2
      obtain ⟨n, a, rfl, rfl, hn, _, ro⟩ := dic_at rh ry hd
      obtain ⟨o, g, h | ⟨w, z, h1, h2, h3⟩⟩ := dget_rel ro rx hk
      · exact .inr (.inl ⟨a, o, rfl, g, by rw [h.1, h.2]; rfl⟩)
      · exact .inr (.inl ⟨a, o, rfl, g, by rw [h1, h2]; rfl⟩)
    · split at e
      · rename_i d ds h1 h2
        split at e
        · rename_i hs
          cases e
          obtain ⟨s1, s2⟩ := Bool.and_eq_true_iff.mp hs
          exact .inr (.inr (.inl ⟨d, ds, rdD_dp rh 8 _ _ _ rx h1, rdD_dp rh 8 _ _ _ ry h2, s1, s2, rfl⟩))
        · cases e
      · rename_i d ds h1 h2
        split at e
        · rename_i hs
          cases e
          obtain ⟨s1, s2⟩ := Bool.and_eq_true_iff.mp hs
          exact .inr (.inr (.inr ⟨d, ds, rdD_dp rh 8 _ _ _ rx h1, rdD_dp rh 8 _ _ _ ry h2, s1, s2, rfl⟩))
        · cases e
      · cases e
theorem os_in : OpS C (fun x y H Q => ∃ b, rInK C.K x y H b ∧ Q (.bl b) H) inV := by
  intro M0 m H st v u x y E Q rh rx ry fin
  unfold inV at fin
  split at fin
  · rename_i b hb
    exact ⟨b, inB_rel rh rx ry hb, FinG.out (R := relV C M0) fin rh (.dat (.bl _))⟩
  · exact fin.elim
theorem os_notIn : OpS C (fun x y H Q => ∃ b, rInK C.K x y H b ∧ Q (.bl (!b)) H) notInV := by
  intro M0 m H st v u x y E Q rh rx ry fin
  unfold notInV at fin
  split at fin
  · rename_i b hb
    exact ⟨b, inB_rel rh rx ry hb, FinG.out (R := relV C M0) fin rh (.dat (.bl _))⟩
  · exact fin.elim
end
end Sk

/-! Sk, part 9: statements, targets. -/
namespace Sk
open PySem PySem.Spec PyProof.Rows L2
/-- how a statement ends -/
inductive Fl where
  | nx (e : Ev) | bk (e : Ev) | ct (e : Ev) | rt (x : Va)
abbrev CS := Ev → Sto → Rs Fl
def FinS (C : Cfg) (M0 : Addr → Prop) (m : List Addr) (H : Hp) (W : WX) (r : Rs Fl) (D : Ends) : Prop :=
  match r with
  | .ok (.nx ev) st => ∀ s m' H', Go m H m' H' → RH C M0 m' H' st → RE C H' M0 m' s ev → D.nx s H'
  | .ok (.bk ev) st => ∀ s m' H', Go m H m' H' → RH C M0 m' H' st → RE C H' M0 m' s ev → D.bk s H'
  | .ok (.ct ev) st => ∀ s m' H', Go m H m' H' → RH C M0 m' H' st → RE C H' M0 m' s ev → D.ct s H'
  | .ok (.rt x) st => ∀ v m' H', Go m H m' H' → RH C M0 m' H' st → RV C H' (Mx M0 m') m' v x → D.rt v H'
  | .err e st => ∀ s c d m' H', Go m H m' H' → RH C M0 m' H' st → REx C H' (Mx M0 m') e c d → W c d s H'
  | .bad => False
def tS (C : Cfg) (W : WX) (c : CS) : TS := fun D s H => ∃ M0 m ev st, RH C M0 m H st ∧ RE C H M0 m s ev ∧ FinS C M0 m H W (c ev st) D
section
variable {C : Cfg} {M0 : Addr → Prop} {m m1 : List Addr} {H H1 : Hp} {W : WX} {D D' : Ends} {r : Rs Fl}
theorem FinS.rebase (h : FinS C M0 m H W r D) (g : Go m H m1 H1) : FinS C M0 m1 H1 W r D := by
  cases r with
  | ok x st =>
    cases x with
    | nx ev => exact fun s m' H' g' rh q => h s m' H' (g.trans g') rh q
    | bk ev => exact fun s m' H' g' rh q => h s m' H' (g.trans g') rh q
    | ct ev => exact fun s m' H' g' rh q => h s m' H' (g.trans g') rh q
    | rt x => exact fun s m' H' g' rh q => h s m' H' (g.trans g') rh q
  | err e st => exact fun s c d m' H' g' rh q => h s c d m' H' (g.trans g') rh q
  | bad => exact h
/-- an expression's end, then k -/
theorem FinS.bind {a b : Type} {R : Hp → List Addr → b → a → Prop} {q : Rs a} {k : a → Sto → Rs Fl} {s : L2.St} (h : FinS C M0 m H W (q.bind k) D) :
    FinG R C M0 m H (WE W s) q (fun y H1 => ∃ m1 st1 x, Go m H m1 H1 ∧ RH C M0 m1 H1 st1 ∧ R H1 m1 y x ∧ FinS C M0 m1 H1 W (k x st1) D) := by
  cases q with
  | ok x st => exact fun y m' H' g' rh q => ⟨m', st, x, g', rh, q, FinS.rebase h g'⟩
  | err e st => exact fun c d m' H' g' rh q => h s c d m' H' g' rh q
  | bad => exact h
end
section
variable {X : Cx} {C : Cfg} {W : WX} {pos : Pos}
theorem PS.imp {e : Stmt} {t t' : TS} (h : PS X e t) (i : ∀ D s H, t' D s H → t D s H) : PS X e t' := ⟨fun pins s σ H D I q => h.run pins s σ H D I (i _ _ _ q)⟩
theorem PSs.imp {e : List Stmt} {t t' : TS} (h : PSs X e t) (i : ∀ D s H, t' D s H → t D s H) : PSs X e t' := ⟨fun pins s σ H D I q => h.run pins s σ H D I (i _ _ _ q)⟩
/-- a statement's reading taken apart -/
theorem tS.bind {a b : Type} {R : Cfg → (Addr → Prop) → Hp → List Addr → b → a → Prop} {f : Ev → Sto → Rs a} {k : a → Ev → Sto → Rs Fl} {D : Ends} {P : b → Hp → Prop} {s : L2.St} {H : Hp} (h : tS C W (fun ev st => (f ev st).bind fun x st1 => k x ev st1) D s H)
    (n : ∀ M0 m ev st x y H1, RH C M0 m H1 st → RE C H1 M0 m s ev → R C M0 H1 m y x → FinS C M0 m H1 W (k x ev st) D → P y H1) : tG R C W f s H P := by
  obtain ⟨M0, m, ev, st, rh, re, fin⟩ := h
  refine ⟨M0, m, ev, st, rh, re, (FinS.bind (R := R C M0) fin).mono fun y H1 q => ?_⟩
  obtain ⟨m1, st1, x, g, rh1, rx, fin1⟩ := q
  exact n M0 m1 ev st1 x y H1 rh1 (re.go g rh.mu) rx fin1
def dSkip : CS := fun ev st => .ok (.nx ev) st
def dSeq (a b : CS) : CS := fun ev st => (a ev st).bind fun f st1 => match f with
  | .nx ev1 => b ev1 st1
  | .bk ev1 => .ok (.bk ev1) st1
  | .ct ev1 => .ok (.ct ev1) st1
  | .rt x => .ok (.rt x) st1
variable {st0 : Stmt} {rest : List Stmt} {ca cb : CS}
theorem fss_nil : PSs X [] (tS C W dSkip) := PSs.imp pss_nil fun D s H ⟨M0, m, ev, st, rh, re, fin⟩ => fin s m H (Go.refl m H) rh re
theorem fss_one (h : PS X st0 (tS C W ca)) : PSs X [st0] (tS C W ca) := pss_one h
theorem fss_cons (h1 : PS X st0 (tS C W ca)) (h2 : PSs X rest (tS C W cb)) : PSs X (st0 :: rest) (tS C W (dSeq ca cb)) :=
  PSs.imp (pss_cons h1 h2) fun D s H ⟨M0, m, ev, st, rh, re, fin⟩ => by
    refine ⟨M0, m, ev, st, rh, re, ?_⟩
    have fin : FinS C M0 m H W ((ca ev st).bind _) D := fin
    cases e : ca ev st with
    | ok f st1 =>
      rw [e] at fin
      cases f with
      | nx ev1 => exact fun s' m' H' g rh' re' => ⟨M0, m', ev1, st1, rh', re', FinS.rebase fin g⟩
      | bk ev1 => exact fin
      | ct ev1 => exact fin
      | rt x => exact fin
    | err x st1 => rw [e] at fin; exact fin
    | bad => rw [e] at fin; exact fin
theorem fs_pass : PS X (.Pass pos) (tS C W dSkip) := PS.imp ps_pass fun D s H ⟨M0, m, ev, st, rh, re, fin⟩ => fin s m H (Go.refl m H) rh re
def dBreak : CS := fun ev st => .ok (.bk ev) st
def dCont : CS := fun ev st => .ok (.ct ev) st
theorem fs_break : PS X (.Break pos) (tS C W dBreak) := PS.imp ps_break fun D s H ⟨M0, m, ev, st, rh, re, fin⟩ => fin s m H (Go.refl m H) rh re
theorem fs_cont : PS X (.Continue pos) (tS C W dCont) := PS.imp ps_continue fun D s H ⟨M0, m, ev, st, rh, re, fin⟩ => fin s m H (Go.refl m H) rh re
variable {e c : Expr} {ce : CE} {cc : CB}
def dRet (a : CE) : CS := fun ev st => (a ev st).bind fun x st1 => .ok (.rt x) st1
theorem fs_ret (h : PE X e (tE C W ce)) : PS X (.Return (some e) pos) (tS C W (dRet ce)) :=
  PS.imp (ps_ret h) fun D s H h => tS.bind (R := relV) (k := fun x ev st1 => .ok (.rt x) st1) h fun M0 m ev st x v H1 rh re rv fin => fin v m H1 (Go.refl _ _) rh rv
def dDo (a : CE) : CS := fun ev st => (a ev st).bind fun _ st1 => .ok (.nx ev) st1
theorem fs_expr (h : PE X e (tE C W ce)) (hs : swapsWith e none pos.line X.env = pure false := by rfl) : PS X (.Expr e pos) (tS C W (dDo ce)) :=
  PS.imp (ps_expr h hs) fun D s H h => tS.bind (R := relV) (k := fun x ev st1 => .ok (.nx ev) st1) h fun M0 m ev st x v H1 rh re rv fin => fin s m H1 (Go.refl _ _) rh re
def dIfS (c : CB) (a b : CS) : CS := fun ev st => (c ev st).bind fun k st1 => if k = true then a ev st1 else b ev st1
theorem fs_if {a b : List Stmt} (hc : PT X c (tT C W cc)) (ha : PSs X a (tS C W ca)) (hb : PSs X b (tS C W cb)) : PS X (.If c a b pos) (tS C W (dIfS cc ca cb)) :=
  PS.imp (ps_if hc ha hb) fun D s H h => tS.bind (R := fun _ _ => relB) (k := fun k ev st1 => if k = true then ca ev st1 else cb ev st1) h fun M0 m ev st x y H1 rh re rv fin => by
    have e0 : y = x := rv
    subst e0
    cases y with
    | true => exact ite_tt ⟨M0, m, ev, st, rh, re, fin⟩
    | false => exact ite_ff ⟨M0, m, ev, st, rh, re, fin⟩

/-! ### targets -/
abbrev CT := Va → Ev → Sto → Rs Ev
abbrev CTs := List Va → Ev → Sto → Rs Ev
abbrev relE (C : Cfg) (M0 : Addr → Prop) : Hp → List Addr → L2.St → Ev → Prop := fun H m s ev => RE C H M0 m s ev
def tTg (C : Cfg) (W : WX) (c : CT) : TG := fun v s H Q => ∃ M0 m ev st x, RH C M0 m H st ∧ RE C H M0 m s ev ∧ RV C H (Mx M0 m) m v x ∧ FinG (relE C M0) C M0 m H (WE W s) (c x ev st) Q
def tTgs (C : Cfg) (W : WX) (c : CTs) : TGs := fun v s H Q => ∃ M0 m ev st x, RH C M0 m H st ∧ RE C H M0 m s ev ∧ RVs C H (Mx M0 m) m v x ∧ FinG (relE C M0) C M0 m H (WE W s) (c x ev st) Q
theorem PG.imp {e : Expr} {t t' : TG} (h : PG X e t) (i : ∀ v s H Q, t' v s H Q → t v s H Q) : PG X e t' := ⟨fun pins s σ H v u Q I r q => h.run pins s σ H v u Q I r (i _ _ _ _ q)⟩
theorem PGs.imp {e : List Expr} {t t' : TGs} (h : PGs X e t) (i : ∀ v s H Q, t' v s H Q → t v s H Q) : PGs X e t' := ⟨fun pins s σ H v u Q I r q => h.run pins s σ H v u Q I r (i _ _ _ _ q)⟩
def gN (i : Nat) : CT := fun x ev st => .ok (ev.set i (some x)) st
theorem fg_name {i : Nat} {x : Str} (hN : X.N.Nodup) (hi : X.N[i]? = some x) (hx : Loc X.env.scope x) (hf : X.fn x = true ∨ X.env.scope.names.lookup x = some .local := by first | exact .inl rfl | exact .inr rfl | assumption) : PG X (.Name x pos) (tTg C W (gN i)) :=
  PG.imp (pg_name hN hi hx hf) fun v s H Q ⟨M0, m, ev, st, x, rh, re, rv, fin⟩ => fin _ m H (Go.refl _ _) rh (re.set i rv)
def gsNil : CTs := fun xs ev st => match xs with
  | [] => .ok ev st
  | _ => .bad
def gsCons (t : CT) (u : CTs) : CTs := fun xs ev st => match xs with
  | x :: r => (t x ev st).bind fun ev1 st1 => u r ev1 st1
  | _ => .bad
theorem fgs_nil : PGs X [] (tTgs C W gsNil) := PGs.imp pgs_nil fun v s H Q ⟨M0, m, ev, st, xs, rh, re, rv, fin⟩ => by
  cases rv with
  | nil => exact ⟨rfl, fin s m H (Go.refl _ _) rh re⟩
  | cons _ _ => exact fin.elim
/-- the wish of an exception that does not hang on the slots -/
def Flat (W : WX) : Prop := ∀ c d s s' H, W c d s H → W c d s' H
theorem fgs_cons {e : Expr} {es : List Expr} {t : CT} {u : CTs} (hW : Flat W) (h1 : PG X e (tTg C W t)) (h2 : PGs X es (tTgs C W u))
    (hs : (assignEach (e :: es) X.env).map (·.2) = assign e X.env :: (assignEach es X.env).map (·.2) := by rfl) : PGs X (e :: es) (tTgs C W (gsCons t u)) :=
  PGs.imp (pgs_cons h1 h2 hs) fun v s H Q ⟨M0, m, ev, st, xs, rh, re, rv, fin⟩ => by
    cases rv with
    | nil => exact fin.elim
    | cons a r =>
      refine ⟨_, _, rfl, M0, m, ev, st, _, rh, re, a, ?_⟩
      have fin : FinG (relE C M0) C M0 m H (WE W s) ((t _ ev st).bind _) Q := fin
      refine (FinG.bind (R := relE C M0) fin).mono fun s1 H1 ⟨m1, st1, ev1, g, rh1, re1, fin1⟩ => ?_
      refine ⟨M0, m1, ev1, st1, _, rh1, re1, r.go g rh.mu, ?_⟩
      generalize hq : u _ ev1 st1 = q at fin1 ⊢
      cases q with
      | ok x st2 => exact fin1
      | err x st2 => exact fun c d m' H' g' rh' q' => hW _ _ _ _ _ (fin1 c d m' H' g' rh' q')
      | bad => exact fin1
/-- (a, b, ..) = a tuple of that length -/
def gTp (n : Nat) (u : CTs) : CT := fun x ev st => match seqOf st x with
  | some (true, xs) => if (xs.length == n) = true then u xs ev st else .bad
  | _ => .bad
theorem fg_tup {es : List Expr} {k n : Nat} {u : CTs} (hK : X.K = C.K) (hc : X.calm = true) (h : PGs X es (tTgs C W u)) (hn : (assignEach es X.env).length = n := by rfl) (hst : (assignEach es X.env).findIdx? (·.1) = none := by rfl) : PG X (.Tuple es k pos) (tTg C W (gTp n u)) :=
  PG.imp (pg_tup hc h hn hst) fun v s H Q ⟨M0, m, ev, st, x, rh, re, rv, fin⟩ => by
    unfold gTp at fin
    split at fin
    · rename_i xs hs
      obtain ⟨hl, fin⟩ := Fin.ifGo fin
      obtain ⟨a, vs, rfl, rs, sq⟩ := seqOf_rel rh rv hs
      exact ⟨a, vs, rfl, by rw [hK]; exact sq, by rw [rs.len]; exact eq_of_beq hl, M0, m, ev, st, xs, rh, re, rs, fin⟩
    · exact fin.elim
/-- x = e, and any other target -/
def dAsg (a : CE) (t : CT) : CS := fun ev st => (a ev st).bind fun x st1 => (t x ev st1).bind fun ev1 st2 => .ok (.nx ev1) st2
theorem tAsg_of {t : CT} (D : Ends) (s : L2.St) (H : Hp) (h : tS C W (dAsg ce t) D s H) : tAsg (tE C W ce) (tTg C W t) D s H :=
  tS.bind (R := relV) (k := fun x ev st1 => (t x ev st1).bind fun ev1 st2 => .ok (.nx ev1) st2) h fun M0 m ev st x v H1 rh re rv fin => by
    refine ⟨M0, m, ev, st, x, rh, re, rv, (FinS.bind (R := relE C M0) fin).mono fun s1 H2 ⟨m1, st1, ev1, g, rh1, re1, fin1⟩ => ?_⟩
    exact fin1 s1 m1 H2 (Go.refl _ _) rh1 re1
theorem fs_asg {tg : Expr} {t : CT} (he : PE X e (tE C W ce)) (hg : PG X tg (tTg C W t)) (hs : swapsWithSole [tg] e pos.line X.env = pure false := by rfl) (hw : swappedStores [tg] e X.env = pure none := by rfl)
    (h1 : (assignEach [tg] X.env).map (·.2) = [assign tg X.env] := by rfl) : PS X (.Assign [tg] e pos) (tS C W (dAsg ce t)) := PS.imp (ps_asg he hg hs hw h1) tAsg_of
theorem fs_set {i : Nat} {x : Str} {pos' : Pos} (hN : X.N.Nodup) (hi : X.N[i]? = some x) (hx : Loc X.env.scope x) (he : PE X e (tE C W ce)) (hs : swapsWith e (some (.Name x pos')) pos.line X.env = pure false := by rfl) (hf : X.fn x = true ∨ X.env.scope.names.lookup x = some .local := by first | exact .inl rfl | exact .inr rfl | assumption) :
    PS X (.Assign [.Name x pos'] e pos) (tS C W (dAsg ce (gN i))) :=
  PS.imp (ps_set hN hi hx he hs hf) fun D s H h => tS.bind (R := relV) (k := fun x ev st1 => (gN i x ev st1).bind fun ev1 st2 => .ok (.nx ev1) st2) h fun M0 m ev st x v H1 rh re rv fin => fin _ m H1 (Go.refl _ _) rh (re.set i rv)
/-- a, b = e1, e2 -/
def dPar (i j : Nat) (c : CA) : CS := fun ev st => (c ev st).bind fun xs st1 => match xs with
  | [x, y] => .ok (.nx ((ev.set i (some x)).set j (some y))) st1
  | _ => .bad
theorem fs_par {i j : Nat} {x y : Str} {a b : Expr} {cs : CA} {px py pt : Pos} {kt k2 : Nat} {pt2 : Pos} (hc : X.calm = true) (hN : X.N.Nodup) (hi : X.N[i]? = some x) (hj : X.N[j]? = some y) (hij : i ≠ j)
    (hx : X.env.scope.names.lookup x = some .local) (hy : X.env.scope.names.lookup y = some .local) (ha : PA X [a, b] (tA C W cs))
    (hw : swappedStores [.Tuple [.Name x px, .Name y py] kt pt] (.Tuple [a, b] k2 pt2) X.env = pure (some [x, y]))
    (hs : swapsWithSole [.Tuple [.Name x px, .Name y py] kt pt] (.Tuple [a, b] k2 pt2) pos.line X.env = pure false := by rfl) :
    PS X (.Assign [.Tuple [.Name x px, .Name y py] kt pt] (.Tuple [a, b] k2 pt2) pos) (tS C W (dPar i j cs)) :=
  PS.imp (ps_par hc hN hi hj hij hx hy ha hw hs) fun D s H h => tS.bind (R := relVs) (k := fun xs ev st1 => match xs with
    | [x, y] => .ok (.nx ((ev.set i (some x)).set j (some y))) st1
    | _ => .bad) h fun M0 m ev st xs vs H1 rh re rv fin => by
    split at fin
    · obtain ⟨v, u, rfl, r1, r2⟩ := rv.two
      exact ⟨v, u, rfl, fin _ m H1 (Go.refl _ _) rh ((re.set i r1).set j r2)⟩
    · exact fin.elim
def dPar3 (i j l : Nat) (c : CA) : CS := fun ev st => (c ev st).bind fun xs st1 => match xs with
  | [x, y, z] => .ok (.nx (((ev.set i (some x)).set j (some y)).set l (some z))) st1
  | _ => .bad
/-! ### o[i] = e -/
def setV (o i v : Va) (st : Sto) : Rs Unit := match o with
  | .ref n => (match st[n]? with
    | some (some (.lst xs)) => (match i with
      | .dat (.int k) => (match ixN xs.length k with
        | some j => .ok () (st.set n (some (.lst (xs.set j v))))
        | none => .bad)
      | _ => .bad)
    | some (some (.dic t kvs)) => (match isKey t i with
      | some k => if few kvs.length = true then .ok () (st.set n (some (.dic t (dput kvs k v)))) else .bad
      | none => .bad)
    | _ => .bad)
  | _ => .bad
def rSetX : TSet := fun o i v H Q => rSetL o i v H Q ∨ ∃ a H', o = .ref a ∧ DPut H a i v H' ∧ Q H'
theorem set_x (hu : X.A.units + 1 < cLine) : PSet X rSetX := by
  intro pins s σ H o i v ov iv u Q I ro ri rv h
  rcases h with h | ⟨a, H', rfl, g, q⟩
  · exact set_list pins s σ H o i v ov iv u Q I ro ri rv h
  · cases ro
    exact d_setItem hu I g ri rv fun s' I' => ⟨H', I', q⟩
theorem setV_rel {M0 : Addr → Prop} {m : List Addr} {H : Hp} {st : Sto} {E : XK} {o i v : Va} {vo vi vv : V} {Q : Hp → Prop} (rh : RH C M0 m H st) (ro : RV C H (Mx M0 m) m vo o) (ri : RV C H (Mx M0 m) m vi i) (rv : RV C H (Mx M0 m) m vv v)
    (fin : FinG (fun _ _ _ _ => True) C M0 m H E (setV o i v st) (fun (_ : Unit) H => Q H)) : rSetX vo vi vv H Q := by
  unfold setV at fin
  split at fin
  · rename_i n
    cases ro with
    | @ref _ a hn =>
      have hm : a ∈ m := List.mem_of_getElem? hn
      split at fin
      · rename_i xs hx
        split at fin
        · rename_i k
          split at fin
          · rename_i j hj
            obtain ⟨b, hb, vs, hv, rs⟩ := rh.ob n _ hx
            rw [hn] at hb
            cases hb
            have g : Go m H m (upd H a (.lst (vs.set j vv))) := Go.write hm rh.mu
            exact .inl ⟨a, vs, k, j, rfl, ri.int_inv, hv, by rw [rs.len]; exact hj, fin () m _ g (rh.write hn trivial ⟨_, upd_same, (rs.set rv j).go g rh.mu⟩) trivial⟩
          · exact fin.elim
        · exact fin.elim
      · rename_i t kvs hx
        split at fin
        · rename_i k hk
          obtain ⟨hl, fin⟩ := Fin.ifGo fin
          obtain ⟨b, hb, ro⟩ := rh.ob n _ hx
          rw [hn] at hb
          cases hb
          obtain ⟨H', d, g, rh'⟩ := dput_rel rh hn ro ri rv hk hl
          exact .inr ⟨a, H', rfl, d, fin () m H' g rh' trivial⟩
        · exact fin.elim
      · exact fin.elim
  · exact fin.elim
def gSb (o i : CE) : CT := fun x ev st => (o ev st).bind fun y st1 => (i ev st1).bind fun z st2 => (setV y z x st2).bind fun _ st3 => .ok ev st3
theorem fg_sub {o i : Expr} {co ci : CE} (hu : X.A.units + 1 < cLine) (ho : PE X o (tE C W co)) (hi : PE X i (tE C W ci))
    (ha : ∀ v, assign (.Subscript o i pos) X.env v = (do
      let ov ← holding [v] (eval o X.env)
      let iv ← holding [v, ov] (eval i X.env)
      standAt pos
      holding [v, ov, iv] (setItem ov iv v)
      release [v, ov, iv] []) := by intro _; rfl) : PG X (.Subscript o i pos) (tTg C W (gSb co ci)) :=
  PG.imp (pg_sub ho hi (set_x hu) ha) fun v s H Q ⟨M0, m, ev, st, x, rh, re, rv, fin⟩ => by
    refine ⟨M0, m, ev, st, rh, re, (FinG.bind (R := relV C M0) fin).mono fun vo H1 ⟨m1, st1, y, g1, rh1, ro, fin1⟩ => ?_⟩
    have re1 := re.go g1 rh.mu
    refine ⟨M0, m1, ev, st1, rh1, re1, (FinG.bind (R := relV C M0) fin1).mono fun vi H2 ⟨m2, st2, z, g2, rh2, ri, fin2⟩ => ?_⟩
    have re2 := re1.go g2 rh1.mu
    refine setV_rel (E := WE W s) rh2 (ro.go g2 rh1.mu) ri ((rv.go g1 rh.mu).go g2 rh1.mu) ((FinG.bind (R := fun _ _ _ _ => True) fin2).mono fun _ H3 ⟨m3, st3, _, g3, rh3, _, fin3⟩ => ?_)
    exact FinG.out (R := relE C M0) fin3 rh3 (re2.go g3 rh2.mu)
/-! ### op= -/
def dAug (i : Nat) (f : Va → Va → Sto → Rs Va) (a : CE) : CS := fun ev st => match ev[i]? with
  | some (some x) => (a ev st).bind fun y st1 => (f x y st1).bind fun z st2 => .ok (.nx (ev.set i (some z))) st2
  | _ => .bad
theorem fs_aug {i : Nat} {x : Str} {op : Operator} {r : R2} {f : Va → Va → Sto → Rs Va} {pos' : Pos} (hN : X.N.Nodup) (hi : X.N[i]? = some x) (hx : Loc X.env.scope x) (he : PE X e (tE C W ce)) (ho : OpR X (inplaceOp op) r) (hs : OpS C r f) (hf : X.fn x = true ∨ X.env.scope.names.lookup x = some .local := by first | exact .inl rfl | exact .inr rfl | assumption) :
    PS X (.AugAssign (.Name x pos') op e pos) (tS C W (dAug i f ce)) :=
  PS.imp (ps_aug (ti := r) hN hi hx he (fun pins s σ H x y v u Q I r1 r2 h => ho pins s σ H x y v u Q I r1 r2 h) hf) fun D s H ⟨M0, m, ev, st, rh, re, fin⟩ => by
    unfold dAug at fin
    split at fin
    · rename_i x hx
      obtain ⟨v, hv, rv⟩ := re.vr i x hx
      refine ⟨v, hv, M0, m, ev, st, rh, re, (FinS.bind (R := relV C M0) fin).mono fun u H1 ⟨m1, st1, y, g1, rh1, ry, fin1⟩ => ?_⟩
      refine hs M0 m1 H1 st1 v u x y (WE W s) _ rh1 (rv.go g1 rh.mu) ry ((FinS.bind (R := relV C M0) fin1).mono fun w H2 ⟨m2, st2, z, g2, rh2, rz, fin2⟩ => ?_)
      exact fin2 _ m2 H2 (Go.refl _ _) rh2 (((re.go g1 rh.mu).go g2 rh1.mu).set i rz)
    · exact fin.elim
theorem get_x (hu : X.A.units + 1 < cLine) (hK : X.K = C.K) : PGet X (fun x y H Q => rIxL C.K x y H Q ∨ rIxDic x y H Q) := by
  rw [← hK]
  intro pins s σ H x y v u Q I rx ry h
  rcases h with h | ⟨a, w, rfl, g, q⟩
  · obtain ⟨p, xs, i, z, rfl, rfl, hq, he, q⟩ := h
    cases rx
    obtain ⟨t, rfl⟩ := ry
    obtain ⟨its, r, pl, hz⟩ := I.list hq
    obtain ⟨j, h1, h2, h3, h4, h5⟩ := atI_get he
    obtain ⟨w, ew, rw'⟩ := r.get h2
    have hl := r.length
    have hn := line63
    have fin : EP X pins σ Q w s := ⟨z, H, I, rw', q⟩
    by_cases h0 : 0 ≤ i
    · have hj : i.toNat = j := by
        rw [seqIndex_of h0 h5] at h1
        exact Option.some.inj h1
      exact wpAny_getItem_list pl.isList h0 (by omega) (by rw [hj]; simpa using ew) fin
    · have hj : (i + (its.toArray.size : Int)).toNat = j := by
        rw [seqIndex_neg (by omega) h4] at h1
        rw [List.size_toArray, ← hl]
        exact Option.some.inj h1
      exact wpAny_getItem_list_neg pl.isList (by omega) (by rw [List.size_toArray] <;> omega) (by omega) (by rw [hj]; simpa using ew) fin
  · cases rx
    exact d_getItem hu I g ry fun w' s' I' r' => ⟨w, H, I', r', q⟩
end
end Sk

/-! Sk, part 10: loops, comprehensions. -/
namespace Sk
open PySem PySem.Spec PyProof.Rows L2
section
variable {X : Cx} {C : Cfg} {W : WX} {pos : Pos} {e c : Expr} {ce : CE} {cc : CB}
/-! ### o[i] op= e -/
def getR (x y : Va) (st : Sto) : Rs Va := match x with
  | .ref _ => ixV x y st
  | _ => .bad
theorem os_getR : OpS C (fun x y H Q => rIxL C.K x y H Q ∨ rIxDic x y H Q) getR := by
  intro M0 m H st v u x y E Q rh rx ry fin
  unfold getR at fin
  split at fin
  · rename_i n
    unfold ixV at fin
    split at fin
    · rename_i t xs hs
      obtain ⟨a, vs, rfl, rs, sq⟩ := seqOf_rel rh rx hs
      split at fin
      · rename_i i
        split at fin
        · rename_i z hz
          obtain ⟨w, hw, rw'⟩ := rs.atI hz
          have q := FinG.out (R := relV C M0) fin rh rw'
          have et : t = false := by
            have e' : (match st[n]? with | some (some (.lst xs)) => some (false, xs) | _ => none) = some (t, xs) := hs
            split at e'
            · cases e'; rfl
            · cases e'
          subst et
          exact .inl ⟨a, vs, i, w, rfl, ry.int_inv, sq, hw, q⟩
        · exact fin.elim
      · exact fin.elim
    · split at fin
      · rename_i hz
        exact nomatch hz
      · split at fin
        · rename_i t kvs hd
          obtain ⟨n, a, _, rfl, hn, _, ro⟩ := dic_at rh rx hd
          split at fin
          · rename_i k hk
            obtain ⟨o, g, h | ⟨w, z, h1, h2, h3⟩⟩ := dget_rel ro ry hk
            · rw [h.2] at fin; exact fin.elim
            · rw [h2] at fin
              subst h1
              exact .inr ⟨a, w, rfl, g, FinG.out (R := relV C M0) fin rh h3⟩
          · exact fin.elim
        · exact fin.elim
  · exact fin.elim
def dAugS (f : Va → Va → Sto → Rs Va) (o i a : CE) : CS := fun ev st => (o ev st).bind fun y st1 => (i ev st1).bind fun z st2 => (getR y z st2).bind fun w st3 => (a ev st3).bind fun u st4 => (f w u st4).bind fun r st5 => (setV y z r st5).bind fun _ st6 => .ok (.nx ev) st6
theorem fs_augS {o i : Expr} {co ci : CE} {op : Operator} {r : R2} {f : Va → Va → Sto → Rs Va} {tpos : Pos} (hu : X.A.units + 1 < cLine) (hK : X.K = C.K) (ho : PE X o (tE C W co)) (hi : PE X i (tE C W ci)) (he : PE X e (tE C W ce)) (hp : OpR X (inplaceOp op) r) (hs : OpS C r f)
    (ha : ∀ ov iv new, augStore i ov iv new = (do holding [new, ov, iv] (setItem ov iv new); release [new, ov, iv] []; pure .next) := by intros; rfl) : PS X (.AugAssign (.Subscript o i tpos) op e pos) (tS C W (dAugS f co ci ce)) :=
  PS.imp (ps_augS (tip := r) ho hi (get_x hu hK) he (fun pins s σ H x y v u Q I r1 r2 h => hp pins s σ H x y v u Q I r1 r2 h) (set_x hu) ha) fun D s H ⟨M0, m, ev, st, rh, re, fin⟩ => by
    refine ⟨M0, m, ev, st, rh, re, (FinS.bind (R := relV C M0) fin).mono fun vo H1 ⟨m1, st1, y, g1, rh1, ro, fin1⟩ => ?_⟩
    have re1 := re.go g1 rh.mu
    refine ⟨M0, m1, ev, st1, rh1, re1, (FinS.bind (R := relV C M0) fin1).mono fun vi H2 ⟨m2, st2, z, g2, rh2, ri, fin2⟩ => ?_⟩
    have re2 := re1.go g2 rh1.mu
    have ro2 := ro.go g2 rh1.mu
    refine os_getR M0 m2 H2 st2 vo vi y z (WE W s) _ rh2 ro2 ri ((FinS.bind (R := relV C M0) fin2).mono fun w H3 ⟨m3, st3, x3, g3, rh3, r3, fin3⟩ => ?_)
    have re3 := re2.go g3 rh2.mu
    refine ⟨M0, m3, ev, st3, rh3, re3, (FinS.bind (R := relV C M0) fin3).mono fun u H4 ⟨m4, st4, x4, g4, rh4, r4, fin4⟩ => ?_⟩
    have re4 := re3.go g4 rh3.mu
    refine hs M0 m4 H4 st4 w u x3 x4 (WE W s) _ rh4 (r3.go g4 rh3.mu) r4 ((FinS.bind (R := relV C M0) fin4).mono fun q H5 ⟨m5, st5, x5, g5, rh5, r5, fin5⟩ => ?_)
    have re5 := re4.go g5 rh4.mu
    have up : ∀ {v : V} {x : Va}, RV C H2 (Mx M0 m2) m2 v x → RV C H5 (Mx M0 m5) m5 v x := fun h => ((h.go g3 rh2.mu).go g4 rh3.mu).go g5 rh4.mu
    refine setV_rel (E := WE W s) rh5 (up ro2) (up ri) r5 ((FinS.bind (R := fun _ _ _ _ => True) fin5).mono fun _ H6 ⟨m6, st6, _, g6, rh6, _, fin6⟩ => ?_)
    exact fin6 s m6 H6 (Go.refl _ _) rh6 (re5.go g6 rh5.mu)

/-! ### while -/
def whileS (c : CB) (b : CS) : Nat → CS
  | 0 => fun _ _ => .bad
  | n + 1 => fun ev st => (c ev st).bind fun k st1 => if k = true then (match b ev st1 with
      | .ok (.nx ev1) st2 => whileS c b n ev1 st2
      | .ok (.ct ev1) st2 => whileS c b n ev1 st2
      | .ok (.bk ev1) st2 => .ok (.nx ev1) st2
      | .ok (.rt x) st2 => .ok (.rt x) st2
      | .err x st2 => .err x st2
      | .bad => .bad) else .ok (.nx ev) st1
theorem fs_while {body : List Stmt} {b : CS} (n : Nat) (hp : PassesOwn (model X.prog X.w) X.A X.env X.xe) (hc : PT X c (tT C W cc)) (hb : PSs X body (tS C W b)) : PS X (.While c body [] pos) (tS C W (whileS cc b n)) :=
  PS.imp (ps_while hp hc hb) fun D s H ⟨M0, m, ev, st, rh, re, fin⟩ => by
    refine ⟨fun k s' H' => ∃ m' ev' st', RH C M0 m' H' st' ∧ RE C H' M0 m' s' ev' ∧ FinS C M0 m' H' W (whileS cc b k ev' st') D, ⟨n, m, ev, st, rh, re, fin⟩, ?_⟩
    rintro k s' H' ⟨m', ev', st', rh', re', fin'⟩
    cases k with
    | zero => exact fin'.elim
    | succ k =>
      refine ⟨M0, m', ev', st', rh', re', (FinS.bind (R := relB) (s := s') fin').mono fun y H1 ⟨m1, st1, x, g, rh1, rx, fin1⟩ => ?_⟩
      have e0 : y = x := rx
      subst e0
      have re1 := re'.go g rh'.mu
      cases y with
      | false => exact ite_ff (fin1 s' m1 H1 (Go.refl _ _) rh1 re1)
      | true =>
        refine ite_tt ⟨fun s2 H2 => ∃ m2 ev2 st2, RH C M0 m2 H2 st2 ∧ RE C H2 M0 m2 s2 ev2 ∧ FinS C M0 m2 H2 W (whileS cc b k ev2 st2) D, fun s2 H2 h => ⟨k, Nat.lt_succ_self k, h⟩, M0, m1, ev', st1, rh1, re1, ?_⟩
        have fin1 : FinS C M0 m1 H1 W (match b ev' st1 with
          | .ok (.nx ev1) st2 => whileS cc b k ev1 st2
          | .ok (.ct ev1) st2 => whileS cc b k ev1 st2
          | .ok (.bk ev1) st2 => .ok (.nx ev1) st2
          | .ok (.rt x) st2 => .ok (.rt x) st2
          | .err x st2 => .err x st2
          | .bad => .bad) D := fin1
        cases hb : b ev' st1 with
        | ok f st2 =>
          rw [hb] at fin1
          cases f with
          | nx ev2 => exact fun s2 m2 H2 g2 rh2 re2 => ⟨m2, ev2, st2, rh2, re2, FinS.rebase fin1 g2⟩
          | ct ev2 => exact fun s2 m2 H2 g2 rh2 re2 => ⟨m2, ev2, st2, rh2, re2, FinS.rebase fin1 g2⟩
          | bk ev2 => exact fin1
          | rt x => exact fin1
        | err x st2 => rw [hb] at fin1; exact fin1
        | bad => rw [hb] at fin1; exact fin1

/-! ### what is walked -/
/-- a list of the store that must stay while it is walked -/
abbrev Lk := Option (Nat × List Va)
def lkOk (l : Lk) (st : Sto) : Bool := match l with
  | none => true
  | some (n, xs) => decide (st[n]? = some (some (.lst xs)))
@[simp] theorem lkOk_none (st : Sto) : lkOk none st = true := rfl
abbrev CI := Ev → Sto → Rs (List Va × Lk)
/-- the items of a walk: at any later state, whatever else is protected then -/
def ItRel (C : Cfg) (M0 : Addr → Prop) (H0 : Hp) (m0 : List Addr) (J : It) (p : List Va × Lk) : Prop :=
  ∀ (M1 : Addr → Prop) (m : List Addr) (H : Hp) (st : Sto), Go m0 H0 m H → (∀ a, M1 a → M0 a ∨ H0 a = none) → RH C M1 m H st → lkOk p.2 st = true → ∀ i : Nat,
    (i < p.1.length → J.go i H ∧ ∀ x H', J.yld i H x H' → Same H H' ∧ ∃ y, p.1[i]? = some y ∧ RV C H' (Mx M1 m) m x y) ∧ (p.1.length ≤ i → J.stop i H)
abbrev relI (C : Cfg) (M0 : Addr → Prop) : Hp → List Addr → It → List Va × Lk → Prop := fun H m J p => ItRel C M0 H m J p
abbrev tI (C : Cfg) (W : WX) (c : CI) : TI := tG relI C W c
theorem PI.imp {tg it : Expr} {t t' : TI} (h : PI X tg it t) (i : ∀ s H Q, t' s H Q → t s H Q) : PI X tg it t' := ⟨fun pins s σ H R I q => h.run pins s σ H R I (i _ _ _ q)⟩
def forS (l : Lk) (b : Va → Ev → Sto → Rs Fl) : List Va → CS
  | [] => fun ev st => if lkOk l st = true then .ok (.nx ev) st else .bad
  | x :: r => fun ev st => if lkOk l st = true then (match b x ev st with
      | .ok (.nx ev1) st1 => forS l b r ev1 st1
      | .ok (.ct ev1) st1 => forS l b r ev1 st1
      | .ok (.bk ev1) st1 => .ok (.nx ev1) st1
      | .ok (.rt x) st1 => .ok (.rt x) st1
      | .err x st1 => .err x st1
      | .bad => .bad) else .bad
def dTurn (t : CT) (b : CS) (x : Va) : CS := fun ev st => (t x ev st).bind fun ev1 st1 => b ev1 st1
def dFor (it : CI) (t : CT) (b : CS) : CS := fun ev st => (it ev st).bind fun p st1 => forS p.2 (dTurn t b) p.1 ev st1
theorem FinS.ifGo {M0 : Addr → Prop} {m : List Addr} {H : Hp} {D : Ends} {k : Bool} {r : Rs Fl} (h : FinS C M0 m H W (if k = true then r else .bad) D) : k = true ∧ FinS C M0 m H W r D := by
  cases k with
  | true => exact ⟨rfl, h⟩
  | false => exact h.elim
theorem fs_for {tg iter : Expr} {body : List Stmt} {it : CI} {t : CT} {b : CS} (hW : Flat W) (hp : PassesOwn (model X.prog X.w) X.A X.env X.xe) (hc : X.calm = true) (hi : PI X tg iter (tI C W it)) (hg : PG X tg (tTg C W t)) (hb : PSs X body (tS C W b))
    (hs : ∀ x, foldedSetIterable iter X.env x = pure x := by intro _; rfl) : PS X (.For tg iter body [] pos) (tS C W (dFor it t b)) :=
  PS.imp (ps_for hp hc hi hg hb hs) fun D s H h => tS.bind (R := relI) (k := fun p ev st1 => forS p.2 (dTurn t b) p.1 ev st1) h fun M0 m ev st p J H1 rh re rj fin => by
    obtain ⟨items, l⟩ := p
    refine ⟨fun i k s' H' => k = items.length - i ∧ i ≤ items.length ∧ ∃ m' ev' st', Go m H1 m' H' ∧ RH C M0 m' H' st' ∧ RE C H' M0 m' s' ev' ∧ FinS C M0 m' H' W (forS l (dTurn t b) (items.drop i) ev' st') D,
      ⟨items.length, rfl, Nat.zero_le _, m, ev, st, Go.refl _ _, rh, re, fin⟩, ?_⟩
    rintro i k s' H' ⟨rfl, hi, m', ev', st', g', rh', re', fin'⟩
    by_cases hlt : i < items.length
    · rw [List.drop_eq_getElem_cons hlt] at fin'
      obtain ⟨hl, fin'⟩ := FinS.ifGo (show FinS C M0 m' H' W (if lkOk l st' = true then _ else .bad) D from fin')
      obtain ⟨go, yld⟩ := (rj M0 m' H' st' g' (fun a h => .inl h) rh' hl i).1 hlt
      refine .inr ⟨go, fun s2 H2 => ∃ m2 ev2 st2, Go m H1 m2 H2 ∧ RH C M0 m2 H2 st2 ∧ RE C H2 M0 m2 s2 ev2 ∧ FinS C M0 m2 H2 W (forS l (dTurn t b) (items.drop (i + 1)) ev2 st2) D, fun s2 H2 h => ⟨items.length - (i + 1), by omega, rfl, hlt, h⟩, fun x H3 hy => ?_⟩
      obtain ⟨sm, y, ey, ry⟩ := yld x H3 hy
      rw [List.getElem?_eq_getElem hlt] at ey
      cases ey
      have g3 : Go m' H' m' H3 := Go.same sm
      have rh3 := rh'.same sm
      have re3 := re'.go g3 rh'.mu
      refine ⟨M0, m', ev', st', items[i], rh3, re3, ry, ?_⟩
      have fin3 := FinS.rebase fin' g3
      clear fin'
      unfold dTurn at fin3
      cases ht : t items[i] ev' st' with
      | bad => rw [ht] at fin3; exact fin3.elim
      | err x st2 => rw [ht] at fin3; exact fun c d m4 H4 g4 rh4 q => fin3 s' c d m4 H4 g4 rh4 q
      | ok ev2 st2 =>
        rw [ht] at fin3
        intro s4 m4 H4 g4 rh4 re4
        refine ⟨M0, m4, ev2, st2, rh4, re4, ?_⟩
        have fin4 := FinS.rebase fin3 g4
        clear fin3
        have gg : Go m H1 m4 H4 := (g'.trans g3).trans g4
        cases hb : b ev2 st2 with
        | bad => simp only [Rs.bind_ok, hb] at fin4; exact fin4
        | err x st5 => simp only [Rs.bind_ok, hb] at fin4; exact fin4
        | ok f st5 =>
          simp only [Rs.bind_ok, hb] at fin4
          cases f with
          | nx ev5 => exact fun s5 m5 H5 g5 rh5 re5 => ⟨m5, ev5, st5, gg.trans g5, rh5, re5, FinS.rebase fin4 g5⟩
          | ct ev5 => exact fun s5 m5 H5 g5 rh5 re5 => ⟨m5, ev5, st5, gg.trans g5, rh5, re5, FinS.rebase fin4 g5⟩
          | bk ev5 => exact fin4
          | rt x => exact fin4
    · have ei : i = items.length := by omega
      subst ei
      rw [List.drop_length] at fin'
      obtain ⟨hl, fin'⟩ := FinS.ifGo (show FinS C M0 m' H' W (if lkOk l st' = true then _ else .bad) D from fin')
      exact .inl ⟨(rj M0 m' H' st' g' (fun a h => .inl h) rh' hl items.length).2 (Nat.le_refl _), fin' s' m' H' (Go.refl _ _) rh' re'⟩
end
end Sk

/-! Sk, part 11: sources of walks, comprehensions. -/
namespace Sk
open PySem PySem.Spec PyProof.Rows L2
/-! ### a later state in which more may be protected -/
section
variable {C : Cfg} {M0 M1 : Addr → Prop} {m m' : List Addr} {H H' : Hp}
theorem Go.nmxM (g : Go m H m' H') (hM : ∀ a, M1 a → M0 a ∨ H a = none) {a : Addr} {o : HO} (h : H a = some o) (n : ¬ Mx M0 m a) : ¬ Mx M1 m' a := fun z => by
  rcases z with z | z
  · rcases hM a z with y | y
    · exact n (.inl y)
    · rw [h] at y; cases y
  · have q := g.nw a z fun y => n (.inr y)
    rw [h] at q
    cases q
mutual
theorem RD.goM {K : PySem.W.Frag} (g : Go m H m' H') (mu : MutO H m) (hM : ∀ a, M1 a → M0 a ∨ H a = none) : ∀ {v : V} {d : PyData}, RD K H (Mx M0 m) v d → RD K H' (Mx M1 m') v d
  | _, _, .non => .non
  | _, _, .bl b => .bl b
  | _, _, .int i => .int i
  | _, _, .str x => .str x
  | _, _, .lst h n r => .lst (g.kp _ _ h (fun z => n (.inr z)) fun ps e => nomatch e) (g.nmxM hM h n) (RDs.goM g mu hM r)
  | _, _, .tup h r => .tup (g.tup mu h) (RDs.goM g mu hM r)
theorem RDs.goM {K : PySem.W.Frag} (g : Go m H m' H') (mu : MutO H m) (hM : ∀ a, M1 a → M0 a ∨ H a = none) : ∀ {vs : List V} {ds : List PyData}, RDs K H (Mx M0 m) vs ds → RDs K H' (Mx M1 m') vs ds
  | _, _, .nil => .nil
  | _, _, .cons a b => .cons (RD.goM g mu hM a) (RDs.goM g mu hM b)
end
mutual
theorem RV.goM (g : Go m H m' H') (mu : MutO H m) (hM : ∀ a, M1 a → M0 a ∨ H a = none) : ∀ {v : V} {x : Va}, RV C H (Mx M0 m) m v x → RV C H' (Mx M1 m') m' v x
  | _, _, .dat h => .dat (h.goM g mu hM)
  | _, _, .ref h => .ref (g.mem h)
  | _, _, .lst h n r => .lst (g.kp _ _ h (fun z => n (.inr z)) fun ps e => nomatch e) (g.nmxM hM h n) (RVs.goM g mu hM r)
  | _, _, .frz h r => .frz (g.sqf mu h) (RVs.goM g mu hM r)
  | _, _, .tup h r => .tup (g.sqt mu h) (RVs.goM g mu hM r)
  | _, _, .fn h => .fn h
theorem RVs.goM (g : Go m H m' H') (mu : MutO H m) (hM : ∀ a, M1 a → M0 a ∨ H a = none) : ∀ {vs : List V} {xs : List Va}, RVs C H (Mx M0 m) m vs xs → RVs C H' (Mx M1 m') m' vs xs
  | _, _, .nil => .nil
  | _, _, .cons a b => .cons (RV.goM g mu hM a) (RVs.goM g mu hM b)
end
theorem RE.goM {s : L2.St} {ev : Ev} (r : RE C H M0 m s ev) (g : Go m H m' H') (mu : MutO H m) (hM : ∀ a, M1 a → M0 a ∨ H a = none) : RE C H' M1 m' s ev := ⟨r.len, fun i x h => let ⟨v, e, q⟩ := r.vr i x h; ⟨v, e, q.goM g mu hM⟩⟩
theorem RO.goM {a : Addr} {o : Ob} (h : RO C H (Mx M0 m) m a o) (g : Go m H m' H') (mu : MutO H m) (hM : ∀ a, M1 a → M0 a ∨ H a = none) (e : H' a = H a) : RO C H' (Mx M1 m') m' a o := by
  cases o with
  | lst xs => obtain ⟨vs, q, r⟩ := h; exact ⟨vs, e.trans q, r.goM g mu hM⟩
  | dic t kvs =>
    cases t with
    | false => obtain ⟨ks, q, r⟩ := h; exact ⟨ks, e.trans q, Paired.mapP r fun _ _ z => ⟨z.1, z.2.goM g mu hM⟩⟩
    | true => obtain ⟨ks, q, r⟩ := h; exact ⟨ks, e.trans q, Paired.mapP r fun _ _ z => ⟨z.1, z.2.goM g mu hM⟩⟩
  | ins c fs => obtain ⟨A, dx, gs, ha, q, r⟩ := h; exact ⟨A, dx, gs, ha, e.trans q, Paired.mapP r fun _ _ z => ⟨z.1, z.2.goM g mu hM⟩⟩
/-- D is new and from now on protected -/
abbrev Pr (M0 : Addr → Prop) (D : Addr) : Addr → Prop := fun a => M0 a ∨ a = D
theorem RH.prot {st : Sto} (r : RH C M0 m H st) {D : Addr} {o : HO} (h : H D = none) : RH C (Pr M0 D) m (upd H D o) st := by
  have sm := same_new (o := o) h
  have hM : ∀ a, Pr M0 D a → M0 a ∨ H a = none := fun a z => z.elim .inl fun e => .inr (by rw [e]; exact h)
  refine ⟨fun a z => ?_, r.len, r.nd, fun a ha z => ?_, fun a ha => ?_, fun n ob hn => ?_, fun p hp => (r.tb p hp).same sm⟩
  · rcases z with z | z
    · obtain ⟨u, q⟩ := r.m0 a z
      exact ⟨u, sm _ _ q⟩
    · rw [z]; exact ⟨o, upd_same⟩
  · rcases z with z | z
    · exact r.dj a ha z
    · obtain ⟨u, q, _⟩ := r.mu a ha
      rw [z, h] at q; cases q
  · obtain ⟨u, q, w⟩ := r.mu a ha
    exact ⟨u, sm _ _ q, w⟩
  · obtain ⟨a, ha, ro⟩ := r.ob n ob hn
    obtain ⟨u, hu, _⟩ := ro.mut
    exact ⟨a, ha, ro.goM (Go.same sm) r.mu hM ((sm _ _ hu).trans hu.symm)⟩
mutual
theorem RD.less {K : PySem.W.Frag} {M M' : Addr → Prop} (h : ∀ a, M a → M' a) : ∀ {v : V} {d : PyData}, RD K H M' v d → RD K H M v d
  | _, _, .non => .non
  | _, _, .bl b => .bl b
  | _, _, .int i => .int i
  | _, _, .str x => .str x
  | _, _, .lst e n r => .lst e (fun z => n (h _ z)) (RDs.less h r)
  | _, _, .tup e r => .tup e (RDs.less h r)
theorem RDs.less {K : PySem.W.Frag} {M M' : Addr → Prop} (h : ∀ a, M a → M' a) : ∀ {vs : List V} {ds : List PyData}, RDs K H M' vs ds → RDs K H M vs ds
  | _, _, .nil => .nil
  | _, _, .cons a b => .cons (RD.less h a) (RDs.less h b)
end
mutual
theorem RV.less {M M' : Addr → Prop} (h : ∀ a, M a → M' a) : ∀ {v : V} {x : Va}, RV C H M' m v x → RV C H M m v x
  | _, _, .dat r => .dat (r.less h)
  | _, _, .ref e => .ref e
  | _, _, .lst e n r => .lst e (fun z => n (h _ z)) (RVs.less h r)
  | _, _, .frz e r => .frz e (RVs.less h r)
  | _, _, .tup e r => .tup e (RVs.less h r)
  | _, _, .fn e => .fn e
theorem RVs.less {M M' : Addr → Prop} (h : ∀ a, M a → M' a) : ∀ {vs : List V} {xs : List Va}, RVs C H M' m vs xs → RVs C H M m vs xs
  | _, _, .nil => .nil
  | _, _, .cons a b => .cons (RV.less h a) (RVs.less h b)
end
theorem RO.less {M M' : Addr → Prop} (h : ∀ a, M a → M' a) {a : Addr} {o : Ob} (r : RO C H M' m a o) : RO C H M m a o := by
  cases o with
  | lst xs => obtain ⟨vs, q, r⟩ := r; exact ⟨vs, q, r.less h⟩
  | dic t kvs =>
    cases t with
    | false => obtain ⟨ks, q, r⟩ := r; exact ⟨ks, q, Paired.mapP r fun _ _ z => ⟨z.1, z.2.less h⟩⟩
    | true => obtain ⟨ks, q, r⟩ := r; exact ⟨ks, q, Paired.mapP r fun _ _ z => ⟨z.1, z.2.less h⟩⟩
  | ins c fs => obtain ⟨A, dx, gs, ha, q, r⟩ := r; exact ⟨A, dx, gs, ha, q, Paired.mapP r fun _ _ z => ⟨z.1, z.2.less h⟩⟩
theorem RH.less {st : Sto} (r : RH C M1 m H st) (h : ∀ a, M0 a → M1 a) : RH C M0 m H st :=
  ⟨fun a z => r.m0 a (h a z), r.len, r.nd, fun a ha z => r.dj a ha (h a z), r.mu, fun n o hn => let ⟨a, ha, ro⟩ := r.ob n o hn; ⟨a, ha, ro.less fun b z => z.elim (fun y => .inl (h b y)) .inr⟩, r.tb⟩
theorem mx_less (h : ∀ a, M0 a → M1 a) : ∀ a, Mx M0 m a → Mx M1 m a := fun a z => z.elim (fun y => .inl (h a y)) .inr
end
/-! ### the protected list at D is written -/
section
variable {C : Cfg} {M : Addr → Prop} {m : List Addr} {H : Hp} {D : Addr} {acc : List V} {o : HO}
theorem ne_of_prot {a : Addr} (n : ¬ M a) (hM : M D) : a ≠ D := fun e => n (e ▸ hM)
mutual
theorem RD.putD {K : PySem.W.Frag} (hD : H D = some (.lst acc)) (hM : M D) : ∀ {v : V} {d : PyData}, RD K H M v d → RD K (upd H D o) M v d
  | _, _, .non => .non
  | _, _, .bl b => .bl b
  | _, _, .int i => .int i
  | _, _, .str x => .str x
  | _, _, .lst h n r => .lst ((upd_ne (ne_of_prot n hM)).trans h) n (RDs.putD hD hM r)
  | _, _, .tup h r => .tup ((upd_ne (ne_of h hD fun z => nomatch z)).trans h) (RDs.putD hD hM r)
theorem RDs.putD {K : PySem.W.Frag} (hD : H D = some (.lst acc)) (hM : M D) : ∀ {vs : List V} {ds : List PyData}, RDs K H M vs ds → RDs K (upd H D o) M vs ds
  | _, _, .nil => .nil
  | _, _, .cons a b => .cons (RD.putD hD hM a) (RDs.putD hD hM b)
end
theorem sqt_putD {K : PySem.W.Frag} {a : Addr} {vs : List V} (hD : H D = some (.lst acc)) (h : SqT K H a vs) : SqT K (upd H D o) a vs := by
  rcases h with (h | ⟨ob, h⟩) | h
  · exact .inl (.inl ((upd_ne (ne_of h hD fun z => nomatch z)).trans h))
  · exact .inl (.inr ⟨ob, (upd_ne (ne_of h hD fun z => nomatch z)).trans h⟩)
  · exact .inr h
theorem sqf_putD {K : PySem.W.Frag} {a : Addr} {vs : List V} (hD : H D = some (.lst acc)) (h : SqF K H a vs) : SqF K (upd H D o) a vs := by
  rcases h with ⟨ob, h⟩ | h
  · exact .inl ⟨ob, (upd_ne (ne_of h hD fun z => nomatch z)).trans h⟩
  · exact .inr h
mutual
theorem RV.putD (hD : H D = some (.lst acc)) (hM : M D) : ∀ {v : V} {x : Va}, RV C H M m v x → RV C (upd H D o) M m v x
  | _, _, .dat r => .dat (r.putD hD hM)
  | _, _, .ref e => .ref e
  | _, _, .lst h n r => .lst ((upd_ne (ne_of_prot n hM)).trans h) n (RVs.putD hD hM r)
  | _, _, .frz h r => .frz (sqf_putD hD h) (RVs.putD hD hM r)
  | _, _, .tup h r => .tup (sqt_putD hD h) (RVs.putD hD hM r)
  | _, _, .fn e => .fn e
theorem RVs.putD (hD : H D = some (.lst acc)) (hM : M D) : ∀ {vs : List V} {xs : List Va}, RVs C H M m vs xs → RVs C (upd H D o) M m vs xs
  | _, _, .nil => .nil
  | _, _, .cons a b => .cons (RV.putD hD hM a) (RVs.putD hD hM b)
end
theorem RO.putD {a : Addr} {ob : Ob} (hD : H D = some (.lst acc)) (hM : M D) (na : a ≠ D) (r : RO C H M m a ob) : RO C (upd H D o) M m a ob := by
  cases ob with
  | lst xs => obtain ⟨vs, q, r⟩ := r; exact ⟨vs, (upd_ne na).trans q, r.putD hD hM⟩
  | dic t kvs =>
    cases t with
    | false => obtain ⟨ks, q, r⟩ := r; exact ⟨ks, (upd_ne na).trans q, Paired.mapP r fun _ _ z => ⟨z.1, z.2.putD hD hM⟩⟩
    | true => obtain ⟨ks, q, r⟩ := r; exact ⟨ks, (upd_ne na).trans q, Paired.mapP r fun _ _ z => ⟨z.1, z.2.putD hD hM⟩⟩
  | ins c fs => obtain ⟨A, dx, gs, ha, q, r⟩ := r; exact ⟨A, dx, gs, ha, (upd_ne na).trans q, Paired.mapP r fun _ _ z => ⟨z.1, z.2.putD hD hM⟩⟩
theorem RH.putD {M1 : Addr → Prop} {st : Sto} (r : RH C M1 m H st) (hD : H D = some (.lst acc)) (hM : M1 D) : RH C M1 m (upd H D o) st := by
  have nm : ∀ a ∈ m, a ≠ D := fun a ha e => r.dj a ha (e ▸ hM)
  refine ⟨fun a z => ?_, r.len, r.nd, r.dj, fun a ha => ?_, fun n ob hn => ?_, fun p hp => ?_⟩
  · by_cases e : a = D
    · rw [e]; exact ⟨o, upd_same⟩
    · obtain ⟨u, q⟩ := r.m0 a z
      exact ⟨u, (upd_ne e).trans q⟩
  · obtain ⟨u, q, w⟩ := r.mu a ha
    exact ⟨u, (upd_ne (nm a ha)).trans q, w⟩
  · obtain ⟨a, ha, ro⟩ := r.ob n ob hn
    exact ⟨a, ha, ro.putD hD (.inl hM) (nm a (List.mem_of_getElem? ha))⟩
  · obtain ⟨ps, h1, h2, h3⟩ := r.tb p hp
    refine ⟨ps, (upd_ne (ne_of h1 hD fun z => nomatch z)).trans h1, h2, fun q hq pos cv hc => ?_⟩
    obtain ⟨c, e1, e2⟩ := h3 q hq pos cv hc
    exact ⟨c, e1, (upd_ne (ne_of e2 hD fun z => nomatch z)).trans e2⟩
theorem RE.putD {M1 : Addr → Prop} {s : L2.St} {ev : Ev} (r : RE C H M1 m s ev) (hD : H D = some (.lst acc)) (hM : M1 D) : RE C (upd H D o) M1 m s ev := ⟨r.len, fun i x h => let ⟨v, e, q⟩ := r.vr i x h; ⟨v, e, q.putD hD (.inl hM)⟩⟩
end

/-! ### sources -/
section
variable {X : Cx} {C : Cfg} {W : WX} {tg l : Expr} {cl : CE}
def iSeq (K : PySem.W.Frag) (tl : TE) : TI := fun s H R => tl s H fun x H1 => ∃ a, x = .ref a ∧ (((∃ xs, SqL K H1 a xs) ∧ R (Itl K a) H1) ∨ ((∃ xs, SqT K H1 a xs) ∧ R (Itt K a) H1))
theorem pi_seq {tl : TE} (hl : PE X l tl) : PI X tg l (iSeq X.K tl) := by
  refine ⟨fun pins s σ H R I h => thn (hl.run pins s σ H _ I h) fun v s1 ⟨x, H1, I1, r1, q1⟩ => ?_⟩
  obtain ⟨a, e, q1⟩ := q1
  subst e
  cases r1
  have fp : ∀ b ∈ [s1.heap.objs.size], FpOk X pins H1 b := fun b hb => by
    have e : b = s1.heap.objs.size := by simpa using hb
    rw [e]
    exact I1.fpOk (Nat.le_refl _) (I1.hok.fresh (Nat.le_refl _))
  rcases q1 with ⟨⟨xs, hq⟩, q⟩ | ⟨⟨xs, hq⟩, q⟩
  · obtain ⟨its, rv, p, hz⟩ := I1.list hq
    refine wpAny_pyIter_list p.isList ?_
    exact ⟨_, _, _, _, H1, rfl, I1.kept (t' := s1.toks) (fun b o e => Heap.get?_push_of_some _ e), turn_list a s1.heap.objs.size, ⟨_, Heap.get?_push_size _ rfl, rfl, rfl⟩, fp, q⟩
  · obtain ⟨its, rv, p, hz⟩ := I1.tuple hq
    refine wpAny_pyIter_tuple (show s1.heap.IsTuple a its.toArray from p) ?_
    exact ⟨_, _, _, _, H1, rfl, I1.kept (t' := s1.toks) (fun b o e => Heap.get?_push_of_some _ e), turn_tuple a s1.heap.objs.size, ⟨_, Heap.get?_push_size _ rfl, rfl, rfl⟩, fp, q⟩
def lockOf (x : Va) (xs : List Va) : Lk := match x with
  | .ref n => some (n, xs)
  | _ => none
@[simp] theorem lockOf_dat (d : PyData) (xs : List Va) : lockOf (.dat d) xs = none := rfl
@[simp] theorem lockOf_seq (t : Bool) (ys : List Va) (xs : List Va) : lockOf (.seq t ys) xs = none := rfl
def itemsV (x : Va) (st : Sto) : Rs (List Va × Lk) := match seqOf st x with
  | some (_, xs) => .ok (xs, lockOf x xs) st
  | none => .bad
theorem seq_later {st st1 : Sto} {x : Va} {t : Bool} {xs : List Va} (e : seqOf st x = some (t, xs)) (h : lkOk (lockOf x xs) st1 = true) : seqOf st1 x = some (t, xs) := by
  cases x with
  | dat d => cases d <;> exact e
  | seq t ys => exact e
  | fn n => exact e
  | ref n =>
    have et : t = false := by
      have e' : (match st[n]? with | some (some (.lst xs)) => some (false, xs) | _ => none) = some (t, xs) := e
      split at e'
      · cases e'; rfl
      · cases e'
    subst et
    exact seqOf_ref (of_decide_eq_true h)
theorem it_seq {M0 : Addr → Prop} {m : List Addr} {H : Hp} {st : Sto} {x : Va} {t : Bool} {xs : List Va} {a : Addr} (rh : RH C M0 m H st) (rv : RV C H (Mx M0 m) m (.ref a) x) (e : seqOf st x = some (t, xs)) :
    ItRel C M0 H m (if t = true then Itt C.K a else Itl C.K a) (xs, lockOf x xs) := by
  intro M1 m1 H1 st1 g hM rh1 hl i
  obtain ⟨b, vs, eb, rs, sq⟩ := seqOf_rel rh1 (rv.goM g rh.mu hM) (seq_later e hl)
  cases eb
  have hlen := rs.len
  refine ⟨fun hi => ?_, fun hi => ?_⟩
  · have hi : i < xs.length := hi
    obtain ⟨v, hv, rv'⟩ := rs.get (List.getElem?_eq_getElem hi)
    cases t with
    | true =>
      refine ⟨⟨vs, v, sq, hv⟩, fun y H2 hy => ?_⟩
      obtain ⟨rfl, hy⟩ := hy
      have e2 := hy vs sq
      rw [hv] at e2
      cases e2
      exact ⟨Same.refl _, _, List.getElem?_eq_getElem hi, rv'⟩
    | false =>
      refine ⟨⟨vs, v, sq, hv⟩, fun y H2 hy => ?_⟩
      obtain ⟨rfl, hy⟩ := hy
      have e2 := hy vs sq
      rw [hv] at e2
      cases e2
      exact ⟨Same.refl _, _, List.getElem?_eq_getElem hi, rv'⟩
  · have hi : xs.length ≤ i := hi
    cases t with
    | true => exact ⟨vs, sq, by omega⟩
    | false => exact ⟨vs, sq, by omega⟩
def dIter (a : CE) : CI := fun ev st => (a ev st).bind itemsV
theorem fi_seq (hK : X.K = C.K) (hl : PE X l (tE C W cl)) : PI X tg l (tI C W (dIter cl)) := by
  refine PI.imp (pi_seq hl) fun s H R h => tG.bind (R := relV) (k := fun x _ st => itemsV x st) h fun M0 m ev st x v H1 rh re rv fin => ?_
  unfold itemsV at fin
  split at fin
  · rename_i t xs hs
    obtain ⟨a, vs, rfl, rs, sq⟩ := seqOf_rel rh rv hs
    have q := FinG.out (R := relI C M0) fin rh (it_seq rh rv hs)
    rw [hK]
    refine ⟨a, rfl, ?_⟩
    cases t with
    | true => exact .inr ⟨⟨vs, sq⟩, q⟩
    | false => exact .inl ⟨⟨vs, sq⟩, q⟩
  · exact fin.elim
/-! ### ranges -/
def rangeL (lo : Int) (n : Nat) : List Va := (List.range n).map fun (i : Nat) => .dat (.int (lo + i))
def inR (i : Int) : Bool := decide (-(2 ^ 62) ≤ i) && decide (i < 2 ^ 62)
theorem inR_of {i : Int} (h : inR i = true) : -(2 ^ 62) ≤ i ∧ i < 2 ^ 62 := by
  obtain ⟨a, b⟩ := Bool.and_eq_true_iff.mp h
  exact ⟨of_decide_eq_true a, of_decide_eq_true b⟩
theorem it_range {M0 : Addr → Prop} {m : List Addr} {H : Hp} (lo : Int) (n : Nat) : ItRel C M0 H m (Itr lo n) (rangeL lo n, none) := by
  intro M1 m1 H1 st1 g hM rh1 hl i
  have hlen : (rangeL lo n).length = n := by simp [rangeL]
  refine ⟨fun hi => ⟨show i < n by rw [← hlen]; exact hi, fun y H2 hy => ?_⟩, fun hi => show n ≤ i by rw [← hlen]; exact hi⟩
  obtain ⟨rfl, rfl⟩ := hy
  have hi : i < n := by rw [← hlen]; exact hi
  exact ⟨Same.refl _, .dat (.int (lo + i)), by simp [rangeL, hi], .dat (.int _)⟩
def rangeV (xs : List Va) (st : Sto) : Rs (List Va × Lk) := match xs with
  | [.dat (.int j)] => if inR j = true then .ok (rangeL 0 j.toNat, none) st else .bad
  | [.dat (.int i), .dat (.int j)] => if (inR i && inR j) = true then .ok (rangeL i (j - i).toNat, none) st else .bad
  | _ => .bad
def dRange (c : CA) : CI := fun ev st => (c ev st).bind rangeV
variable {a b : Expr} {cs : CA} {p pos : Pos}
theorem fi_range1 (hg : Gl X "range") (hm : X.mg "range" = none) (ha : PA X [a] (tA C W cs)) (hs : starEach [a] X.env = [(false, eval a X.env)] := by rfl) (h1 : ∀ ev st xs st', cs ev st = .ok xs st' → xs.length = 1) : PI X tg (.Call (.Name "range" p) [a] [] pos) (tI C W (dRange cs)) := by
  refine PI.imp (pi_range1 hg hm ha hs) fun s H R ⟨M0, m, ev, st, rh, re, fin⟩ => ⟨M0, m, ev, st, rh, re, ?_⟩
  have fin : FinG (relI C M0) C M0 m H (WE W s) ((cs ev st).bind rangeV) R := fin
  cases e : cs ev st with
  | bad => rw [e] at fin; exact fin.elim
  | err x st1 => rw [e] at fin; exact fin
  | ok xs st1 =>
    rw [e] at fin
    have hlen := h1 _ _ _ _ e
    intro vs m1 H1 g rh1 rs
    have fin := FinG.rebase fin g
    simp only [Rs.bind_ok] at fin
    unfold rangeV at fin
    split at fin
    · obtain ⟨hk, fin⟩ := Fin.ifGo fin
      obtain ⟨v, rfl, rv⟩ := rs.one
      obtain ⟨k1, k2⟩ := inR_of hk
      exact ⟨_, by rw [rv.int_inv], k1, k2, FinG.out (R := relI C M0) fin rh1 (it_range 0 _)⟩
    · simp at hlen
    · exact fin.elim
theorem fi_range2 (hg : Gl X "range") (hm : X.mg "range" = none) (ha : PA X [a, b] (tA C W cs)) (hs : starEach [a, b] X.env = [(false, eval a X.env), (false, eval b X.env)] := by rfl) (hs2 : starEach [b] X.env = [(false, eval b X.env)] := by rfl) (h1 : ∀ ev st xs st', cs ev st = .ok xs st' → xs.length = 2) :
    PI X tg (.Call (.Name "range" p) [a, b] [] pos) (tI C W (dRange cs)) := by
  refine PI.imp (pi_range2 hg hm ha hs hs2) fun s H R ⟨M0, m, ev, st, rh, re, fin⟩ => ⟨M0, m, ev, st, rh, re, ?_⟩
  have fin : FinG (relI C M0) C M0 m H (WE W s) ((cs ev st).bind rangeV) R := fin
  cases e : cs ev st with
  | bad => rw [e] at fin; exact fin.elim
  | err x st1 => rw [e] at fin; exact fin
  | ok xs st1 =>
    rw [e] at fin
    have hlen := h1 _ _ _ _ e
    intro vs m1 H1 g rh1 rs
    have fin := FinG.rebase fin g
    simp only [Rs.bind_ok] at fin
    unfold rangeV at fin
    split at fin
    · simp at hlen
    · obtain ⟨hk, fin⟩ := Fin.ifGo fin
      obtain ⟨v, u, rfl, rv, ru⟩ := rs.two
      obtain ⟨h3, h4⟩ := Bool.and_eq_true_iff.mp hk
      obtain ⟨k1, k2⟩ := inR_of h3
      obtain ⟨k3, k4⟩ := inR_of h4
      exact ⟨_, _, by rw [rv.int_inv, ru.int_inv], ⟨k1, k2, k3, k4⟩, FinG.out (R := relI C M0) fin rh1 (it_range _ _)⟩
    · exact fin.elim
theorem len_nil : ∀ ev st xs st', dNil ev st = .ok xs st' → xs.length = 0 := fun _ _ _ _ e => by cases e; rfl
theorem len_cons {c : CE} {r : CA} {n : Nat} (h : ∀ ev st xs st', r ev st = .ok xs st' → xs.length = n) : ∀ ev st xs st', dCons c r ev st = .ok xs st' → xs.length = n + 1 := fun ev st xs st' e => by
  unfold dCons at e
  cases e1 : c ev st with
  | bad => rw [e1] at e; cases e
  | err _ _ => rw [e1] at e; cases e
  | ok x st1 =>
    rw [e1] at e
    cases e2 : r ev st1 with
    | bad => simp only [Rs.bind_ok, e2] at e; cases e
    | err _ _ => simp only [Rs.bind_ok, e2] at e; cases e
    | ok ys st2 =>
      simp only [Rs.bind_ok, e2] at e
      cases e
      rw [List.length_cons, h _ _ _ _ e2]
end
end Sk

/-! Sk, part 12: list comprehensions. -/
namespace Sk
open PySem PySem.Spec PyProof.Rows L2
abbrev W0 : WX := fun _ _ _ _ => False
def Rs.calm {a : Type} : Rs a → Rs a
  | .err _ _ => .bad
  | r => r
@[simp] theorem Rs.calm_ok {a : Type} (x : a) (st : Sto) : (Rs.ok x st).calm = .ok x st := rfl
@[simp] theorem Rs.calm_bad {a : Type} : (Rs.bad : Rs a).calm = .bad := rfl
def wipeE (ev : Ev) : List Nat → Ev
  | [] => ev
  | v :: vs => (wipeE ev vs).set v none
theorem wipe_re {C : Cfg} {H : Hp} {M0 : Addr → Prop} {m : List Addr} {s : L2.St} {ev : Ev} (r : RE C H M0 m s ev) : ∀ vs : List Nat, RE C H M0 m (wipe s vs) (wipeE ev vs)
  | [] => r
  | v :: vs => by
    have ih := wipe_re r vs
    show RE C H M0 m ((wipe s vs).set v none) ((wipeE ev vs).set v none)
    refine ⟨by rw [List.length_set, List.length_set, ih.len], fun i x h => ?_⟩
    by_cases e : v = i
    · subst e
      by_cases hl : v < (wipeE ev vs).length
      · rw [List.getElem?_set_self hl] at h; cases h
      · rw [List.getElem?_eq_none (by rw [List.length_set]; omega)] at h; cases h
    · rw [List.getElem?_set_ne e] at h
      rw [List.getElem?_set_ne e]
      exact ih.vr i x h
theorem wipe_set {s : L2.St} {i : Nat} {o : Option V} : ∀ {vs : List Nat}, i ∈ vs → wipe (s.set i o) vs = wipe s vs
  | v :: vs, h => by
    show (wipe (s.set i o) vs).set v none = (wipe s vs).set v none
    by_cases hi : i ∈ vs
    · rw [wipe_set hi]
    · have e : i = v := by
        rcases List.mem_cons.mp h with z | z
        · exact z
        · exact absurd z hi
      subst e
      have q : ∀ us : List Nat, i ∉ us → wipe (s.set i o) us = (wipe s us).set i o := by
        intro us
        induction us with
        | nil => intro _; rfl
        | cons u us ih =>
          intro hn
          have h1 : i ≠ u := fun z => hn (by simp [z])
          show (wipe (s.set i o) us).set u none = ((wipe s us).set u none).set i o
          rw [ih fun z => hn (List.mem_cons_of_mem _ z), List.set_comm _ _ h1]
      rw [q vs hi, List.set_set]
theorem wipe_wipe {s : L2.St} (vs : List Nat) : wipe (wipe s vs) vs = wipe s vs := by
  have q : ∀ us : List Nat, (∀ u ∈ us, u ∈ vs) → wipe (wipe s us) vs = wipe s vs := by
    intro us
    induction us with
    | nil => intro _; rfl
    | cons u us ih =>
      intro h
      show wipe ((wipe s us).set u none) vs = wipe s vs
      rw [wipe_set (h u (by simp)), ih fun z hz => h z (List.mem_cons_of_mem _ hz)]
  exact q vs fun _ h => h
/-- a target whose names are the block's own -/
def CompT (C : Cfg) (vs : List Nat) (g : TG) (t : CT) : Prop := ∀ (M0 : Addr → Prop) (m : List Addr) (H : Hp) (ev : Ev) (st : Sto) (s : L2.St) (x : Va) (v : V) (Q : L2.St → Hp → Prop), RH C M0 m H st → RE C H M0 m s ev → RV C H (Mx M0 m) m v x →
  ∀ ev1 st1, t x ev st = .ok ev1 st1 → (∀ s1 m1 H1, Go m H m1 H1 → RH C M0 m1 H1 st1 → RE C H1 M0 m1 s1 ev1 → wipe s1 vs = wipe s vs → Q s1 H1) → g v s H Q
def CompTs (C : Cfg) (vs : List Nat) (g : TGs) (t : CTs) : Prop := ∀ (M0 : Addr → Prop) (m : List Addr) (H : Hp) (ev : Ev) (st : Sto) (s : L2.St) (x : List Va) (v : List V) (Q : L2.St → Hp → Prop), RH C M0 m H st → RE C H M0 m s ev → RVs C H (Mx M0 m) m v x →
  ∀ ev1 st1, t x ev st = .ok ev1 st1 → (∀ s1 m1 H1, Go m H m1 H1 → RH C M0 m1 H1 st1 → RE C H1 M0 m1 s1 ev1 → wipe s1 vs = wipe s vs → Q s1 H1) → g v s H Q
section
variable {C : Cfg} {vs : List Nat}
theorem ct_name {i : Nat} (h : i ∈ vs) : CompT C vs (gName i) (gN i) := fun M0 m H ev st s x v Q rh re rv ev1 st1 e q => by
  cases e
  exact q _ m H (Go.refl _ _) rh (re.set i rv) (wipe_set h)
theorem cts_nil : CompTs C vs gNil gsNil := fun M0 m H ev st s x v Q rh re rv ev1 st1 e q => by
  cases rv with
  | nil => cases e; exact ⟨rfl, q s m H (Go.refl _ _) rh re rfl⟩
  | cons _ _ => cases e
theorem cts_cons {g : TG} {gs : TGs} {t : CT} {u : CTs} (h1 : CompT C vs g t) (h2 : CompTs C vs gs u) : CompTs C vs (gCons g gs) (gsCons t u) := fun M0 m H ev st s x v Q rh re rv ev1 st1 e q => by
  cases rv with
  | nil => cases e
  | @cons v vs' x xs' a r =>
    have e : (t x ev st).bind (fun ev2 st2 => u xs' ev2 st2) = .ok ev1 st1 := e
    cases e1 : t x ev st with
    | bad => rw [e1] at e; cases e
    | err _ _ => rw [e1] at e; cases e
    | ok ev2 st2 =>
      rw [e1] at e
      refine ⟨_, _, rfl, h1 M0 m H ev st s x v _ rh re a ev2 st2 e1 fun s2 m2 H2 g2 rh2 re2 w2 => ?_⟩
      exact h2 M0 m2 H2 ev2 st2 s2 _ _ Q rh2 re2 (r.go g2 rh.mu) ev1 st1 e fun s3 m3 H3 g3 rh3 re3 w3 => q s3 m3 H3 (g2.trans g3) rh3 re3 (w3.trans w2)
theorem ct_tup {K : PySem.W.Frag} (hK : K = C.K) {gs : TGs} {u : CTs} {n : Nat} (h : CompTs C vs gs u) : CompT C vs (gTup K n gs) (gTp n u) := fun M0 m H ev st s x v Q rh re rv ev1 st1 e q => by
  unfold gTp at e
  split at e
  · rename_i xs hs
    split at e
    · rename_i hl
      obtain ⟨a, us, rfl, rs, sq⟩ := seqOf_rel rh rv hs
      exact ⟨a, us, rfl, by rw [hK]; exact sq, by rw [rs.len]; exact eq_of_beq hl, h M0 m H ev st s xs us Q rh re rs ev1 st1 e q⟩
    · cases e
  · cases e
end
def compTurn (t : CT) (k : CB) (e : CE) (x : Va) (ev : Ev) (st : Sto) : Rs (Option Va) :=
  ((t x ev st).bind fun ev1 st1 => (k ev1 st1).bind fun b st2 => if b = true then (e ev1 st2).bind fun y st3 => .ok (some y) st3 else .ok none st2).calm
def consO (o : Option Va) (ys : List Va) : List Va := match o with
  | some y => y :: ys
  | none => ys
def compL (l : Lk) (f : Va → Ev → Sto → Rs (Option Va)) : List Va → Ev → Sto → Rs (List Va)
  | [] => fun _ st => if lkOk l st = true then .ok [] st else .bad
  | x :: r => fun ev st => if lkOk l st = true then (f x ev st).bind fun o st1 => (compL l f r ev st1).bind fun ys st2 => .ok (consO o ys) st2 else .bad
/-- the new list, to be read alone -/
def asF (xs : List Va) (st : Sto) : Rs Va := .ok (mkL xs) st
def dComp (mk : List Va → Sto → Rs Va) (it : CI) (own : List Nat) (t : CT) (k : CB) (e : CE) : CE := fun ev st => (it ev st).bind fun p st1 => if few p.1.length = true then (compL p.2 (compTurn t k e) p.1 (wipeE ev own) st1).bind mk else .bad
def dYes : CB := fun _ st => .ok true st
section
variable {X : Cx} {C : Cfg} {W : WX}
theorem PTs.imp {ifs : List Expr} {t t' : TT} (h : PTs X ifs t) (i : ∀ s H Q, t' s H Q → t s H Q) : PTs X ifs t' := ⟨fun pins s σ H Q I q => h.run pins s σ H Q I (i _ _ _ q)⟩
theorem fts_nil : PTs X [] (tT C W dYes) := PTs.imp pts_nil fun s H Q ⟨M0, m, ev, st, rh, re, fin⟩ => FinG.out (R := relB) fin rh rfl
theorem fts_one {c : Expr} {cc : CB} (h : PT X c (tT C W cc)) : PTs X [c] (tT C W cc) := pts_one h
/-- what becomes of the list at D in the end -/
def MkS (C : Cfg) (mk : List Va → Sto → Rs Va) : Prop := ∀ (M0 : Addr → Prop) (m1 m : List Addr) (H1 H : Hp) (st : Sto) (E : XK) (Q : VK) (xs : List Va) (vs : List V) (D : Addr), Go m1 H1 m H → H1 D = none → ¬ M0 D → RH C (Pr M0 D) m H st → H D = some (.lst vs) → RVs C H (Mx (Pr M0 D) m) m vs xs →
  Fin C M0 m1 H1 E (mk xs st) Q → Q (.ref D) H
theorem mk_F : MkS C asF := fun M0 m1 m H1 H st E Q xs vs D g hn nD rh hD rs fin => by
  have lt : ∀ a, M0 a → Pr M0 D a := fun a h => .inl h
  refine fin (.ref D) m H g (rh.less lt) (RV.mkL hD (fun z => ?_) (rs.less (mx_less lt)))
  rcases z with z | z
  · exact nD z
  · exact rh.dj D z (.inr rfl)
theorem mx_move {M0 : Addr → Prop} {m : List Addr} {D : Addr} : ∀ a, Mx M0 (m ++ [D]) a → Mx (Pr M0 D) m a := fun a z => by
  rcases z with z | z
  · exact .inl (.inl z)
  · rcases List.mem_append.mp z with z | z
    · exact .inr z
    · exact .inl (.inr (by simpa using z))
mutual
theorem RV.wide {H : Hp} {M : Addr → Prop} {m n : List Addr} : ∀ {v : V} {x : Va}, RV C H M m v x → RV C H M (m ++ n) v x
  | _, _, .dat r => .dat r
  | _, _, .ref e => .ref (by rw [List.getElem?_append_left (List.getElem?_eq_some_iff.mp e).1]; exact e)
  | _, _, .lst h k r => .lst h k (RVs.wide r)
  | _, _, .frz h r => .frz h (RVs.wide r)
  | _, _, .tup h r => .tup h (RVs.wide r)
  | _, _, .fn e => .fn e
theorem RVs.wide {H : Hp} {M : Addr → Prop} {m n : List Addr} : ∀ {vs : List V} {xs : List Va}, RVs C H M m vs xs → RVs C H M (m ++ n) vs xs
  | _, _, .nil => .nil
  | _, _, .cons a b => .cons (RV.wide a) (RVs.wide b)
end
theorem RO.wide {H : Hp} {M : Addr → Prop} {m n : List Addr} {a : Addr} {ob : Ob} (r : RO C H M m a ob) : RO C H M (m ++ n) a ob := by
  cases ob with
  | lst xs => obtain ⟨vs, q, r⟩ := r; exact ⟨vs, q, r.wide⟩
  | dic t kvs =>
    cases t with
    | false => obtain ⟨ks, q, r⟩ := r; exact ⟨ks, q, Paired.mapP r fun _ _ z => ⟨z.1, z.2.wide⟩⟩
    | true => obtain ⟨ks, q, r⟩ := r; exact ⟨ks, q, Paired.mapP r fun _ _ z => ⟨z.1, z.2.wide⟩⟩
  | ins c fs => obtain ⟨A, dx, gs, ha, q, r⟩ := r; exact ⟨A, dx, gs, ha, q, Paired.mapP r fun _ _ z => ⟨z.1, z.2.wide⟩⟩
theorem RH.adopt {M0 : Addr → Prop} {m : List Addr} {H : Hp} {st : Sto} {D : Addr} {ob : Ob} (rh : RH C (Pr M0 D) m H st) (nD : ¬ M0 D) (ro : RO C H (Mx (Pr M0 D) m) m D ob) : RH C M0 (m ++ [D]) H (st ++ [some ob]) := by
  have nm : D ∉ m := fun z => rh.dj D z (.inr rfl)
  refine ⟨fun a h => rh.m0 a (.inl h), by rw [List.length_append, List.length_append, rh.len]; rfl, ?_, fun a ha z => ?_, fun a ha => ?_, fun n u hn => ?_, rh.tb⟩
  · rw [List.nodup_append]
    exact ⟨rh.nd, by simp, fun a ha b hb e => nm (by rw [show D = b by simpa using (List.mem_singleton.mp hb).symm, ← e]; exact ha)⟩
  · rcases List.mem_append.mp ha with q | q
    · exact rh.dj a q (.inl z)
    · exact nD (by rw [← show a = D by simpa using q]; exact z)
  · rcases List.mem_append.mp ha with q | q
    · exact rh.mu a q
    · rw [show a = D by simpa using q]
      exact ro.mut
  · by_cases hl : n < st.length
    · rw [List.getElem?_append_left hl] at hn
      obtain ⟨a, ha, r⟩ := rh.ob n u hn
      exact ⟨a, by rw [List.getElem?_append_left (List.getElem?_eq_some_iff.mp ha).1]; exact ha, (r.less mx_move).wide⟩
    · have e : n = st.length := by
        have h2 := (List.getElem?_eq_some_iff.mp hn).1
        rw [List.length_append] at h2
        simp at h2
        omega
      subst e
      rw [List.getElem?_append_right (Nat.le_refl _)] at hn
      have e3 : u = ob := by simpa using hn.symm
      refine ⟨D, ?_, by rw [e3]; exact (ro.less mx_move).wide⟩
      rw [← rh.len, List.getElem?_append_right (Nat.le_refl _)]
      simp
theorem mk_M : MkS C newL := fun M0 m1 m H1 H st E Q xs vs D g hn nD rh hD rs fin => by
  have gD : Go m1 H1 (m ++ [D]) H := by
    obtain ⟨l, e⟩ := g.pre
    refine ⟨⟨l ++ [D], by rw [e, List.append_assoc]⟩, g.kp, g.tk, fun a ha n => ?_⟩
    rcases List.mem_append.mp ha with q | q
    · exact g.nw a q n
    · rw [show a = D by simpa using q]; exact hn
  refine fin (.ref D) (m ++ [D]) H gD (rh.adopt nD ⟨vs, hD, rs⟩) (.ref ?_)
  rw [← rh.len, List.getElem?_append_right (Nat.le_refl _)]
  simp
/-! ### the rule -/
theorem lc_of {wi : CI} {g : TG} {t : CT} {k : CB} {ce : CE} {own : List Nat} {mk : List Va → Sto → Rs Va} (hT : CompT C own g t) (hM : MkS C mk) (s : L2.St) (H : Hp) (Q : VK) (h : tE C W (dComp mk wi own t k ce) s H Q) :
    tLc (tI C W wi) g (tT C W0 k) (tE C W0 ce) own s H Q :=
  tG.bind (R := relI) (k := fun p ev st1 => if few p.1.length = true then (compL p.2 (compTurn t k ce) p.1 (wipeE ev own) st1).bind mk else .bad) h fun M0 m ev st p J H1 rh re rj fin => by
    obtain ⟨items, l⟩ := p
    obtain ⟨hfew, fin⟩ := Fin.ifGo fin
    intro D hD
    have nD : ¬ M0 D := fun z => by
      obtain ⟨o, q⟩ := rh.m0 D z
      rw [hD] at q; cases q
    have hMp : ∀ a, Pr M0 D a → M0 a ∨ H1 a = none := fun a z => z.elim .inl fun e => .inr (by rw [e]; exact hD)
    have sm0 : Same H1 (upd H1 D (.lst [])) := same_new hD
    refine ⟨fun i c H' => c = items.length - i ∧ i ≤ items.length ∧ ∃ m' st' acc ys, Go m H1 m' H' ∧ RH C (Pr M0 D) m' H' st' ∧ RE C H' (Pr M0 D) m' (wipe s own) (wipeE ev own) ∧ H' D = some (.lst acc) ∧ RVs C H' (Mx (Pr M0 D) m') m' acc ys ∧ acc.length ≤ i ∧
        Fin C M0 m H1 (WE W s) ((compL l (compTurn t k ce) (items.drop i) (wipeE ev own) st').bind fun zs st2 => mk (ys ++ zs) st2) Q,
      ⟨items.length, rfl, Nat.zero_le _, m, st, [], [], Go.same sm0, rh.prot hD, wipe_re (re.goM (Go.same sm0) rh.mu hMp) own, upd_same, .nil, Nat.le_refl _, fin⟩, ?_⟩
    rintro i c H' ⟨rfl, hi, m', st', acc, ys, g', rh', re', hD', racc, hal, fin'⟩
    have dn : D ∉ m' := fun z => rh'.dj D z (.inr rfl)
    by_cases hlt : i < items.length
    · rw [List.drop_eq_getElem_cons hlt] at fin'
      have fin' : Fin C M0 m H1 (WE W s) ((if lkOk l st' = true then (compTurn t k ce items[i] (wipeE ev own) st').bind fun o st1 => (compL l (compTurn t k ce) (items.drop (i + 1)) (wipeE ev own) st1).bind fun ys st2 => .ok (consO o ys) st2 else .bad).bind fun zs st2 => mk (ys ++ zs) st2) Q := fin'
      cases hl : lkOk l st' with
      | false => rw [hl] at fin'; exact fin'.elim
      | true =>
        rw [hl] at fin'
        simp only [if_true, Rs.bind_assoc, Rs.bind_ok] at fin'
        obtain ⟨go, yld⟩ := (rj (Pr M0 D) m' H' st' g' hMp rh' hl i).1 hlt
        refine .inr ⟨go, fun H2 => ∃ m2 st2 acc2 ys2, Go m H1 m2 H2 ∧ RH C (Pr M0 D) m2 H2 st2 ∧ RE C H2 (Pr M0 D) m2 (wipe s own) (wipeE ev own) ∧ H2 D = some (.lst acc2) ∧ RVs C H2 (Mx (Pr M0 D) m2) m2 acc2 ys2 ∧ acc2.length ≤ i + 1 ∧
          Fin C M0 m H1 (WE W s) ((compL l (compTurn t k ce) (items.drop (i + 1)) (wipeE ev own) st2).bind fun zs st3 => mk (ys2 ++ zs) st3) Q, fun H2 h => ⟨items.length - (i + 1), by omega, rfl, hlt, h⟩, fun x H3 hy => ?_⟩
        obtain ⟨sm, y, ey, ry⟩ := yld x H3 hy
        rw [List.getElem?_eq_getElem hlt] at ey
        cases ey
        have g3 : Go m' H' m' H3 := Go.same sm
        have rh3 := rh'.same sm
        have re3 := re'.go g3 rh'.mu
        rw [show compTurn t k ce items[i] (wipeE ev own) st' = ((t items[i] (wipeE ev own) st').bind fun ev1 st1 => (k ev1 st1).bind fun b st2 => if b = true then (ce ev1 st2).bind fun y st3 => .ok (some y) st3 else .ok none st2).calm from rfl] at fin'
        cases ht : t items[i] (wipeE ev own) st' with
        | bad => rw [ht] at fin'; exact fin'.elim
        | err _ _ => rw [ht] at fin'; exact fin'.elim
        | ok ev1 sa =>
          rw [ht] at fin'
          simp only [Rs.bind_ok] at fin'
          refine hT (Pr M0 D) m' H3 _ st' (wipe s own) items[i] x _ rh3 re3 ry ev1 sa ht fun s4 m4 H4 g4 rh4 re4 w4 => ⟨by rw [w4, wipe_wipe], ?_⟩
          cases hk : k ev1 sa with
          | bad => rw [hk] at fin'; exact fin'.elim
          | err _ _ => rw [hk] at fin'; exact fin'.elim
          | ok b sb =>
            rw [hk] at fin'
            simp only [Rs.bind_ok] at fin'
            refine ⟨Pr M0 D, m4, ev1, sa, rh4, re4, ?_⟩
            rw [hk]
            intro y5 m5 H5 g5 rh5 e5
            have e5 : y5 = b := e5
            subst e5
            have re5 := re4.go g5 rh4.mu
            have gg : Go m' H' m5 H5 := (g3.trans g4).trans g5
            have hD5 : H5 D = some (.lst acc) := gg.kp D _ hD' dn fun ps e => nomatch e
            cases y5 with
            | false =>
              refine ite_ff ⟨m5, sb, acc, ys, g'.trans gg, rh5, re'.go gg rh'.mu, hD5, racc.go gg rh'.mu, by omega, ?_⟩
              simpa [consO] using fin'
            | true =>
              refine ite_tt ⟨Pr M0 D, m5, ev1, sb, rh5, re5, ?_⟩
              cases he : ce ev1 sb with
              | bad => simp only [he, if_true] at fin'; exact fin'.elim
              | err _ _ => simp only [he, if_true] at fin'; exact fin'.elim
              | ok z sc =>
                simp only [he, if_true, Rs.bind_ok, Rs.calm_ok] at fin'
                intro v6 m6 H6 g6 rh6 r6
                have gg6 : Go m' H' m6 H6 := gg.trans g6
                have hD6 : H6 D = some (.lst acc) := gg6.kp D _ hD' dn fun ps e => nomatch e
                have dn6 : D ∉ m6 := fun z => rh6.dj D z (.inr rfl)
                refine ⟨acc, hD6, Nat.lt_of_le_of_lt hal (Nat.lt_of_lt_of_le hlt (few_le hfew)), m6, sc, acc ++ [v6], ys ++ [z], ?_, rh6.putD hD6 (.inr rfl), (re'.go gg6 rh'.mu).putD hD6 (.inr rfl), upd_same,
                  ((racc.go gg6 rh'.mu).append (.cons r6 .nil)).putD hD6 (.inl (.inr rfl)), by rw [List.length_append]; simp; omega, ?_⟩
                · have g7 := g'.trans gg6
                  refine ⟨g7.pre, fun b o hb nb tb => ?_, fun b ps hb => ?_, g7.nw⟩
                  · have e : b ≠ D := fun e => by rw [e, hD] at hb; cases hb
                    rw [upd_ne e]
                    exact g7.kp b o hb nb tb
                  · have e : b ≠ D := fun e => by rw [e, hD] at hb; cases hb
                    rw [upd_ne e]
                    exact g7.tk b ps hb
                · simpa [consO] using fin'
    · have ei : i = items.length := by omega
      subst ei
      rw [List.drop_length] at fin'
      have fin' : Fin C M0 m H1 (WE W s) ((if lkOk l st' = true then .ok [] st' else .bad : Rs (List Va)).bind fun zs st2 => mk (ys ++ zs) st2) Q := fin'
      cases hl : lkOk l st' with
      | false => rw [hl] at fin'; exact fin'.elim
      | true =>
        rw [hl] at fin'
        simp only [if_true, Rs.bind_ok, List.append_nil] at fin'
        exact .inl ⟨(rj (Pr M0 D) m' H' st' g' hMp rh' hl items.length).2 (Nat.le_refl _), hM M0 m m' H1 H' st' _ Q ys acc D g' hD nD rh' hD' racc fin'⟩
variable {elt tg iter : Expr} {ifs : List Expr} {scope : Scope} {own : List (Str × Nat)} {pos : Pos} {wi : CI} {g : TG} {t : CT} {k : CB} {ce : CE} {mk : List Va → Sto → Rs Va}
theorem fe_lc (hM : MkS C mk) (hc : X.calm = true) (hN : X.N.Nodup) (hi : PI X tg iter (tI C W wi)) (ok : BlkOk X.N X.env.scope scope own) (hT : CompT C (own.map (·.2)) g t)
    (hg : ∀ (s : Shared) (H : Hp) (A : Addr) (cl : List (Str × Addr)) (fp : List Addr), PG (X.blk s H scope (compEnvC scope cl A X.env) fp) tg g) (ht : ∀ (s : Shared) (H : Hp) (A : Addr) (cl : List (Str × Addr)) (fp : List Addr), PTs (X.blk s H scope (compEnvC scope cl A X.env) fp) ifs (tT C W0 k))
    (he : ∀ (s : Shared) (H : Hp) (A : Addr) (cl : List (Str × Addr)) (fp : List Addr), PE (X.blk s H scope (compEnvC scope cl A X.env) fp) elt (tE C W0 ce)) (hs : ∀ x, foldedSetIterable iter X.env x = pure x := by intro _; rfl) :
    PE X (.ListComp elt [⟨tg, iter, ifs, 0⟩] scope pos) (tE C W (dComp mk wi (own.map (·.2)) t k ce)) := PE.imp (pe_lc hc hN hi ok hg ht he hs) (lc_of hT hM)
/-- name = [..] -/
theorem fs_setLc {i : Nat} {y : Str} {py spos : Pos} (hM : MkS C mk) (hc : X.calm = true) (hN : X.N.Nodup) (hy : X.N[i]? = some y) (hyl : X.env.scope.names.lookup y = some .local)
    (hsw : swapsWith (.ListComp elt [⟨tg, iter, ifs, 0⟩] scope pos) (some (.Name y py)) spos.line X.env = pure true) (hi : PI X tg iter (tI C W wi)) (ok : BlkOk X.N X.env.scope scope own) (hT : CompT C (own.map (·.2)) g t)
    (hg : ∀ (s : Shared) (H : Hp) (A : Addr) (cl : List (Str × Addr)) (fp : List Addr), PG (X.blk s H scope (compEnvC scope cl A X.env) fp) tg g) (ht : ∀ (s : Shared) (H : Hp) (A : Addr) (cl : List (Str × Addr)) (fp : List Addr), PTs (X.blk s H scope (compEnvC scope cl A X.env) fp) ifs (tT C W0 k))
    (he : ∀ (s : Shared) (H : Hp) (A : Addr) (cl : List (Str × Addr)) (fp : List Addr), PE (X.blk s H scope (compEnvC scope cl A X.env) fp) elt (tE C W0 ce)) (hs : ∀ x, foldedSetIterable iter X.env x = pure x := by intro _; rfl) :
    PS X (.Assign [.Name y py] (.ListComp elt [⟨tg, iter, ifs, 0⟩] scope pos) spos) (tS C W (dAsg (dComp mk wi (own.map (·.2)) t k ce) (gN i))) :=
  PS.imp (ps_setLc hc hN hy hyl hsw hi ok hg ht he hs) fun D s H h => lc_of hT hM s H _ (tS.bind (R := relV) (k := fun x ev st1 => (gN i x ev st1).bind fun ev1 st2 => .ok (.nx ev1) st2) h fun M0 m ev st x v H1 rh re rv fin => fin _ m H1 (Go.refl _ _) rh (re.set i rv))
end
end Sk

/-! Sk, part 13: our own defs: what they promise, open calls, calls apart. -/
namespace Sk
open PySem PySem.Spec PyProof.Rows L2
abbrev Fn := List Va → Sto → Rs Va
def spF (C : Cfg) (n : Nat) (F : Fn) : Sp := fun vs H Q E => vs.length = n ∧ ∃ M0 m args st, RH C M0 m H st ∧ RVs C H (Mx M0 m) m vs args ∧ FinG (relV C M0) C M0 m H E (F args st) Q
def mkEv (k : Nat) (args : List Va) : Ev := args.map some ++ List.replicate (k - args.length) none
def asRet (f : Fl) (st : Sto) : Rs Va := match f with
  | .rt x => .ok x st
  | .nx _ => .ok (.dat .none) st
  | _ => .bad
def mkFn (k : Nat) (c : CS) : Fn := fun args st => (c (mkEv k args) st).bind asRet
section
variable {C : Cfg} {M0 : Addr → Prop} {m : List Addr} {H : Hp}
theorem RVs.getO : ∀ {vs : List V} {xs : List Va} {M : Addr → Prop}, RVs C H M m vs xs → ∀ (i : Nat) (x : Va), xs[i]? = some x → ∃ v, vs[i]? = some v ∧ RV C H M m v x
  | _, _, _, .nil, i, x, h => by simp at h
  | _, _, _, .cons a r, 0, x, h => by
    simp at h
    subst h
    exact ⟨_, rfl, a⟩
  | _, _, _, .cons a r, i + 1, x, h => by
    simp at h
    obtain ⟨v, e, q⟩ := RVs.getO r i x h
    exact ⟨v, by simpa using e, q⟩
theorem RE.start {N : List Str} {vs : List V} {xs : List Va} (r : RVs C H (Mx M0 m) m vs xs) : RE C H M0 m (L2.start N vs) (mkEv N.length xs) := by
  refine ⟨by unfold L2.start mkEv; simp [r.len], fun i x h => ?_⟩
  unfold mkEv at h
  by_cases hl : i < xs.length
  · rw [List.getElem?_append_left (by simpa using hl)] at h
    have h2 : xs[i]? = some x := by
      rw [List.getElem?_map] at h
      cases e : xs[i]? with
      | none => rw [e] at h; cases h
      | some y => rw [e] at h; simpa using h
    obtain ⟨v, e, q⟩ := r.getO i x h2
    refine ⟨v, ?_, q⟩
    unfold L2.start
    rw [List.getElem?_append_left (by simpa [r.len] using hl), List.getElem?_map, e]
    rfl
  · rw [List.getElem?_append_right (by simpa using Nat.le_of_not_lt hl)] at h
    have := List.getElem?_eq_some_iff.mp h
    obtain ⟨h1, h2⟩ := this
    simp at h2
end
section
variable {P : Program} {w : World} {K : PySem.W.Frag} {mg : Str → Option Value} {base : Heap}
/-- a def of the text -/
theorem fn_ok {C : Cfg} {x qual : Str} {st : Stmt} {f : Addr} {fd : FuncData} {N ps : List Str} {k : Nat} {c : CS} (F : Fun K x qual st f fd) (S : FnScope N ps (defScope st))
    (hbody : ∀ (cdv : Value) (A : Around) (outer : List Env) (s : Shared) (H : Hp) (E : XK), Room k (A.deeper (envOfC qual (defScope st) s.heap.objs.size f cdv)) →
      PSs (cxOf (L2.CX P w) P w K mg base N qual (defScope st) f cdv A outer s H E) (defBody st) (tS C (fun c d _ H => E c d H) c)) : FnOk P w K mg base (L2.CX P w) (k + 1) f fd ps (spF C ps.length (mkFn N.length c)) := by
  refine Fun.okX F S (fun vs H Q E h => h.1) fun cdv A outer s H vs Q E hr h => ⟨_, hbody cdv A outer s H E hr, ?_⟩
  obtain ⟨_, M0, m, args, st, rh, rv, fin⟩ := h
  refine ⟨M0, m, mkEv N.length args, st, rh, RE.start rv, ?_⟩
  unfold mkFn at fin
  cases e : c (mkEv N.length args) st with
  | bad => rw [e] at fin; exact fin.elim
  | err x st1 =>
    rw [e] at fin
    exact fun s c d m' H' g rh q => fin c d m' H' g rh q
  | ok f st1 =>
    rw [e] at fin
    cases f with
    | nx ev => exact fun s m' H' g rh re => fin .non m' H' g rh (.dat .non)
    | rt x => exact fun v m' H' g rh re => fin v m' H' g rh re
    | bk ev => exact fin.elim
    | ct ev => exact fin.elim
end
/-! ### open calls: the callee sees our store -/
def callO (F : Fn) (n : Nat) (xs : List Va) (st : Sto) : Rs Va := if (xs.length == n) = true then F xs st else .bad
def dCallO (F : Fn) (n : Nat) (as : CA) : CE := fun ev st => (as ev st).bind fun xs st1 => callO F n xs st1
theorem ifGoG {a b : Type} {R : Hp → List Addr → b → a → Prop} {C : Cfg} {M0 : Addr → Prop} {m : List Addr} {H : Hp} {E : XK} {Q : b → Hp → Prop} {k : Bool} {r : Rs a} (h : FinG R C M0 m H E (if k = true then r else .bad) Q) : k = true ∧ FinG R C M0 m H E r Q := by
  cases k with
  | true => exact ⟨rfl, h⟩
  | false => exact h.elim
section
variable {X : Cx} {C : Cfg} {W : WX} {k : Nat} {f : Addr} {fd : FuncData} {ps : List Str} {n : Nat} {F : Fn} {x : Str} {p pos : Pos} {e : Expr} {es : List Expr} {ca : CA}
theorem fe_callO (hF : FnOk X.prog X.w X.K X.mg X.base (L2.CX X.prog X.w) k f fd ps (spF C n F)) (hr : Room k X.A) (hg : Gl X x) (hm : X.mg x = some (.ref f)) (hk : PySem.W.keepIn X.K (.ref f) = true) (hb : Binds X.K fd ps []) (tk : Takes X W)
    (ha : PA X (e :: es) (tA C W ca)) (hdb : (x == ("__debug__" : Str)) = false := by decide) (he : starEach (e :: es) X.env = (false, eval e X.env) :: starEach es X.env := by rfl) (hpl : (backTo pos (starEach es X.env)).any (·.1) = false := by rfl) :
    PE X (.Call (.Name x p) (e :: es) [] pos) (tE C W (dCallO F n ca)) :=
  PE.imp (pe_callS hF hr hg hm hk hb (fun σ => passAt tk σ) ha hdb he hpl) fun s H Q h => tG.bind (R := relVs) (k := fun xs _ st1 => callO F n xs st1) h fun M0 m ev st xs vs H1 rh re rv fin => by
    unfold callO at fin
    obtain ⟨hl, fin⟩ := ifGoG fin
    exact ⟨by rw [rv.len]; exact eq_of_beq hl, M0, m, xs, st, rh, rv, fin⟩
end
/-! ### calls apart: the callee has its own store, and hands back what is done -/
def outV : Nat → Sto → Va → Option Va
  | _, _, .dat d => some (.dat d)
  | _, _, .fn n => some (.fn n)
  | k + 1, st, .ref n => match st[n]? with
    | some (some (.lst xs)) => (mapO (outV k st) xs).map mkL
    | _ => none
  | k + 1, st, .seq t xs => (mapO (outV k st) xs).map (.seq t)
  | _, _, _ => none
@[simp] theorem outV_dat (k : Nat) (st : Sto) (d : PyData) : outV k st (.dat d) = some (.dat d) := by cases k <;> rfl
@[simp] theorem outV_fn (k : Nat) (st : Sto) (n : Nat) : outV k st (.fn n) = some (.fn n) := by cases k <;> rfl
mutual
def pureV : Va → Bool
  | .dat _ => true
  | .fn _ => true
  | .ref _ => false
  | .seq _ xs => pureVs xs
def pureVs : List Va → Bool
  | [] => true
  | x :: r => pureV x && pureVs r
end
mutual
def flatD : PyData → Bool
  | .list _ => false
  | .dict _ => false
  | .tuple xs => flatDs xs
  | _ => true
def flatDs : List PyData → Bool
  | [] => true
  | x :: r => flatD x && flatDs r
end
mutual
def flatV : Va → Bool
  | .dat d => flatD d
  | .seq true xs => flatVs xs
  | .fn _ => true
  | _ => false
def flatVs : List Va → Bool
  | [] => true
  | x :: r => flatV x && flatVs r
end
theorem mapO_len {a b : Type} {f : a → Option b} : ∀ {xs : List a} {ys : List b}, mapO f xs = some ys → ys.length = xs.length
  | [], ys, e => by cases e; rfl
  | x :: r, ys, e => by
    obtain ⟨y, h, e⟩ := Option.bind_eq_some_iff.mp (show ((f x).bind fun y => (mapO f r).map (y :: ·)) = some ys from e)
    obtain ⟨zs, e1, e2⟩ := Option.map_eq_some_iff.mp e
    subst e2
    rw [List.length_cons, List.length_cons, mapO_len e1]
section
variable {C : Cfg} {M0 M : Addr → Prop} {m m2 : List Addr} {H : Hp} {st : Sto}
theorem outAll_of {f : Va → Option Va} (ih : ∀ v x z, RV C H (Mx M0 m) m v x → f x = some z → RV C H M m2 v z) : ∀ {vs : List V} {xs zs : List Va}, RVs C H (Mx M0 m) m vs xs → mapO f xs = some zs → RVs C H M m2 vs zs
  | _, _, _, .nil, e => by cases e; exact .nil
  | _, _, _, .cons (x := x) (xs := r) a b, e => by
    obtain ⟨y, h, e⟩ := Option.bind_eq_some_iff.mp (show ((f x).bind fun y => (mapO f r).map (y :: ·)) = some _ from e)
    obtain ⟨zs, e1, e2⟩ := Option.map_eq_some_iff.mp e
    subst e2
    exact .cons (ih _ _ _ a h) (outAll_of ih b e1)
theorem outV_rel (rh : RH C M0 m H st) (hM : ∀ a, M a → M0 a) : ∀ (k : Nat) (v : V) (x z : Va), RV C H (Mx M0 m) m v x → outV k st x = some z → RV C H M m2 v z
  | k, _, _, _, .dat h, e => by
    rw [outV_dat] at e
    cases e
    exact .dat (h.less fun a z => .inl (hM a z))
  | k, _, _, _, .fn h, e => by
    rw [outV_fn] at e
    cases e
    exact .fn h
  | 0, _, _, _, .ref _, e => nomatch e
  | 0, _, _, _, .lst _ _ _, e => nomatch e
  | 0, _, _, _, .frz _ _, e => nomatch e
  | 0, _, _, _, .tup _ _, e => nomatch e
  | k + 1, _, _, z, .lst h n r, e => by
    obtain ⟨ds, e1, e2⟩ := Option.map_eq_some_iff.mp (show (mapO (outV k st) _).map (Va.seq false) = some z from e)
    subst e2
    exact .lst h (fun z => n (.inl (hM _ z))) (outAll_of (fun v x d => outV_rel rh hM k v x d) r e1)
  | k + 1, _, _, z, .frz h r, e => by
    obtain ⟨ds, e1, e2⟩ := Option.map_eq_some_iff.mp (show (mapO (outV k st) _).map (Va.seq false) = some z from e)
    subst e2
    exact .frz h (outAll_of (fun v x d => outV_rel rh hM k v x d) r e1)
  | k + 1, _, _, z, .tup h r, e => by
    obtain ⟨ds, e1, e2⟩ := Option.map_eq_some_iff.mp (show (mapO (outV k st) _).map (Va.seq true) = some z from e)
    subst e2
    exact .tup h (outAll_of (fun v x d => outV_rel rh hM k v x d) r e1)
  | k + 1, _, _, z, .ref (n := n) (a := a) h, e => by
    have e' : (match st[n]? with | some (some (.lst xs)) => (mapO (outV k st) xs).map mkL | _ => none) = some z := e
    split at e'
    · rename_i xs hx
      obtain ⟨ds, e1, e2⟩ := Option.map_eq_some_iff.mp e'
      subst e2
      obtain ⟨b, hb, vs, hv, r⟩ := rh.ob n _ hx
      rw [h] at hb
      cases hb
      exact RV.mkL hv (fun z => rh.dj a (List.mem_of_getElem? h) (hM a z)) (outAll_of (fun v x d => outV_rel rh hM k v x d) r e1)
    · cases e'
mutual
theorem outV_pure : ∀ (k : Nat) (x z : Va), pureV x = true → outV k st x = some z → z = x
  | k, .dat d, z, _, e => by
    rw [outV_dat] at e
    cases e; rfl
  | k, .fn d, z, _, e => by
    rw [outV_fn] at e
    cases e; rfl
  | k, .ref d, z, h, e => nomatch h
  | 0, .seq t xs, z, h, e => nomatch e
  | k + 1, .seq t xs, z, h, e => by
    obtain ⟨ds, e1, e2⟩ := Option.map_eq_some_iff.mp (show (mapO (outV k st) xs).map (Va.seq t) = some z from e)
    subst e2
    rw [outVs_pure k xs ds h e1]
theorem outVs_pure : ∀ (k : Nat) (xs zs : List Va), pureVs xs = true → mapO (outV k st) xs = some zs → zs = xs
  | k, [], zs, _, e => by cases e; rfl
  | k, x :: r, zs, h, e => by
    have h : (pureV x && pureVs r) = true := h
    rw [Bool.and_eq_true] at h
    obtain ⟨y, h1, e⟩ := Option.bind_eq_some_iff.mp (show ((outV k st x).bind fun y => (mapO (outV k st) r).map (y :: ·)) = some zs from e)
    obtain ⟨us, e1, e2⟩ := Option.map_eq_some_iff.mp e
    subst e2
    rw [outV_pure k x y h.1 h1, outVs_pure k r us h.2 e1]
end
mutual
theorem RV.pure {M' : Addr → Prop} (hM : ∀ a, M' a → M a) : ∀ {v : V} {x : Va}, RV C H M m v x → pureV x = true → RV C H M' m2 v x
  | _, _, .dat r, _ => .dat (r.less hM)
  | _, _, .ref e, h => nomatch h
  | _, _, .lst e n r, h => .lst e (fun z => n (hM _ z)) (RVs.pure hM r h)
  | _, _, .frz e r, h => .frz e (RVs.pure hM r h)
  | _, _, .tup e r, h => .tup e (RVs.pure hM r h)
  | _, _, .fn e, _ => .fn e
theorem RVs.pure {M' : Addr → Prop} (hM : ∀ a, M' a → M a) : ∀ {vs : List V} {xs : List Va}, RVs C H M m vs xs → pureVs xs = true → RVs C H M' m2 vs xs
  | _, _, .nil, _ => .nil
  | _, _, .cons (x := x) (xs := r) a b, h => by
    have h : (pureV x && pureVs r) = true := h
    rw [Bool.and_eq_true] at h
    exact .cons (RV.pure hM a h.1) (RVs.pure hM b h.2)
end
mutual
theorem RD.flat {K : PySem.W.Frag} {M' : Addr → Prop} : ∀ {v : V} {x : PyData}, RD K H M v x → flatD x = true → RD K H M' v x
  | _, _, .non, _ => .non
  | _, _, .bl b, _ => .bl b
  | _, _, .int i, _ => .int i
  | _, _, .str x, _ => .str x
  | _, _, .lst _ _ _, h => nomatch h
  | _, _, .tup e r, h => .tup e (RDs.flat r h)
theorem RDs.flat {K : PySem.W.Frag} {M' : Addr → Prop} : ∀ {vs : List V} {xs : List PyData}, RDs K H M vs xs → flatDs xs = true → RDs K H M' vs xs
  | _, _, .nil, _ => .nil
  | _, _, .cons (d := x) (ds := r) a b, h => by
    have h : (flatD x && flatDs r) = true := h
    rw [Bool.and_eq_true] at h
    exact .cons (RD.flat a h.1) (RDs.flat b h.2)
end
mutual
theorem RV.flat {M' : Addr → Prop} : ∀ {v : V} {x : Va}, RV C H M m v x → flatV x = true → RV C H M' m2 v x
  | _, _, .dat r, h => .dat (r.flat h)
  | _, _, .ref e, h => nomatch h
  | _, _, .lst e n r, h => nomatch h
  | _, _, .frz e r, h => nomatch h
  | _, _, .tup e r, h => .tup e (RVs.flat r h)
  | _, _, .fn e, _ => .fn e
theorem RVs.flat {M' : Addr → Prop} : ∀ {vs : List V} {xs : List Va}, RVs C H M m vs xs → flatVs xs = true → RVs C H M' m2 vs xs
  | _, _, .nil, _ => .nil
  | _, _, .cons (x := x) (xs := r) a b, h => by
    have h : (flatV x && flatVs r) = true := h
    rw [Bool.and_eq_true] at h
    exact .cons (RV.flat a h.1) (RVs.flat b h.2)
end
end
def flatE (e : Ec) : Bool := match e.arg with
  | none => true
  | some d => flatD d
def afterP (p : Bool) (st : Sto) (r : Rs Va) : Rs Va := match r with
  | .ok y st2 => (match outV 8 st2 y with
    | some z => if (p || flatV z) = true then .ok z st else .bad
    | none => .bad)
  | .err e _ => if (p || flatE e) = true then .err e st else .bad
  | .bad => .bad
def callP (F : Fn) (n : Nat) (xs : List Va) (st : Sto) : Rs Va := if (xs.length == n) = true then (match mapO (outV 8 st) xs with
  | some ys => afterP (pureVs xs) st (F ys [])
  | none => .bad) else .bad
def dCallP (F : Fn) (n : Nat) (as : CA) : CE := fun ev st => (as ev st).bind fun xs st1 => callP F n xs st1
section
variable {C : Cfg} {M0 M1 : Addr → Prop} {m m1 : List Addr} {H H1 : Hp} {st st1 : Sto}
theorem Go.apart (g : Go [] H m1 H1) : Go m H m H1 := ⟨⟨[], by simp⟩, fun b o h _ t => g.kp b o h (by simp) t, g.tk, fun a h n => absurd h n⟩
theorem mut_notbl {o : HO} (h : MutX o) : NoTbl o := fun ps e => by subst e; exact h
theorem RH.apart (rh : RH C M0 m H st) (g : Go [] H m1 H1) (rh1 : RH C M1 m1 H1 st1) : RH C M0 m H1 st := by
  refine ⟨fun a h => ?_, rh.len, rh.nd, rh.dj, fun a ha => ?_, fun n o hn => ?_, rh1.tb⟩
  · obtain ⟨o, e⟩ := rh.m0 a h
    exact g.ex e (by simp)
  · obtain ⟨o, e, x⟩ := rh.mu a ha
    exact ⟨o, g.kp a o e (by simp) (mut_notbl x), x⟩
  · obtain ⟨a, ha, r⟩ := rh.ob n o hn
    obtain ⟨u, e, x⟩ := rh.mu a (List.mem_of_getElem? ha)
    exact ⟨a, ha, r.go g.apart rh.mu (by rw [e]; exact g.kp a u e (by simp) (mut_notbl x))⟩
theorem REx.less {M M' : Addr → Prop} {e : Ec} {c : Value} {d : Option Addr} (h : ∀ a, M a → M' a) (x : REx C H M' e c d) : REx C H M e c d := by
  refine ⟨x.1, ?_⟩
  have q := x.2
  cases hq : e.arg with
  | none => rw [hq] at q; exact q
  | some p =>
    rw [hq] at q
    obtain ⟨y, v, q1, q2, q3⟩ := q
    exact ⟨y, v, q1, q2, q3.less h⟩
theorem REx.flat {M M' : Addr → Prop} {e : Ec} {c : Value} {d : Option Addr} (h : flatE e = true) (x : REx C H M' e c d) : REx C H M e c d := by
  refine ⟨x.1, ?_⟩
  have q := x.2
  unfold flatE at h
  cases hq : e.arg with
  | none => rw [hq] at q; exact q
  | some p =>
    rw [hq] at q h
    obtain ⟨y, v, q1, q2, q3⟩ := q
    exact ⟨y, v, q1, q2, q3.flat h⟩
/-- from the callee's ends to ours -/
theorem afterP_rel {E : XK} {Q : VK} {p : Bool} {r : Rs Va} (rh : RH C M0 m H st) (h1 : p = true → ∀ a, Mx M0 m a → M1 a) (hle : ∀ a, M0 a → M1 a) (fin : Fin C M0 m H E (afterP p st r) Q) : Fin C M1 [] H E r Q := by
  cases r with
  | bad => exact fin
  | err e s2 =>
    intro c d m' H' g' rh' x
    have fin : Fin C M0 m H E (if (p || flatE e) = true then .err e st else .bad) Q := fin
    obtain ⟨hp, fin⟩ := ifGoG fin
    refine fin c d m H' g'.apart (rh.apart g' rh') ?_
    rw [Bool.or_eq_true] at hp
    rcases hp with hp | hp
    · exact x.less fun a z => .inl (h1 hp a z)
    · exact x.flat hp
  | ok y s2 =>
    intro v m' H' g' rh' x
    unfold afterP at fin
    simp only at fin
    split at fin
    · rename_i z hz
      obtain ⟨hp, fin⟩ := ifGoG fin
      refine fin v m H' g'.apart (rh.apart g' rh') ?_
      rw [Bool.or_eq_true] at hp
      rcases hp with hp | hp
      · exact outV_rel rh' (h1 hp) 8 v y z x hz
      · exact RV.flat (outV_rel (M := M1) (m2 := m) rh' (fun a z => z) 8 v y z x hz) hp
    · exact fin.elim
theorem callP_rel {E : XK} {Q : VK} {F : Fn} {n : Nat} {xs : List Va} {vs : List V} (rh : RH C M0 m H st) (rv : RVs C H (Mx M0 m) m vs xs) (fin : Fin C M0 m H E (callP F n xs st) Q) : spF C n F vs H Q E := by
  unfold callP at fin
  obtain ⟨hl, fin⟩ := ifGoG fin
  refine ⟨by rw [rv.len]; exact eq_of_beq hl, ?_⟩
  split at fin
  · rename_i ys hy
    cases hp : pureVs xs with
    | true =>
      have e := outVs_pure 8 xs ys hp hy
      subst e
      rw [hp] at fin
      refine ⟨Mx M0 m, [], ys, [], ⟨fun a z => ?_, rfl, .nil, fun a z => (by simp at z), fun a z => (by simp at z), fun n o z => (by simp at z), rh.tb⟩, RVs.pure (fun a z => ?_) rv hp, afterP_rel rh (fun _ a z => z) (fun a z => .inl z) fin⟩
      · rcases z with z | z
        · exact rh.m0 a z
        · obtain ⟨o, e, _⟩ := rh.mu a z
          exact ⟨o, e⟩
      · rcases z with z | z
        · exact z
        · simp at z
    | false =>
      rw [hp] at fin
      refine ⟨M0, [], ys, [], ⟨rh.m0, rfl, .nil, fun a z => (by simp at z), fun a z => (by simp at z), fun n o z => (by simp at z), rh.tb⟩, outAll_of (fun v x z => outV_rel rh (fun a z => ?_) 8 v x z) rv hy, afterP_rel (p := false) rh (fun z => absurd z (by decide)) (fun a z => z) fin⟩
      rcases z with z | z
      · exact z
      · simp at z
  · exact fin.elim
end
section
variable {X : Cx} {C : Cfg} {W : WX} {k : Nat} {f : Addr} {fd : FuncData} {ps : List Str} {n : Nat} {F : Fn} {x : Str} {p pos : Pos} {e : Expr} {es : List Expr} {ca : CA}
theorem fe_callP (hF : FnOk X.prog X.w X.K X.mg X.base (L2.CX X.prog X.w) k f fd ps (spF C n F)) (hr : Room k X.A) (hg : Gl X x) (hm : X.mg x = some (.ref f)) (hk : PySem.W.keepIn X.K (.ref f) = true) (hb : Binds X.K fd ps []) (tk : Takes X W)
    (ha : PA X (e :: es) (tA C W ca)) (hdb : (x == ("__debug__" : Str)) = false := by decide) (he : starEach (e :: es) X.env = (false, eval e X.env) :: starEach es X.env := by rfl) (hpl : (backTo pos (starEach es X.env)).any (·.1) = false := by rfl) :
    PE X (.Call (.Name x p) (e :: es) [] pos) (tE C W (dCallP F n ca)) :=
  PE.imp (pe_callS hF hr hg hm hk hb (fun σ => passAt tk σ) ha hdb he hpl) fun s H Q h => tG.bind (R := relVs) (k := fun xs _ st1 => callP F n xs st1) h fun M0 m ev st xs vs H1 rh re rv fin => callP_rel rh rv fin
end
/-! ### constants of the module -/
section
variable {X : Cx} {C : Cfg} {W : WX} {pos : Pos}
theorem fe_gint {x : Str} {i : Int} {t : Tok} (hg : Gl X x) (hm : X.mg x = some (.int i t)) (hd : (x == ("__debug__" : Str)) = false := by decide) : PE X (.Name x pos) (tE C W (dC (.int i))) := fe_c (pe_glob hg hm (v := .int i) ⟨t, rfl⟩ hd) fun _ _ => .int i
theorem fe_gstr {x z : Str} {t : Tok} (hg : Gl X x) (hm : X.mg x = some (.str z t)) (hd : (x == ("__debug__" : Str)) = false := by decide) : PE X (.Name x pos) (tE C W (dC (.str z))) := fe_c (pe_glob hg hm (v := .str z) ⟨t, rfl⟩ hd) fun _ _ => .str z
/-- a tuple that stands in K -/
def dK (xs : List Va) : CE := fun _ st => .ok (.seq true xs) st
theorem fe_gtup {x : Str} {a : Addr} {vs : List V} {xs : List Va} (hg : Gl X x) (hm : X.mg x = some (.ref a)) (hq : ∀ H, SqT C.K H a vs) (hv : ∀ H M m, RVs C H M m vs xs) (hd : (x == ("__debug__" : Str)) = false := by decide) : PE X (.Name x pos) (tE C W (dK xs)) :=
  PE.imp (pe_glob hg hm (v := .ref a) rfl hd) fun s H Q ⟨M0, m, ev, st, rh, re, fin⟩ => FinG.out (R := relV C M0) fin rh (.tup (hq H) (hv _ _ _))
end
end Sk

set_option maxHeartbeats 1000000
/-! Sk, part 14: the frame of a generator expression. -/
namespace Sk
open PySem PySem.Spec PyProof.Rows L2 GenW
open NdefX (clo_cm clo_has)
abbrev envG (X : Cx) (scope : Scope) (code : Value) (C : Addr) : Env := genEnv scope (cloFrom X.env.cells scope.names []) C code builtinsNs X.env
/-- the context of its body -/
def cxG (X : Cx) (scope : Scope) (code : Value) (s4 : Shared) (H4 : Hp) (pn : List (Addr × Obj)) (fp : List Addr) : Cx :=
  { X with
    A := X.A.in1.in1.deeper (envG X scope code s4.heap.objs.size)
    s_0 := s4
    H_0 := H4
    env := envG X scope code s4.heap.objs.size
    outer := X.stack
    stack := envG X scope code s4.heap.objs.size :: X.stack
    ex := fp
    fn := fun _ => false
    calm := true
    pn := pn
    xe := fun _ _ => False }
/-- its names: own: the slots of its own names -/
structure GSc (N : List Str) (sc scope : Scope) (own : List Nat) : Prop where
  kind : scope.kind = .function
  co : scope.isCoroutine = false
  cell : ∀ y ∈ scope.names, y.2 ≠ .cell
  dot : scope.names.lookup (".0" : Str) = some NameKind.local
  free : ∀ y ∈ scope.names, y.2 = .free → sc.names.lookup y.1 = some .cell ∨ sc.names.lookup y.1 = some .free
  loc : ∀ (i : Nat) (x : Str), N[i]? = some x → scope.names.lookup x = some .local → i ∈ own
def genC (N : List Str) (sc scope : Scope) (own : List Nat) : Bool :=
  (match scope.kind with | .function => true | _ => false) && !scope.isCoroutine && scope.names.all (fun y => match y.2 with
    | .cell => false
    | .free => (match sc.names.lookup y.1 with | some .cell => true | some .free => true | _ => false)
    | _ => true) && (match scope.names.lookup (".0" : Str) with | some .local => true | _ => false) &&
  (List.range N.length).all fun i => match N[i]? with
    | some x => (match scope.names.lookup x with | some .local => own.contains i | _ => true)
    | none => true
theorem gsc_by {N : List Str} {sc scope : Scope} {own : List Nat} (h : genC N sc scope own = true) : GSc N sc scope own := by
  unfold genC at h
  simp only [Bool.and_eq_true, List.all_eq_true, Bool.not_eq_true'] at h
  obtain ⟨⟨⟨⟨h1, h2⟩, h3⟩, h4⟩, h5⟩ := h
  refine ⟨?_, h2, fun y hy e => ?_, ?_, fun y hy e => ?_, fun i x hx hl => ?_⟩
  · split at h1
    · assumption
    · cases h1
  · have q := h3 y hy
    simp only [e] at q
    cases q
  · split at h4
    · assumption
    · cases h4
  · have q := h3 y hy
    simp only [e] at q
    split at q <;> first | exact .inl (by assumption) | exact .inr (by assumption) | cases q
  · have hi : i < N.length := (List.getElem?_eq_some_iff.mp hx).1
    have q := h5 i (List.mem_range.mpr hi)
    simp only [hx, hl] at q
    simpa using q
section
variable {X : Cx} {pins pins' pn : List (Addr × Obj)} {σ : L2.St} {H4 : Hp} {s4 s5 : Shared} {scope : Scope} {own : List Nat} {code : Value} {fp : List Addr} {m : Str → Option Value}
theorem GSc.cells (G : GSc X.N X.env.scope scope own) (ok : X.Ok) : ∀ y ∈ scope.names, y.2 = .free → ∃ c, X.env.cells.lookup y.1 = some c := fun y hy e => by
  rcases G.free y hy e with k | k
  · exact ok.has _ (.inl k)
  · exact ok.has _ (.inr k)
theorem inv_gen (I : Inv X pins σ H4 s4) (hc : X.calm = true) (G : GSc X.N X.env.scope scope own) (hf : ∀ b ∈ fp, FpOk X pins H4 b) (ho : ∀ b ∈ fp, ∃ o, s4.heap.get? b = some o)
    (keep : ∀ b o, s4.heap.get? b = some o → s5.heap.get? b = some o) (os : s5.os = s4.os) (bare : AllBare s5.gens) (ns : s5.heap.Ns s4.heap.objs.size m)
    (hp : ∀ p ∈ pn ++ pins', s5.heap.get? p.1 = some p.2 ∧ s4.heap.objs.size < p.1 ∧ ∀ v, p.2.data ≠ .cell v) : Inv (cxG X scope code s4 H4 pn fp) pins' (wipe σ own) H4 s5 := by
  have hfree := G.cells I.ok
  have cm : ∀ x c, (cloFrom X.env.cells scope.names []).lookup x = some c → X.env.cells.lookup x = some c := fun x c e => clo_cm hfree e
  have e0 := I.env0
  refine ⟨⟨I.ok.mod, G.kind, I.ok.glob, rfl, Nat.le_refl _, fun x y c e1 e2 => I.ok.inj x y c (cm x c e1) (cm y c e2), fun x hx => ?_, fun x c h => absurd (show false = true from h) (by decide), fun _ => I.ok.hd hc, Around.frames_deeper (A := X.A.in1.in1) I.ok.frames, .inr ⟨rfl, rfl⟩, fun b hb => ⟨?_, fun x c e => (hf b hb).2.2.2.2.1 x c (cm x c e)⟩,
    I.bs, Nat.le_trans I.ok.bsz I.sz, fun b o e hb => ?_, fun b hb z => ?_, I.stack, I.stkFree⟩, os, bare, Un.kept keep, ⟨m, ns, fun i x v h1 h2 h3 => ?_⟩, fun x c e => ?_, I.hok.fresh (Nat.le_refl _), fun x c e => I.freeC x c (cm x c e), fun p hm => ?_, I.hok.kept keep, by rw [wipe_length]; exact I.len⟩
  · have hx : scope.names.lookup x = some .cell ∨ scope.names.lookup x = some .free := hx
    rcases hx with hx | hx
    · exact absurd rfl (G.cell _ (PySem.mem_of_lookup hx))
    · obtain ⟨c, h⟩ := hfree _ (PySem.mem_of_lookup hx) rfl
      exact ⟨c, clo_has hfree (PySem.mem_of_lookup hx) h⟩
  · obtain ⟨o, e⟩ := ho b hb
    exact Nat.ne_of_lt (Heap.lt_size e)
  · rcases (hf b hb).2.2.2.1 with z | z
    · exact I.ok.noex b o e z
    · exact absurd (Nat.lt_of_lt_of_le (Heap.lt_size e) (Nat.le_trans I.ok.bsz z)) (Nat.lt_irrefl _)
  · rcases List.mem_cons.mp (I.stkSub b z) with y | y
    · exact (hf b hb).2.1 y
    · exact (hf b hb).2.2.1 y
  · obtain ⟨h2, hno⟩ := wipe_some h2
    have h3 : Vis scope x := h3
    rcases h3 with h3 | h3 | h3
    · exact absurd (G.loc i x h1 h3) hno
    · exact absurd rfl (G.cell _ (PySem.mem_of_lookup h3))
    · obtain ⟨m0, _, hl⟩ := I.loc
      have k := G.free _ (PySem.mem_of_lookup h3) rfl
      obtain ⟨u, r, lk⟩ := hl i x v h1 h2 (k.elim (fun z => .inr (.inl z)) fun z => .inr (.inr z))
      refine ⟨u, r, ?_⟩
      rcases lk with ⟨z, _⟩ | ⟨_, c, hc1, o, ho1, hd1⟩
      · have z : X.env.scope.names.lookup x = some .local := z
        rcases k with k | k
        · rw [show (x, NameKind.free).1 = x from rfl, z] at k; cases k
        · rw [show (x, NameKind.free).1 = x from rfl, z] at k; cases k
      · exact .inr ⟨.inr h3, c, clo_has hfree (PySem.mem_of_lookup h3) hc1, o, keep c o ho1, hd1⟩
  · obtain ⟨v, o, h1, h2⟩ := I.cell x c (cm x c e)
    exact ⟨v, o, keep c o h1, h2⟩
  · obtain ⟨h1, h2, h3⟩ := hp p hm
    refine ⟨h1, I.hok.fresh (Nat.le_of_lt h2), Nat.ne_of_gt h2, fun z => ?_, h3⟩
    rcases List.mem_cons.mp (I.stkSub p.1 z) with y | y
    · rw [y] at h2
      exact absurd (Nat.lt_trans I.lt h2) (Nat.lt_irrefl _)
    · exact I.nofs (Nat.le_of_lt h2) y
/-- back in the def's context -/
theorem inv_back {σ' : L2.St} {H' : Hp} {s' : Shared} (I : Inv X pins σ H4 s4) (hf : ∀ b ∈ fp, FpOk X pins H4 b) (J : Inv (cxG X scope code s4 H4 pn fp) pins' σ' H' s') : Inv X pins σ H' s' :=
  I.call' (ch := fp) J.os J.base J.hok J.bare fun b hb => ⟨(hf b hb).2.2.2.1, (hf b hb).2.1, (hf b hb).2.2.2.2.1, (hf b hb).2.2.2.2.2⟩
theorem room_gen {k : Nat} (r : Room (k + 1) X.A) : Room k (cxG X scope code s4 H4 pn fp).A :=
  ⟨r.hd, by have := r.dp; show X.A.depth + 1 + 3 * k + 5 < _; omega, by have := r.un; show X.A.units + 1 + 1 + 3 + 16 * k + 200 < _; omega⟩
end
/-! ### its turns -/
/-- asleep ahead of turn i -/
def LS (Xg : Cx) (fp : List Addr) (tn : Nat → Heap → Prop) (σ0 : L2.St) (pins : List (Addr × Obj)) (i : Nat) (H : Hp) (s : Shared) : Prop :=
  Inv Xg pins σ0 H s ∧ (∀ b ∈ fp, FpOk Xg pins H b) ∧ tn i s.heap
/-- how a consumer goes on: what it holds, the item, what it then holds, does it ask for more -/
abbrev Stp := V → V → V → Bool → Prop
def GYx (Xg : Cx) (fp : List Addr) (tn : Nat → Heap → Prop) (σ0 : L2.St) (Pa : List (Addr × Obj) → V → Prop) (S : Stp) (Qe : V → Hp → Prop) : Protocol := fun n s₀ v s kap =>
  ∃ (pins : List (Addr × Obj)) (i : Nat) (acc x acc' : V) (go : Bool) (H : Hp), (∀ p ∈ pins, s₀.heap.get? p.1 = some p.2) ∧ Pa pins acc ∧ LS Xg fp tn σ0 pins (i + 1) H s ∧ RelV x v ∧ S acc x acc' go ∧ (go = false → Qe acc' H) ∧
    (go = true → ∀ pins' s', Pa pins' acc' → LS Xg fp tn σ0 pins' (i + 1) H s' → kap (.send .none) s')
def GPx (Xg : Cx) (σ0 : L2.St) (Pa : List (Addr × Obj) → V → Prop) (Qe : V → Hp → Prop) : Nat → Shared → Shared → Prop := fun _ s₀ s =>
  ∃ (pins : List (Addr × Obj)) (acc : V) (H : Hp), (∀ p ∈ pins, s₀.heap.get? p.1 = some p.2) ∧ Pa pins acc ∧ Inv Xg pins σ0 H s ∧ Qe acc H
/-- the wish, turn by turn -/
def Turns (J : It) (g : TG) (te : TE) (own : List Nat) (σ0 : L2.St) (S : Stp) (Qe : V → Hp → Prop) (W : Nat → Nat → V → Hp → Prop) : Prop := ∀ i n acc H, W i n acc H → (J.stop i H ∧ Qe acc H) ∨
  ∃ n', n = n' + 1 ∧ J.go i H ∧ ∀ x H3, J.yld i H x H3 → g x σ0 H3 fun s4 H4 => wipe s4 own = σ0 ∧ te s4 H4 fun v H5 => ∃ acc' go, S acc v acc' go ∧ (go = false → Qe acc' H5) ∧ (go = true → W (i + 1) n' acc' H5)
section
variable {Xg : Cx} {fp : List Addr} {tn : Nat → Heap → Prop} {σ0 : L2.St} {Pa : List (Addr × Obj) → V → Prop} {S : Stp} {Qe : V → Hp → Prop} {J : It} {g : TG} {te : TE} {own : List Nat} {W : Nat → Nat → V → Hp → Prop}
  {tg elt iter : Expr} {scope : Scope} {gpos : Pos} {it : Addr} {A : Around}
theorem seg_turns (hc : Xg.calm = true) (hA : A.deeper Xg.env = Xg.A) (hco : Xg.env.scope.isCoroutine = false) (hfp : Xg.ex = fp) (T : Turn Xg.prog Xg.w Xg.K tg J fp it tn) (hg : PG Xg tg g) (he : PE Xg elt te) (hx : ∀ e s, ¬ Xg.xe e s)
    (tu : Turns J g te own σ0 S Qe W) : ∀ (n i : Nat) (acc : V) (H : Hp) (pins : List (Addr × Obj)) (s₀ s : Shared), W i n acc H → Pa pins acc → (∀ p ∈ pins, s₀.heap.get? p.1 = some p.2) → LS Xg fp tn σ0 pins i H s →
      Seg (model Xg.prog Xg.w) A (fun n s₀ r s₁ => r = .ok .next ∧ GPx Xg σ0 Pa Qe n s₀ s₁) (GYx Xg fp tn σ0 Pa S Qe) n s₀
        (.compLoop (.GeneratorExp elt [⟨tg, iter, [], 0⟩] scope gpos) 0 (.ref it) .none Xg.env) ((model Xg.prog Xg.w).den (.compLoop (.GeneratorExp elt [⟨tg, iter, [], 0⟩] scope gpos) 0 (.ref it) .none Xg.env)) [] s := by
  have hA' : A.over (.compLoop (.GeneratorExp elt [⟨tg, iter, [], 0⟩] scope gpos) 0 (.ref it) .none Xg.env) [] = Xg.A := hA
  have hy : ∀ v, yieldOut Xg.env v = yieldValue v := fun v => by simp only [yieldOut, hco, Bool.false_eq_true, if_false]
  intro n
  induction n with
  | zero =>
    intro i acc H pins s₀ s w pa p0 ls
    show Seg _ A _ _ _ s₀ _ ((PySem.compTurn (.GeneratorExp elt [⟨tg, iter, [], 0⟩] scope gpos) 0 (.ref it) .none Xg.env).onRaise (leaving Xg.env)) [] s
    rw [compTurn_gen, Sem.onRaise_eq_wrap]
    refine seg_bind_wrap (wpAny_standAt ?_)
    rcases tu i 0 acc H w with ⟨stop, qe⟩ | ⟨n', hn, _⟩
    · refine seg_bind_wrap ?_
      rw [hA']
      refine wpAny_mono (T.done Xg rfl rfl rfl hc i pins s σ0 H (fun _ _ => False) ls.1 ls.2.1 ls.2.2 stop) (fun r s1 ⟨hr, I1⟩ => ?_) fun _ _ z => z.elim
      subst hr
      exact seg_end (.ok .next) ⟨rfl, pins, acc, H, p0, pa, I1, qe⟩
    · exact absurd hn (by omega)
  | succ n ih =>
    intro i acc H pins s₀ s w pa p0 ls
    show Seg _ A _ _ _ s₀ _ ((PySem.compTurn (.GeneratorExp elt [⟨tg, iter, [], 0⟩] scope gpos) 0 (.ref it) .none Xg.env).onRaise (leaving Xg.env)) [] s
    rw [compTurn_gen, Sem.onRaise_eq_wrap]
    refine seg_bind_wrap (wpAny_standAt ?_)
    rcases tu i (n + 1) acc H w with ⟨stop, qe⟩ | ⟨n', hn, go, step⟩
    · refine seg_bind_wrap ?_
      rw [hA']
      refine wpAny_mono (T.done Xg rfl rfl rfl hc i pins s σ0 H (fun _ _ => False) ls.1 ls.2.1 ls.2.2 stop) (fun r s1 ⟨hr, I1⟩ => ?_) fun _ _ z => z.elim
      subst hr
      exact seg_end (.ok .next) ⟨rfl, pins, acc, H, p0, pa, I1, qe⟩
    · obtain rfl : n = n' := by omega
      refine seg_bind_wrap ?_
      rw [hA']
      refine wpAny_mono (T.item Xg rfl rfl rfl hc i pins s σ0 H (fun _ _ => False) ls.1 ls.2.1 ls.2.2 go) (fun r s1 ⟨u, hr, h1⟩ => ?_) fun _ _ z => z.elim
      subst hr
      refine seg_bind_wrap ?_
      rw [hA']
      refine wpAny_mono h1 (fun _ s2 ⟨x, H2, I2, r2, y2, st2, n2⟩ => ?_) fun _ _ z => z.elim
      have f2 : ∀ b ∈ fp, FpOk Xg pins H2 b := fun b hb => ⟨n2 b hb, (ls.2.1 b hb).2⟩
      have I2' := I2.pinned f2 (T.obj _ _ st2)
      refine seg_bind_wrap ?_
      rw [hA']
      refine wpAny_mono (hg.run _ s2 σ0 H2 x u _ I2' r2 (step x H2 y2)) (fun _ s3 ⟨σ3, H3, I3, hw3, q3⟩ => ?_) fun _ _ z => (hx _ _ z).elim
      simp only [List.forIn_nil]
      refine seg_bind_wrap (wpAny_pure ?_)
      simp only [if_true, hy]
      rw [Sem.bind_eq_wrap', Sem.bind_eq_wrap', Sem.wrap_wrap, Sem.wrap_wrap]
      refine seg_wrap ?_
      rw [hA']
      refine wpAny_mono (he.run _ s3 σ3 H3 _ I3 q3) (fun z s4 ⟨v, H5, I5, r5, acc', go', st5, qf, qt⟩ => ?_) fun _ _ z => (hx _ _ z).elim
      have pin' : ∀ b ∈ fp, ∀ o, s2.heap.get? b = some o → s4.heap.get? b = some o ∧ H5 b = none := fun b hb o e =>
        let z := I5.pin (b, o) (List.mem_append_right _ (List.mem_append_right _ (mem_pinsAt hb e)))
        ⟨z.1, z.2.1⟩
      have hl : σ0.length = σ3.length := by rw [← hw3, wipe_length]
      have I6 : Inv Xg pins σ0 H5 s4 := (I5.unpinned (pins := pins)).weak hl (fun j v e => by rw [← hw3] at e; exact (wipe_some e).1)
      have ls6 : LS Xg fp tn σ0 pins (i + 1) H5 s4 := by
        refine ⟨I6, fun b hb => ⟨?_, (ls.2.1 b hb).2⟩, T.keep _ _ _ st2 fun b hb o e => (pin' b hb o e).1⟩
        obtain ⟨o, e, _⟩ := T.obj _ _ st2 b hb
        exact (pin' b hb o e).2
      refine seg_at (seg_yield rfl rfl rfl ⟨pins, i, acc, v, acc', go', H5, p0, pa, ls6, r5, st5, qf, fun hgo pins' s' pa' ls' => ?_⟩)
      exact seg_again rfl (ih (i + 1) acc' H5 pins' s' s' (qt hgo) pa' (fun p hp => (ls'.1.pin p (List.mem_append_right _ hp)).1) ls')
theorem seg_start (hc : Xg.calm = true) (hA : A.deeper Xg.env = Xg.A) (hco : Xg.env.scope.isCoroutine = false) (hfp : Xg.ex = fp) (T : Turn Xg.prog Xg.w Xg.K tg J fp it tn) (hg : PG Xg tg g) (he : PE Xg elt te) (hx : ∀ e s, ¬ Xg.xe e s)
    (tu : Turns J g te own σ0 S Qe W) (n : Nat) (acc : V) (H : Hp) (pins : List (Addr × Obj)) (s₀ s : Shared) (w : W 0 n acc H) (pa : Pa pins acc) (p0 : ∀ p ∈ pins, s₀.heap.get? p.1 = some p.2) (ls : LS Xg fp tn σ0 pins 0 H s) :
      Seg (model Xg.prog Xg.w) A (fun n s₀ r s₁ => r = .ok .next ∧ GPx Xg σ0 Pa Qe n s₀ s₁) (GYx Xg fp tn σ0 Pa S Qe) n s₀
        (.compStart (.GeneratorExp elt [⟨tg, iter, [], 0⟩] scope gpos) 0 (.ref it) .none Xg.env) ((model Xg.prog Xg.w).den (.compStart (.GeneratorExp elt [⟨tg, iter, [], 0⟩] scope gpos) 0 (.ref it) .none Xg.env)) [] s := by
  have loop := seg_turns (iter := iter) (scope := scope) (gpos := gpos) (A := A) hc hA hco hfp T hg he hx tu n 0 acc H pins s₀ s w pa p0 ls
  show Seg _ A _ _ _ s₀ _ ((PySem.compStart (.GeneratorExp elt [⟨tg, iter, [], 0⟩] scope gpos) 0 (.ref it) .none Xg.env).onRaise (leaving Xg.env)) [] s
  unfold PySem.compStart
  rw [Sem.onRaise_eq_wrap]
  show Seg _ A _ _ _ s₀ _ ((ask >>= _).wrap _ _ _ _) [] s
  refine seg_bind_wrap (wpAny_askSetting ?_)
  split
  · exact seg_again rfl loop
  · first
      | exact seg_bind_wrap (wpAny_rule (seg_bind_wrap (wpAny_standAt (seg_bind_wrap (T.self _ 0 s _ _ ls.2.2 (seg_again rfl loop))))))
      | (refine seg_bind_wrap (wpAny_rule ?_); show Seg _ A _ _ _ s₀ _ ((standAt iter.pos >>= _).wrap _ _ _ _) [] s; exact seg_bind_wrap (wpAny_standAt (seg_bind_wrap (T.self _ 0 s _ _ ls.2.2 (seg_again rfl loop)))))
end
end Sk

set_option maxHeartbeats 1000000
/-! Sk, part 15: a generator expression is made; sum, all, any eat it. -/
namespace Sk
open PySem PySem.Spec PyProof.Rows L2 GenW GxR
abbrev lob (acc : Array Value) (c : Nat) : Obj := { cls := .type "list", dict := none, data := .seq acc c, slots := #[] }
/-- it is made, and has not begun -/
structure Made (X : Cx) (pins : List (Addr × Obj)) (σ : L2.St) (tg elt iter : Expr) (scope : Scope) (gpos : Pos) (J : It) (code : Value) (s4 : Shared) (H4 : Hp) (fp : List Addr) (it : Addr) (tn : Nat → Heap → Prop) (a : Addr) (gi : Nat) (go : Obj) (s5 : Shared) : Prop where
  I4 : Inv X pins σ H4 s4
  ff : ∀ b ∈ fp, FpOk X pins H4 b
  T : Turn X.prog X.w X.K tg J fp it tn
  tn0 : tn 0 s4.heap
  keep : ∀ b o, s4.heap.get? b = some o → s5.heap.get? b = some o
  os : s5.os = s4.os
  bare : AllBare s5.gens
  ns : ∃ m, s5.heap.Ns s4.heap.objs.size m
  ga : s4.heap.objs.size < a
  obj : s5.heap.get? a = some go
  gen : ∃ nm qn, go.cls = .type "generator" ∧ go.data = .fields #[.int gi 0, nm, qn] ∧ go.slots = #[]
  gs : s5.gens[gi]? = some (.fresh (.compStart (.GeneratorExp elt [⟨tg, iter, [], 0⟩] scope gpos) 0 (.ref it) .none (envG X scope code s4.heap.objs.size)))
section
variable {X : Cx} {pins : List (Addr × Obj)} {σ : L2.St} {H : Hp} {s : Shared} {k : Nat} {c P : Addr} {scope : Scope} {own : List Nat} {tg elt iter : Expr} {gpos : Pos} {wi : TI} {R : It → Hp → Prop} {Q' : Value → Shared → Prop}
theorem gen_made (hr : Room k X.A) (TB : TabB X.base X.mg c P) (hcode : X.env.code = .ref c) (G : GSc X.N X.env.scope scope own) (hi : PI X tg iter wi) (hs : ∀ v, genFold iter X.env v = pure v) (I : Inv X pins σ H s)
    (h : wi σ H fun J H1 => TabG H1 P ∧ ∀ H2, Tabbed P H1 H2 → R J H2)
    (hQ : ∀ J code s4 H4 fp it tn a gi go s5, R J H4 → Made X pins σ tg elt iter scope gpos J code s4 H4 fp it tn a gi go s5 → Q' (.ref a) s5) :
    wpAny (model X.prog X.w) X.A (eval (.GeneratorExp elt [⟨tg, iter, [], 0⟩] scope gpos) X.env) Q' X.xe s := by
  refine wpAny_GeneratorExp_make G.co (closure_ok (G.cells I.ok)) G.cell G.dot G.kind hr.depth ?_ hs
  refine thn (hi.run pins s σ H _ I h) fun xv s1 hx => thn hx fun itv s2 h2 => ?_
  obtain ⟨it, fp, tn, J, H1, e, I1, T, st1, f1, ⟨ps, hP, ht⟩, hR⟩ := h2
  subst e
  have hPs : s2.heap.get? P = some { cls := .none, data := .fields ps } := I1.hok P _ hP
  have cd : PySem.W.CodeHd s2.heap c P := TB.code.keeps I1.bk
  have cont : ∀ (code : Value) (h3 : Heap) (tk : Nat) (ps' : Array Value), Heap.ExtBut P s2.heap h3 → h3.get? P = some { cls := .none, data := .fields ps' } → (∃ more, ps' = ps ++ more) → TriplesOk ps'.toList →
      wpAny (model X.prog X.w) X.A (builtinsFor X.env.globals X.env.builtins) (fun bi s₄ =>
        ∀ h', h'.Ns s₄.heap.objs.size (fun y => if y = ".0" then some (.ref it) else none) → Heap.SameBut s₄.heap.objs.size (s₄.heap.push { cls := .type "frame", data := .dict #[] }) h' →
          Q' (.ref h'.objs.size) { s₄ with
            gens := s₄.gens.push (.fresh (.compStart (.GeneratorExp elt [⟨tg, iter, [], 0⟩] scope gpos) 0 (.ref it) .none (genEnv scope (cloFrom X.env.cells scope.names []) s₄.heap.objs.size code bi X.env))),
            toks := s₄.toks + 1 + 1 + 1,
            heap := h'.push { cls := .type "generator", data := .fields #[.int s₄.gens.size 0, .str "<genexpr>" (s₄.toks + 1), .str (X.env.qual ++ "<genexpr>") (s₄.toks + 1 + 1)] } }) X.xe { s2 with heap := h3, toks := tk } := by
    intro code h3 tk ps' hx hP3 hmore ht3
    obtain ⟨more, em⟩ := hmore
    obtain ⟨bm, ob, e1, e2, e3, e4, e5, e6, e7, e8⟩ := TB.bm
    have keep3 : ∀ b u, b ≠ P → s2.heap.get? b = some u → h3.get? b = some u := fun b u hb e => hx b u hb e
    have I3 : Inv X pins σ (upd H1 P (.tbl (ps ++ more))) { s2 with heap := h3, toks := tk } := inv_tab (more := more) (h' := h3) (g' := s2.gens) (d' := s2.drawn) (t' := tk) I1 hP keep3 (by rw [← em]; exact hP3) I1.bare
    refine wpAny_builtinsFor (m := X.mg) (by rw [I1.ok.glob]; exact (I1.mod.glob.keeps I1.bk).extBut hx TB.gP) e1 e2 (keep3 _ _ e4 (I1.bk _ _ e5)) e6 e7 e8 ?_
    intro h' hn' hs'
    have nP : ∀ b ∈ fp, b ≠ P := fun b hb z => by
      have q := (f1 b hb).1
      rw [z, hP] at q
      cases q
    have hsz : h'.objs.size = h3.objs.size + 1 := by rw [hs'.1, Heap.size_push]
    have keep' : ∀ b o, h3.get? b = some o → h'.get? b = some o := fun b o e => hs'.extBut b o (Nat.ne_of_lt (Heap.lt_size e)) (Heap.get?_push_of_some _ e)
    refine hQ J code _ _ fp it tn _ s2.gens.size _ _ (hR _ ⟨⟨ps ++ more, upd_same, by rw [← em]; exact ht3⟩, fun b hb => upd_ne hb⟩) ⟨I3, fun b hb => ⟨?_, (f1 b hb).2⟩, T, T.keep _ _ _ st1 fun b hb o e => keep3 b o (nP b hb) e, fun b o e => Heap.get?_push_of_some _ (keep' b o e), rfl, ?_, ⟨_, hn'.push _⟩, ?_, Heap.get?_push_size _ rfl, ⟨_, _, rfl, rfl, rfl⟩, Array.getElem?_push_size ..⟩
    · rw [upd_ne (nP b hb)]
      exact (f1 b hb).1
    · exact I3.bare.push rfl
    · show h3.objs.size < h'.objs.size
      rw [hsz]
      exact Nat.lt_succ_self _
  refine ⟨I1.nolimit, ?_⟩
  cases hf : codeAmong gpos ps.toList with
  | none =>
    refine wpAny_genexprCodeX hcode (cd.code hPs ht) (cd.tab hPs) hf fun c' h' tk hx hge hlt hco' _ htab' _ => ?_
    obtain ⟨o1, vs, f1, tf, fl, tg, inF, tx, tt, op, _, _, _, _, _, _, _, _, _, htr, _⟩ := hco'
    exact cont _ h' tk _ hx htab'.2 ⟨_, rfl⟩ htr
  | some cv =>
    refine wpAny_genexprCode_hit hcode (cd.code hPs ht) hf ?_
    exact cont cv s2.heap s2.toks ps (Heap.ExtBut.refl _ _) hPs ⟨#[], by simp⟩ ht
end
/-! ### asleep, seen from the consumer -/
section
variable {Xg : Cx} {fp : List Addr} {tn : Nat → Heap → Prop} {σ0 : L2.St} {Pa : List (Addr × Obj) → V → Prop} {S : Stp} {Qe : V → Hp → Prop} {A B : Around} {a : Addr} {gi : Nat} {go : Obj}
abbrev Goe (Xg : Cx) (fp : List Addr) (tn : Nat → Heap → Prop) (σ0 : L2.St) (Pa : List (Addr × Obj) → V → Prop) (S : Stp) (Qe : V → Hp → Prop) (A : Around) (n : Nat) (gs : GenState) (s : Shared) : Prop :=
  gs.Goes (model Xg.prog Xg.w) A (fun n s₀ r s₁ => r = .ok .next ∧ GPx Xg σ0 Pa Qe n s₀ s₁) (GYx Xg fp tn σ0 Pa S Qe) n (.send .none) s
/-- one fewer -/
def Goe1 (Xg : Cx) (fp : List Addr) (tn : Nat → Heap → Prop) (σ0 : L2.St) (Pa : List (Addr × Obj) → V → Prop) (S : Stp) (Qe : V → Hp → Prop) (A : Around) (n : Nat) (gs : GenState) (s : Shared) : Prop :=
  match n with
  | 0 => False
  | m + 1 => Goe Xg fp tn σ0 Pa S Qe A m gs s
def BS (Xg : Cx) (fp : List Addr) (tn : Nat → Heap → Prop) (σ0 : L2.St) (Pa : List (Addr × Obj) → V → Prop) (gi : Nat) (F : GenState → Shared → Prop) (pins : List (Addr × Obj)) (acc : V) (H : Hp) (s : Shared) : Prop :=
  ∃ i, LS Xg fp tn σ0 pins i H s ∧ ∃ gs, s.gens[gi]? = some gs ∧ ∀ pins' s'', Pa pins' acc → LS Xg fp tn σ0 pins' i H s'' → F gs s''
theorem BS.less {pins : List (Addr × Obj)} {n : Nat} {acc : V} {H : Hp} {s : Shared} (b : BS Xg fp tn σ0 Pa gi (Goe1 Xg fp tn σ0 Pa S Qe A n) pins acc H s) (pa : Pa pins acc) : ∃ m, n = m + 1 ∧ BS Xg fp tn σ0 Pa gi (Goe Xg fp tn σ0 Pa S Qe A m) pins acc H s := by
  obtain ⟨i, ls, gs, hgs, hgo⟩ := b
  cases n with
  | zero => exact (hgo pins s pa ls).elim
  | succ m => exact ⟨m, rfl, i, ls, gs, hgs, hgo⟩
def PaOk (Pa : List (Addr × Obj) → V → Prop) : Prop := ∀ (pins pins1 : List (Addr × Obj)) (acc acc1 : V) (h : Heap), Pa pins acc → Pa pins1 acc1 → (∀ p ∈ pins, h.get? p.1 = some p.2) → (∀ p ∈ pins1, h.get? p.1 = some p.2) → pins1 = pins ∧ acc1 = acc
theorem inv_gens {pins : List (Addr × Obj)} {σ : L2.St} {H : Hp} {s s' : Shared} (I : Inv Xg pins σ H s) (hh : s'.heap = s.heap) (os : s'.os = s.os) (hb : AllBare s'.gens) : Inv Xg pins σ H s' := by
  obtain ⟨h1, g, d, t, o⟩ := s'
  have e1 : h1 = s.heap := hh
  have e2 : o = s.os := os
  subst e1
  subst e2
  exact ⟨I.ok, I.os, hb, I.base, I.loc, I.cell, I.free, I.freeC, I.pin, I.hok, I.len⟩
theorem inv_grown {pins : List (Addr × Obj)} {σ : L2.St} {H : Hp} {s s' : Shared} (I : Inv Xg pins σ H s) (hh : ∀ b o, s.heap.get? b = some o → s'.heap.get? b = some o) (os : s'.os = s.os) (hb : AllBare s'.gens) : Inv Xg pins σ H s' :=
  I.call' (ch := []) os (Un.kept hh) (I.hok.kept hh) hb fun b z => absurd z (by simp)
theorem next_g {pins : List (Addr × Obj)} {n : Nat} {acc : V} {H : Hp} {s : Shared} {Q : Option Value → Shared → Prop} {E : Value → Shared → Prop} (hA : A = B.in1) (hP : PaOk Pa) (hh : B.handled = none) (hroom : B.depth < recursionLimit) (hpn : Xg.pn = [(a, go)])
    (gen : ∃ nm qn, go.cls = .type "generator" ∧ go.data = .fields #[.int gi 0, nm, qn] ∧ go.slots = #[]) (bs : BS Xg fp tn σ0 Pa gi (Goe Xg fp tn σ0 Pa S Qe A n) pins acc H s) (pa : Pa pins acc)
    (hY : ∀ v x acc' go' H' s1, RelV x v → S acc x acc' go' → Inv Xg pins σ0 H' s1 → (go' = false → Qe acc' H') → (go' = true → BS Xg fp tn σ0 Pa gi (Goe1 Xg fp tn σ0 Pa S Qe A n) pins acc' H' s1) → Q (some v) s1)
    (hN : ∀ H' s1, Qe acc H' → Inv Xg pins σ0 H' s1 → Q none s1) : wpAny (model Xg.prog Xg.w) B (pyNext (.ref a)) Q E s := by
  obtain ⟨i, ls, gs, hgs, hgo⟩ := bs
  obtain ⟨nm, qn, g1, g2, g3⟩ := gen
  have hg : s.heap.IsGen a gi := ⟨go, nm, qn, (ls.1.pin (a, go) (by rw [hpn]; simp)).1, g1, g2, g3⟩
  have hgl : gi < s.gens.size := (Array.getElem?_eq_some_iff.mp hgs).1
  have pin0 : ∀ p ∈ pins, (s.setGen gi .running).heap.get? p.1 = some p.2 := fun p hp => (ls.1.pin p (List.mem_append_right _ hp)).1
  have ls0 : LS Xg fp tn σ0 pins i H (s.setGen gi .running) := ⟨inv_gens ls.1 rfl rfl (allBare_setGen ls.1.bare rfl), ls.2⟩
  refine wpAny_gsz (n := gi + 1) hgl (wpAny_pyNext_genexpQ (P := GPx Xg σ0 Pa Qe) (Y := GYx Xg fp tn σ0 Pa S Qe) hh ls.1.nolimit hroom hg hgs (by rw [← hA]; exact hgo pins _ pa ls0) (fun v s₁ gs' hb hv => ?_) fun s₁ hp h' hk => ?_)
  · obtain ⟨pins1, i1, acc1, x, acc', go', H', p1, pa1, ls1, rx, st, qf, qt⟩ := hv
    obtain ⟨e1, e2⟩ := hP pins pins1 acc acc1 _ pa pa1 pin0 p1
    subst e1
    subst e2
    intro hsz
    have hsz1 : gi < s₁.gens.size := by
      have q : (s₁.setGen gi gs').gens.size = s₁.gens.size := setGen_size _ _ _
      have hsz' : gi + 1 ≤ (s₁.setGen gi gs').gens.size := hsz
      omega
    have I1 : Inv Xg pins1 σ0 H' (s₁.setGen gi gs') := inv_gens ls1.1 rfl rfl (allBare_setGen ls1.1.bare hb)
    refine hY v x acc' go' H' _ rx st I1 qf fun hgo' => ?_
    refine ⟨i1 + 1, ⟨I1, ls1.2⟩, gs', setGen_at hsz1, fun pins' s' pa' ls' => ?_⟩
    have q := qt hgo' pins' s' pa' ls'
    cases n with
    | zero => exact q
    | succ m => rw [hA]; exact q
  · obtain ⟨pins1, acc1, H', p1, pa1, I1, qe⟩ := hp
    obtain ⟨e1, e2⟩ := hP pins pins1 acc acc1 _ pa pa1 pin0 p1
    subst e1
    subst e2
    intro hsz
    exact hN H' _ qe (inv_grown (inv_gens (s' := s₁.setGen gi .finished) I1 rfl rfl (allBare_setGen I1.bare rfl)) hk rfl (allBare_setGen I1.bare rfl))
/-- the consumer has changed its one object -/
theorem inv_repin {Sx : Addr} {o o' : Obj} {σ : L2.St} {H : Hp} {s s' : Shared} (I : Inv Xg [(Sx, o)] σ H s) (hS : Xg.s_0.heap.objs.size ≤ Sx) (hpn : ∀ p ∈ Xg.pn, p.1 ≠ Sx) (os : s'.os = s.os) (bare : AllBare s'.gens)
    (keep : ∀ b ob, b ≠ Sx → s.heap.get? b = some ob → s'.heap.get? b = some ob) (new : s'.heap.get? Sx = some o') (hd : ∀ v, o'.data ≠ .cell v) : Inv Xg [(Sx, o')] σ H s' := by
  obtain ⟨eS, hS0, hSL, hSf, hSd⟩ := I.pin (Sx, o) (List.mem_append_right _ List.mem_cons_self)
  have I0 : Inv Xg [] σ H s := I.pins_of fun p hp => absurd hp (by simp)
  have nt : ∀ b u, H b = some u → b ≠ Sx := fun b u q hb => by rw [hb, hS0] at q; cases q
  obtain ⟨hh, g, d, t, ob⟩ := s'
  have ho : ob = s.os := os
  subst ho
  have nc : ∀ b, b ∉ [Sx] → b ≠ Sx := fun b hb e => hb (by rw [e]; exact List.mem_singleton.mpr rfl)
  have J : Inv Xg [] σ H { s with heap := hh, gens := g, drawn := d, toks := t } := by
    refine I0.step (g' := g) (t' := t) (d' := d) (ch := [Sx]) (fun b hb => ?_)
      (fun b ob _ _ hc q _ => keep b ob (nc b hc) q) (fun b ob _ _ hc q _ => ⟨ob.slots, keep b ob (nc b hc) q⟩) (fun _ _ _ _ n => n) (fun b ob hc q => ⟨ob, keep b ob (nc b hc) q⟩)
      (fun _ _ q => q) (fun _ _ _ q => q) (fun b ps q => ⟨#[], by rw [q]; simp⟩) (fun m hm => ?_) (fun b u q => ?_) bare
    · rw [List.mem_singleton.mp hb]
      refine ⟨.inr hS, Ne.symm (Ne.symm hSL), fun x c e z => ?_, fun p hp => ?_⟩
      · obtain ⟨v, ob, h1, h2⟩ := I.cell x c e
        rw [z, eS] at h1
        cases h1
        exact hSd _ h2
      · rcases List.mem_append.mp hp with hp | hp
        · exact hpn p hp
        · exact absurd hp (by simp)
    · obtain ⟨ob, es, ep, ho, r⟩ := hm
      exact ⟨ob, es, ep, keep _ ob (Ne.symm hSL) ho, r⟩
    · refine (I0.hok b u q).stay (fun c v hc y => keep c v ?_ y) (fun _ y => y) fun _ _ y => y
      rcases hc with y | y
      · rw [y]; exact nt b u q
      · exact nt c _ y
  refine J.pins_of fun p hp => ?_
  rw [List.mem_singleton.mp hp]
  exact ⟨new, hS0, hSL, hSf, hd⟩
theorem BS.repin {F : GenState → Shared → Prop} {Sx : Addr} {o o' : Obj} {acc : V} {H : Hp} {s s' : Shared} (h : BS Xg fp tn σ0 Pa gi F [(Sx, o)] acc H s) (T : ∀ i h h', tn i h → (∀ b ∈ fp, ∀ o, h.get? b = some o → h'.get? b = some o) → tn i h') (hS : Xg.s_0.heap.objs.size ≤ Sx) (hpn : ∀ p ∈ Xg.pn, p.1 ≠ Sx) (os : s'.os = s.os) (gens : s'.gens = s.gens)
    (keep : ∀ b ob, b ≠ Sx → s.heap.get? b = some ob → s'.heap.get? b = some ob) (new : s'.heap.get? Sx = some o') (hd : ∀ v, o'.data ≠ .cell v) : BS Xg fp tn σ0 Pa gi F [(Sx, o')] acc H s' := by
  obtain ⟨i, ls, gs, hgs, hgo⟩ := h
  have ne : ∀ b ∈ fp, b ≠ Sx := fun b hb e => (ls.2.1 b hb).2.2.2.2.2 (Sx, o) (List.mem_append_right _ List.mem_cons_self) e.symm
  refine ⟨i, ⟨inv_repin ls.1 hS hpn os (by rw [gens]; exact ls.1.bare) keep new hd, fun b hb => ?_, T _ _ _ ls.2.2 fun b hb ob e => keep b ob (ne b hb) e⟩, gs, by rw [gens]; exact hgs, hgo⟩
  obtain ⟨f0, f1, f2, f3, f4, f5⟩ := ls.2.1 b hb
  refine ⟨f0, f1, f2, f3, f4, fun p hp => ?_⟩
  rcases List.mem_append.mp hp with hp | hp
  · exact f5 p (List.mem_append_left _ hp)
  · rw [List.mem_singleton.mp hp]
    exact Ne.symm (ne b hb)
end
/-! ### what eats it -/
def stAll : Stp := fun acc x acc' go => (x = .bl true ∧ acc' = .bl true ∧ go = true) ∨ (x = .bl false ∧ acc' = .bl false ∧ go = false)
def stAny : Stp := fun acc x acc' go => (x = .bl false ∧ acc' = .bl false ∧ go = true) ∨ (x = .bl true ∧ acc' = .bl true ∧ go = false)
def stSum : Stp := fun acc x acc' go => ∃ i j : Int, acc = .int i ∧ x = .int j ∧ acc' = .int (i + j) ∧ go = true ∧ InLong j ∧ InLong (i + j)
def paB (b : Bool) : List (Addr × Obj) → V → Prop := fun pins acc => pins = [] ∧ acc = .bl b
def paI (Sx : Addr) : List (Addr × Obj) → V → Prop := fun pins acc => ∃ (i : Int) (t : Tok) (c : Nat), pins = [(Sx, lob #[.int i t] c)] ∧ acc = .int i
theorem paB_ok (b : Bool) : PaOk (paB b) := fun pins pins1 acc acc1 h ⟨h1, h2⟩ ⟨h3, h4⟩ _ _ => ⟨by rw [h1, h3], by rw [h2, h4]⟩
theorem paI_ok (Sx : Addr) : PaOk (paI Sx) := fun pins pins1 acc acc1 h ⟨i, t, c, h1, h2⟩ ⟨i1, t1, c1, h3, h4⟩ p p1 => by
  subst h1
  subst h3
  have e1 := p (Sx, lob #[.int i t] c) List.mem_cons_self
  have e2 := p1 (Sx, lob #[.int i1 t1] c1) List.mem_cons_self
  have e3 : lob #[.int i t] c = lob #[.int i1 t1] c1 := Option.some.inj (e1.symm.trans e2)
  have e4 : i = i1 := by
    have := congrArg Obj.data e3
    simp at this
    exact this.1.1
  rw [e3, h2, h4, e4]
  exact ⟨rfl, rfl⟩
section
variable {Xg : Cx} {fp : List Addr} {tn : Nat → Heap → Prop} {σ0 : L2.St} {Qe : V → Hp → Prop} {B : Around} {a : Addr} {gi : Nat} {go : Obj} {R : Result → Shared → Prop}
theorem all_loop (hh : B.handled = none) (hroom : B.depth < recursionLimit) (hpn : Xg.pn = [(a, go)]) (gen : ∃ nm qn, go.cls = .type "generator" ∧ go.data = .fields #[.int gi 0, nm, qn] ∧ go.slots = #[])
    (hR : ∀ (b : Bool) pins H s, Qe (.bl b) H → Inv Xg pins σ0 H s → R (.ok (.ret (.bool b))) s) : ∀ (n : Nat) (H : Hp) (s : Shared), BS Xg fp tn σ0 (paB true) gi (Goe Xg fp tn σ0 (paB true) stAll Qe B.in1.in1 n) [] (.bl true) H s →
      codeAny (model Xg.prog Xg.w) B (.builtin "all.loop" ⟨[.ref a], []⟩) R s := by
  intro n
  induction n with
  | zero =>
    intro H s bs
    refine codeAny_builtin F.entry_all_loop ?_
    rw [Around.under_plainId F.plain_all_loop _]
    show wpAny _ B.in1 (pyNext (.ref a) >>= _) _ _ s
    refine wpAny_bind (next_g (B := B.in1) rfl (paB_ok true) hh hroom hpn gen bs ⟨rfl, rfl⟩ (fun v x acc' go' H' s1 rx st I1 qf qt => ?_) fun H' s1 qe I1 => ?_)
    · rcases st with ⟨rfl, rfl, rfl⟩ | ⟨rfl, rfl, rfl⟩
      · obtain ⟨m, hm, _⟩ := (qt rfl).less ⟨rfl, rfl⟩
        omega
      · cases rx
        refine wpAny_bind (wpAny_holding (wpAny_truthy_bool ?_))
        refine wpAny_bind (wpAny_letGo ?_)
        simp only [Bool.false_eq_true, if_false]
        first
          | exact wpAny_pure (hR false _ H' s1 (qf rfl) I1)
          | exact wpAny_bind (wpAny_rule (wpAny_pure (hR false _ H' s1 (qf rfl) I1)))
    · exact wpAny_bind (wpAny_rule (wpAny_pure (hR true _ H' s1 qe I1)))
  | succ n ih =>
    intro H s bs
    refine codeAny_builtin F.entry_all_loop ?_
    rw [Around.under_plainId F.plain_all_loop _]
    show wpAny _ B.in1 (pyNext (.ref a) >>= _) _ _ s
    refine wpAny_bind (next_g (B := B.in1) rfl (paB_ok true) hh hroom hpn gen bs ⟨rfl, rfl⟩ (fun v x acc' go' H' s1 rx st I1 qf qt => ?_) fun H' s1 qe I1 => ?_)
    · rcases st with ⟨rfl, rfl, rfl⟩ | ⟨rfl, rfl, rfl⟩
      · cases rx
        refine wpAny_bind (wpAny_holding (wpAny_truthy_bool ?_))
        refine wpAny_bind (wpAny_letGo ?_)
        simp only [if_true]
        obtain ⟨m, hm, b2⟩ := (qt rfl).less ⟨rfl, rfl⟩
        obtain rfl : n = m := by omega
        exact wpAny_pure ⟨plainId_quiet F.plain_all_loop _, ih H' s1 b2⟩
      · cases rx
        refine wpAny_bind (wpAny_holding (wpAny_truthy_bool ?_))
        refine wpAny_bind (wpAny_letGo ?_)
        simp only [Bool.false_eq_true, if_false]
        first
          | exact wpAny_pure (hR false _ H' s1 (qf rfl) I1)
          | exact wpAny_bind (wpAny_rule (wpAny_pure (hR false _ H' s1 (qf rfl) I1)))
    · exact wpAny_bind (wpAny_rule (wpAny_pure (hR true _ H' s1 qe I1)))
theorem any_loop (hh : B.handled = none) (hroom : B.depth < recursionLimit) (hpn : Xg.pn = [(a, go)]) (gen : ∃ nm qn, go.cls = .type "generator" ∧ go.data = .fields #[.int gi 0, nm, qn] ∧ go.slots = #[])
    (hR : ∀ (b : Bool) pins H s, Qe (.bl b) H → Inv Xg pins σ0 H s → R (.ok (.ret (.bool b))) s) : ∀ (n : Nat) (H : Hp) (s : Shared), BS Xg fp tn σ0 (paB false) gi (Goe Xg fp tn σ0 (paB false) stAny Qe B.in1.in1 n) [] (.bl false) H s →
      codeAny (model Xg.prog Xg.w) B (.builtin "any.loop" ⟨[.ref a], []⟩) R s := by
  intro n
  induction n with
  | zero =>
    intro H s bs
    refine codeAny_builtin F.entry_any_loop ?_
    rw [Around.under_plainId F.plain_any_loop _]
    show wpAny _ B.in1 (pyNext (.ref a) >>= _) _ _ s
    refine wpAny_bind (next_g (B := B.in1) rfl (paB_ok false) hh hroom hpn gen bs ⟨rfl, rfl⟩ (fun v x acc' go' H' s1 rx st I1 qf qt => ?_) fun H' s1 qe I1 => ?_)
    · rcases st with ⟨rfl, rfl, rfl⟩ | ⟨rfl, rfl, rfl⟩
      · obtain ⟨m, hm, _⟩ := (qt rfl).less ⟨rfl, rfl⟩
        omega
      · cases rx
        refine wpAny_bind (wpAny_holding (wpAny_truthy_bool ?_))
        refine wpAny_bind (wpAny_letGo ?_)
        simp only [if_true]
        first
          | exact wpAny_pure (hR true _ H' s1 (qf rfl) I1)
          | exact wpAny_bind (wpAny_rule (wpAny_pure (hR true _ H' s1 (qf rfl) I1)))
    · exact wpAny_bind (wpAny_rule (wpAny_pure (hR false _ H' s1 qe I1)))
  | succ n ih =>
    intro H s bs
    refine codeAny_builtin F.entry_any_loop ?_
    rw [Around.under_plainId F.plain_any_loop _]
    show wpAny _ B.in1 (pyNext (.ref a) >>= _) _ _ s
    refine wpAny_bind (next_g (B := B.in1) rfl (paB_ok false) hh hroom hpn gen bs ⟨rfl, rfl⟩ (fun v x acc' go' H' s1 rx st I1 qf qt => ?_) fun H' s1 qe I1 => ?_)
    · rcases st with ⟨rfl, rfl, rfl⟩ | ⟨rfl, rfl, rfl⟩
      · cases rx
        refine wpAny_bind (wpAny_holding (wpAny_truthy_bool ?_))
        refine wpAny_bind (wpAny_letGo ?_)
        simp only [Bool.false_eq_true, if_false]
        obtain ⟨m, hm, b2⟩ := (qt rfl).less ⟨rfl, rfl⟩
        obtain rfl : n = m := by omega
        exact wpAny_pure ⟨plainId_quiet F.plain_any_loop _, ih H' s1 b2⟩
      · cases rx
        refine wpAny_bind (wpAny_holding (wpAny_truthy_bool ?_))
        refine wpAny_bind (wpAny_letGo ?_)
        simp only [if_true]
        first
          | exact wpAny_pure (hR true _ H' s1 (qf rfl) I1)
          | exact wpAny_bind (wpAny_rule (wpAny_pure (hR true _ H' s1 (qf rfl) I1)))
    · exact wpAny_bind (wpAny_rule (wpAny_pure (hR false _ H' s1 qe I1)))
theorem sum_loop {Sx : Addr} (hh : B.handled = none) (hroom : B.depth < recursionLimit) (hpn : Xg.pn = [(a, go)]) (gen : ∃ nm qn, go.cls = .type "generator" ∧ go.data = .fields #[.int gi 0, nm, qn] ∧ go.slots = #[])
    (T : ∀ i h h', tn i h → (∀ b ∈ fp, ∀ o, h.get? b = some o → h'.get? b = some o) → tn i h') (hS : Xg.s_0.heap.objs.size ≤ Sx) (ha : a ≠ Sx)
    (hR : ∀ (i : Int) (t : Tok) pins H s, Qe (.int i) H → Inv Xg pins σ0 H s → R (.ok (.ret (.int i t))) s) : ∀ (n : Nat) (i : Int) (t : Tok) (c : Nat) (H : Hp) (s : Shared),
      BS Xg fp tn σ0 (paI Sx) gi (Goe Xg fp tn σ0 (paI Sx) stSum Qe B.in1.in1 n) [(Sx, lob #[.int i t] c)] (.int i) H s →
      codeAny (model Xg.prog Xg.w) B (.builtin "sum.loop" ⟨[.ref a, .ref Sx, rawInt 0, rawInt 0], []⟩) R s := by
  intro n
  induction n with
  | zero =>
    intro i t c H s bs
    have eS : s.heap.get? Sx = some (lob #[.int i t] c) := by
      obtain ⟨j, ls, _⟩ := bs
      exact (ls.1.pin (Sx, lob #[.int i t] c) (List.mem_append_right _ List.mem_cons_self)).1
    refine codeAny_builtin F.entry_sum_loop ?_
    rw [Around.under_plainId F.plain_sum_loop _]
    show wpAny _ B.in1 (seqItems? (.ref Sx) >>= _) _ _ s
    refine wpAny_bind (wpAny_seqItems eS rfl ?_)
    show wpAny _ B.in1 (tryCatch (pyNext (.ref a)) _ >>= _) _ _ s
    refine wpAny_bind (wpAny_tryCatch (next_g (B := B.in1) rfl (paI_ok Sx) hh hroom hpn gen bs ⟨i, t, c, rfl, rfl⟩ (fun v x acc' go' H' s1 rx st I1 qf qt => ?_) fun H' s1 qe I1 => ?_))
    · obtain ⟨i', j, e1, e2, e3, e4, _⟩ := st
      subst e4
      have q := qt rfl
      have b2 := q.repin (o' := lob #[.int (i' + j) t] c) (s' := { s1 with heap := s1.heap.update Sx (Obj.mapSeq fun _ => #[.int (i' + j) t]) }) T hS (fun p hp => by rw [hpn] at hp; rw [List.mem_singleton.mp hp]; exact ha) rfl rfl (fun b ob hb e => (Heap.get?_update_other _ _ (Ne.symm hb)).trans e)
        (Heap.get?_update_self _ (by
          obtain ⟨j, ls, _⟩ := q
          exact (ls.1.pin (Sx, lob #[.int i t] c) (List.mem_append_right _ List.mem_cons_self)).1) rfl) (fun v q => by cases q)
      obtain ⟨m, hm, _⟩ := b2.less ⟨i' + j, t, c, rfl, e3⟩
      omega
    · exact wpAny_pure (hR i t _ H' s1 qe I1)
  | succ n ih =>
    intro i t c H s bs
    have eS : s.heap.get? Sx = some (lob #[.int i t] c) := by
      obtain ⟨j, ls, _⟩ := bs
      exact (ls.1.pin (Sx, lob #[.int i t] c) (List.mem_append_right _ List.mem_cons_self)).1
    refine codeAny_builtin F.entry_sum_loop ?_
    rw [Around.under_plainId F.plain_sum_loop _]
    show wpAny _ B.in1 (seqItems? (.ref Sx) >>= _) _ _ s
    refine wpAny_bind (wpAny_seqItems eS rfl ?_)
    show wpAny _ B.in1 (tryCatch (pyNext (.ref a)) _ >>= _) _ _ s
    refine wpAny_bind (wpAny_tryCatch (next_g (B := B.in1) rfl (paI_ok Sx) hh hroom hpn gen bs ⟨i, t, c, rfl, rfl⟩ (fun v x acc' go' H' s1 rx st I1 qf qt => ?_) fun H' s1 qe I1 => ?_))
    · obtain ⟨i', j, e1, e2, e3, e4, ⟨f1, f2⟩, f3, f4⟩ := st
      cases e1
      subst e2
      subst e3
      subst e4
      obtain ⟨tj, rfl⟩ := rx
      have eS1 : s1.heap.get? Sx = some (lob #[.int i t] c) := (I1.pin (Sx, lob #[.int i t] c) (List.mem_append_right _ List.mem_cons_self)).1
      have hc : ((decide (-(2 ^ 63) ≤ j) && decide (j < 2 ^ 63)) && (decide (-(2 ^ 63) ≤ i + j) && decide (i + j < 2 ^ 63))) = true := by
        simp only [Bool.and_eq_true, decide_eq_true_eq]
        exact ⟨⟨f1, f2⟩, f3, f4⟩
      show wpAny _ B.in1 (if (_ : Bool) = true then (mkInt (i + j) >>= _) else _) _ _ _
      split
      · refine wpAny_bind (wpAny_mkInt ?_)
        show wpAny _ B.in1 (updateSeq Sx (fun _ => #[.int (i + j) s1.toks]) >>= _) _ _ _
        refine wpAny_bind ?_
        have b2 := (qt rfl).repin (o' := lob #[.int (i + j) s1.toks] c) (s' := { s1 with toks := s1.toks + 1, heap := s1.heap.update Sx (Obj.mapSeq fun _ => #[.int (i + j) s1.toks]) }) T hS (fun p hp => by rw [hpn] at hp; rw [List.mem_singleton.mp hp]; exact ha) rfl rfl (fun b ob hb e => (Heap.get?_update_other _ _ (Ne.symm hb)).trans e)
          (Heap.get?_update_self _ eS1 rfl) (fun v q => by cases q)
        obtain ⟨m, hm, b3⟩ := b2.less ⟨i + j, s1.toks, _, rfl, rfl⟩
        obtain rfl : n = m := by omega
        exact wpAny_updateSeq eS1 rfl (wpAny_pure ⟨plainId_quiet F.plain_sum_loop _, ih (i + j) s1.toks _ H' _ b3⟩)
      · rename_i hneg
        exact absurd hc hneg
    · exact wpAny_pure (hR i t _ H' s1 qe I1)
end
end Sk

set_option maxHeartbeats 1000000
/-! Sk, part 16: sum, all, any of a generator expression. -/
namespace Sk
open PySem PySem.Spec PyProof.Rows L2 GenW GxR
def tGen (P : Addr) (wi : TI) (g : TG) (te : TE) (own : List Nat) (acc0 : V) (S : Stp) : TE := fun σ H Q => wi σ H fun J H1 => TabG H1 P ∧ ∀ H2, Tabbed P H1 H2 → ∃ W n, W 0 n acc0 H2 ∧ Turns J g te own (wipe σ own) S Q W
section
variable {X : Cx} {k : Nat} {c P : Addr} {scope : Scope} {own : List Nat} {tg elt iter : Expr} {gpos p pos : Pos} {wi : TI} {g : TG} {te : TE}
/-- the first sleep -/
theorem bs_start {pins : List (Addr × Obj)} {σ : L2.St} {J : It} {code : Value} {s4 s5 s6 : Shared} {H4 : Hp} {fp : List Addr} {it : Addr} {tn : Nat → Heap → Prop} {a : Addr} {gi : Nat} {go : Obj} {Pa : List (Addr × Obj) → V → Prop} {S : Stp} {Qe : V → Hp → Prop} {W : Nat → Nat → V → Hp → Prop} {n : Nat} {acc : V} {pins' : List (Addr × Obj)}
    (hc : X.calm = true) (G : GSc X.N X.env.scope scope own) (hg : PG (cxG X scope code s4 H4 [(a, go)] fp) tg g) (he : PE (cxG X scope code s4 H4 [(a, go)] fp) elt te)
    (M : Made X pins σ tg elt iter scope gpos J code s4 H4 fp it tn a gi go s5) (w : W 0 n acc H4) (tu : Turns J g te own (wipe σ own) S Qe W) (kp : ∀ b o, s5.heap.get? b = some o → s6.heap.get? b = some o) (os : s6.os = s5.os) (gens : s6.gens = s5.gens)
    (hp : ∀ q ∈ pins', s6.heap.get? q.1 = some q.2 ∧ s4.heap.objs.size < q.1 ∧ ∀ v, q.2.data ≠ .cell v) :
    BS (cxG X scope code s4 H4 [(a, go)] fp) fp tn (wipe σ own) Pa gi (Goe (cxG X scope code s4 H4 [(a, go)] fp) fp tn (wipe σ own) Pa S Qe X.A.in1.in1 n) pins' acc H4 s6 := by
  have lt : ∀ b ∈ fp, ∃ o, s4.heap.get? b = some o := fun b hb => let ⟨o, e, _⟩ := M.T.obj _ _ M.tn0 b hb; ⟨o, e⟩
  obtain ⟨m, ns⟩ := M.ns
  have I6 : Inv (cxG X scope code s4 H4 [(a, go)] fp) pins' (wipe σ own) H4 s6 := by
    refine inv_gen M.I4 hc G M.ff lt (fun b o e => kp b o (M.keep b o e)) (os.trans M.os) (by rw [gens]; exact M.bare) (ns.keeps kp) fun q hq => ?_
    rcases List.mem_append.mp hq with hq | hq
    · rw [List.mem_singleton.mp hq]
      refine ⟨kp _ _ M.obj, M.ga, fun v z => ?_⟩
      obtain ⟨nm, qn, _, d, _⟩ := M.gen
      have z : go.data = .cell v := z
      rw [d] at z
      cases z
    · exact hp q hq
  refine ⟨0, ⟨I6, fun b hb => ?_, M.T.keep _ _ _ M.tn0 fun b hb o e => kp b o (M.keep b o e)⟩, GenState.fresh (.compStart (.GeneratorExp elt [⟨tg, iter, [], 0⟩] scope gpos) 0 (.ref it) .none (envG X scope code s4.heap.objs.size)), by rw [gens]; exact M.gs, fun pins2 s7 pa ls => ⟨rfl, ?_⟩⟩
  · obtain ⟨o, e⟩ := lt b hb
    have hl := Heap.lt_size e
    refine ⟨(M.ff b hb).1, Nat.ne_of_lt hl, I6.ok.exfs b hb, .inl hb, fun x c e => (I6.ok.exf b hb).2 x c e, fun q hq => ?_⟩
    rcases List.mem_append.mp hq with hq | hq
    · have hq : q ∈ [(a, go)] := hq
      rw [List.mem_singleton.mp hq]
      exact Nat.ne_of_gt (Nat.lt_trans hl M.ga)
    · exact Nat.ne_of_gt (Nat.lt_trans hl (hp q hq).2.1)
  · exact seg_start (Xg := cxG X scope code s4 H4 [(a, go)] fp) (A := X.A.in1.in1) rfl rfl G.co rfl M.T hg he (fun _ _ z => z) tu n acc H4 pins2 s7 s7 w pa (fun q hq => (ls.1.pin q (List.mem_append_right _ hq)).1) ls
variable (hr : Room k X.A) (hc : X.calm = true) (TB : TabB X.base X.mg c P) (hcode : X.env.code = .ref c) (G : GSc X.N X.env.scope scope own) (hi : PI X tg iter wi)
  (hpg : ∀ (code : Value) (s : Shared) (H : Hp) (pn : List (Addr × Obj)) (fp : List Addr), PG (cxG X scope code s H pn fp) tg g) (hpe : ∀ (code : Value) (s : Shared) (H : Hp) (pn : List (Addr × Obj)) (fp : List Addr), PE (cxG X scope code s H pn fp) elt te)
include hr hc TB hcode G hi hpg hpe
theorem pe_allG (hg : Gl X "all") (hm : X.mg "all" = none) (hs : ∀ v, genFold iter X.env v = pure v := by intro _; rfl)
    (he : starEach [.GeneratorExp elt [⟨tg, iter, [], 0⟩] scope gpos] X.env = (false, eval (.GeneratorExp elt [⟨tg, iter, [], 0⟩] scope gpos) X.env) :: starEach [] X.env := by rfl) :
    PE X (.Call (.Name "all" p) [.GeneratorExp elt [⟨tg, iter, [], 0⟩] scope gpos] [] pos) (tGen P wi g te own (.bl true) stAll) := by
  refine ⟨fun pins s σ H Q I h => ?_⟩
  refine wpAny_Call_Name_kw (ld_blt I hg hm boot_all ?_)
  refine PyProof.Rows.callWith_builtin1 ?_ he (by rfl)
  rw [he]
  show wpAny _ _ (spliced ((false, eval (.GeneratorExp elt [⟨tg, iter, [], 0⟩] scope gpos) X.env) :: backTo pos (starEach [] X.env))) _ _ s
  refine Calls.spliced_cons (gen_made hr TB hcode G hi hs I h fun J code s4 H4 fp it tn a gi go s5 ⟨W, n, w, tu⟩ M => ?_)
  refine Calls.spliced_nil ?_
  have hgen : s5.heap.IsGen a gi := let ⟨nm, qn, d1, d2, d3⟩ := M.gen; ⟨go, nm, qn, M.obj, d1, d2, d3⟩
  refine call_function_tree F.kind_all F.plain_all F.entry_all (F.args_all1 _) ?_
  unfold Builtin.«all»
  refine wpAny_bind (m := oneArg "all" _) (wpAny_pure ?_)
  refine wpAny_bind (wpAny_pyIter_gen hgen ?_)
  have bs := bs_start (s6 := s5) (Pa := paB true) (pins' := []) hc G (hpg code s4 H4 [(a, go)] fp) (hpe code s4 H4 [(a, go)] fp) M w tu (fun _ _ e => e) rfl rfl (fun q hq => absurd hq (by simp))
  exact wpAny_pure ⟨plainId_quiet F.plain_all_loop _, all_loop (Xg := cxG X scope code s4 H4 [(a, go)] fp) (B := X.A) hr.hd hr.depth rfl M.gen (fun b pins2 H2 s2 q I2 => ⟨.bl b, H2, inv_back M.I4 M.ff I2, rfl, q⟩) n H4 s5 bs⟩
theorem pe_anyG (hg : Gl X "any") (hm : X.mg "any" = none) (hs : ∀ v, genFold iter X.env v = pure v := by intro _; rfl)
    (he : starEach [.GeneratorExp elt [⟨tg, iter, [], 0⟩] scope gpos] X.env = (false, eval (.GeneratorExp elt [⟨tg, iter, [], 0⟩] scope gpos) X.env) :: starEach [] X.env := by rfl) :
    PE X (.Call (.Name "any" p) [.GeneratorExp elt [⟨tg, iter, [], 0⟩] scope gpos] [] pos) (tGen P wi g te own (.bl false) stAny) := by
  refine ⟨fun pins s σ H Q I h => ?_⟩
  refine wpAny_Call_Name_kw (ld_blt I hg hm boot_any ?_)
  refine PyProof.Rows.callWith_builtin1 ?_ he (by rfl)
  rw [he]
  show wpAny _ _ (spliced ((false, eval (.GeneratorExp elt [⟨tg, iter, [], 0⟩] scope gpos) X.env) :: backTo pos (starEach [] X.env))) _ _ s
  refine Calls.spliced_cons (gen_made hr TB hcode G hi hs I h fun J code s4 H4 fp it tn a gi go s5 ⟨W, n, w, tu⟩ M => ?_)
  refine Calls.spliced_nil ?_
  have hgen : s5.heap.IsGen a gi := let ⟨nm, qn, d1, d2, d3⟩ := M.gen; ⟨go, nm, qn, M.obj, d1, d2, d3⟩
  refine call_function_tree F.kind_any F.plain_any F.entry_any (F.args_any1 _) ?_
  unfold Builtin.«any»
  refine wpAny_bind (m := oneArg "any" _) (wpAny_pure ?_)
  refine wpAny_bind (wpAny_pyIter_gen hgen ?_)
  have bs := bs_start (s6 := s5) (Pa := paB false) (pins' := []) hc G (hpg code s4 H4 [(a, go)] fp) (hpe code s4 H4 [(a, go)] fp) M w tu (fun _ _ e => e) rfl rfl (fun q hq => absurd hq (by simp))
  exact wpAny_pure ⟨plainId_quiet F.plain_any_loop _, any_loop (Xg := cxG X scope code s4 H4 [(a, go)] fp) (B := X.A) hr.hd hr.depth rfl M.gen (fun b pins2 H2 s2 q I2 => ⟨.bl b, H2, inv_back M.I4 M.ff I2, rfl, q⟩) n H4 s5 bs⟩
theorem pe_sumG (hg : Gl X "sum") (hm : X.mg "sum" = none) (hs : ∀ v, genFold iter X.env v = pure v := by intro _; rfl)
    (he : starEach [.GeneratorExp elt [⟨tg, iter, [], 0⟩] scope gpos] X.env = (false, eval (.GeneratorExp elt [⟨tg, iter, [], 0⟩] scope gpos) X.env) :: starEach [] X.env := by rfl) :
    PE X (.Call (.Name "sum" p) [.GeneratorExp elt [⟨tg, iter, [], 0⟩] scope gpos] [] pos) (tGen P wi g te own (.int 0) stSum) := by
  refine ⟨fun pins s σ H Q I h => ?_⟩
  refine wpAny_Call_Name_kw (ld_blt I hg hm boot_sum ?_)
  refine PyProof.Rows.callWith_builtin1 ?_ he (by rfl)
  rw [he]
  show wpAny _ _ (spliced ((false, eval (.GeneratorExp elt [⟨tg, iter, [], 0⟩] scope gpos) X.env) :: backTo pos (starEach [] X.env))) _ _ s
  refine Calls.spliced_cons (gen_made hr TB hcode G hi hs I h fun J code s4 H4 fp it tn a gi go s5 ⟨W, n, w, tu⟩ M => ?_)
  refine Calls.spliced_nil ?_
  have hgen : s5.heap.IsGen a gi := let ⟨nm, qn, d1, d2, d3⟩ := M.gen; ⟨go, nm, qn, M.obj, d1, d2, d3⟩
  have hlt : a < s5.heap.objs.size := Heap.lt_size M.obj
  refine call_function_tree F.kind_sum F.plain_sum F.entry_sum (F.args_sum1 _) ?_
  unfold Builtin.«sum»
  simp only [List.length_cons, List.length_nil]
  rw [if_neg (by decide)]
  refine wpAny_bind (wpAny_of_eq (show Builtin.Builtins.bindParams "sum" ["start"] 0 { } = pure [none] from rfl) ?_)
  refine wpAny_bind (wpAny_pyIter_gen hgen ?_)
  refine wpAny_bind (wpAny_mkInt ?_)
  refine wpAny_bind (wpAny_pure ?_)
  simp only [List.forIn_cons, List.forIn_nil]
  refine wpAny_bind (wpAny_bind (wpAny_bind (wpAny_isInstance (T := "int") (b := false) (typeIs_int _ _ _) PySem.sub_int_str ?_)))
  simp only [Bool.false_eq_true, if_false]
  refine wpAny_pure (wpAny_bind (wpAny_bind (wpAny_isInstance (T := "int") (b := false) (typeIs_int _ _ _) PySem.sub_int_bytes ?_)))
  simp only [Bool.false_eq_true, if_false]
  refine wpAny_pure (wpAny_bind (wpAny_bind (wpAny_isInstance (T := "int") (b := false) (typeIs_int _ _ _) PySem.sub_int_bytearray ?_)))
  simp only [Bool.false_eq_true, if_false]
  refine wpAny_pure (wpAny_pure ?_)
  refine wpAny_bind (wpAny_newObj_type ?_)
  refine wpAny_pure ⟨plainId_quiet F.plain_sum_loop _, ?_⟩
  have sS : s4.heap.objs.size < s5.heap.objs.size := Nat.lt_trans M.ga hlt
  refine sum_loop (Xg := cxG X scope code s4 H4 [(a, go)] fp) (B := X.A) (Sx := s5.heap.objs.size) hr.hd hr.depth rfl M.gen M.T.keep (Nat.le_of_lt sS) (Nat.ne_of_lt hlt) (fun i t pins2 H2 s2 q I2 => ⟨.int i, H2, inv_back M.I4 M.ff I2, ⟨t, rfl⟩, q⟩) n 0 s5.toks 0 H4 _
    (bs_start (Pa := paI s5.heap.objs.size) hc G (hpg code s4 H4 [(a, go)] fp) (hpe code s4 H4 [(a, go)] fp) M w tu (fun b o e => Heap.get?_push_of_some _ e) rfl rfl fun q hq => ?_)
  rw [List.mem_singleton.mp hq]
  exact ⟨Heap.get?_push_size _ rfl, sS, fun v z => by cases z⟩
end
/-! ### in our words -/
def genTurn (t : CT) (e : CE) (x : Va) (ev : Ev) (st : Sto) : Rs Va := ((t x ev st).bind fun ev1 st1 => e ev1 st1).calm
abbrev Eat := Va → Va → Option (Va × Bool)
def genL (l : Lk) (f : Va → Ev → Sto → Rs Va) (k : Eat) : List Va → Va → Ev → Sto → Rs Va
  | [], acc => fun _ st => if lkOk l st = true then .ok acc st else .bad
  | x :: r, acc => fun ev st => if lkOk l st = true then (f x ev st).bind fun y st1 => match k acc y with
    | some (a, true) => genL l f k r a ev st1
    | some (a, false) => .ok a st1
    | none => .bad else .bad
def dGen (k : Eat) (acc0 : Va) (it : CI) (own : List Nat) (t : CT) (e : CE) : CE := fun ev st => (it ev st).bind fun p st1 => genL p.2 (genTurn t e) k p.1 acc0 (wipeE ev own) st1
def eatAll : Eat := fun _ y => match y with
  | .dat (.bool true) => some (.dat (.bool true), true)
  | .dat (.bool false) => some (.dat (.bool false), false)
  | _ => none
def eatAny : Eat := fun _ y => match y with
  | .dat (.bool false) => some (.dat (.bool false), true)
  | .dat (.bool true) => some (.dat (.bool true), false)
  | _ => none
def long (i : Int) : Bool := decide (-9223372036854775808 ≤ i) && decide (i < 9223372036854775808)
theorem long_in {i : Int} (h : long i = true) : InLong i := by
  unfold long at h
  simp only [Bool.and_eq_true, decide_eq_true_eq] at h
  unfold InLong
  omega
def eatSum : Eat := fun a y => match a, y with
  | .dat (.int i), .dat (.int j) => if (long j && long (i + j)) = true then some (.dat (.int (i + j)), true) else none
  | _, _ => none
def accV : Va → Option V
  | .dat (.int i) => some (.int i)
  | .dat (.bool b) => some (.bl b)
  | _ => none
theorem accV_rel {C : Cfg} {H : Hp} {M : Addr → Prop} {m : List Addr} {a : Va} {v : V} (h : accV a = some v) : RV C H M m v a := by
  unfold accV at h
  split at h <;> cases h
  · exact .dat (.int _)
  · exact .dat (.bl _)
def EatS (C : Cfg) (k : Eat) (S : Stp) : Prop := ∀ (H : Hp) (M : Addr → Prop) (m : List Addr) (a y a' : Va) (va v : V) (go : Bool), accV a = some va → RV C H M m v y → k a y = some (a', go) → ∃ va', accV a' = some va' ∧ S va v va' go
section
variable {C : Cfg}
theorem eats_all : EatS C eatAll stAll := fun H M m a y a' va v go ha rv e => by
  unfold eatAll at e
  split at e
  · cases e; cases rv with | dat rd => cases rd; exact ⟨_, rfl, .inl ⟨rfl, rfl, rfl⟩⟩
  · cases e; cases rv with | dat rd => cases rd; exact ⟨_, rfl, .inr ⟨rfl, rfl, rfl⟩⟩
  · cases e
theorem eats_any : EatS C eatAny stAny := fun H M m a y a' va v go ha rv e => by
  unfold eatAny at e
  split at e
  · cases e; cases rv with | dat rd => cases rd; exact ⟨_, rfl, .inl ⟨rfl, rfl, rfl⟩⟩
  · cases e; cases rv with | dat rd => cases rd; exact ⟨_, rfl, .inr ⟨rfl, rfl, rfl⟩⟩
  · cases e
theorem eats_sum : EatS C eatSum stSum := fun H M m a y a' va v go ha rv e => by
  unfold eatSum at e
  split at e
  · rename_i i j
    split at e
    · rename_i hl
      rw [Bool.and_eq_true] at hl
      cases e
      cases ha
      cases rv with
      | dat rd => cases rd; exact ⟨_, rfl, i, j, rfl, rfl, rfl, rfl, long_in hl.1, long_in hl.2⟩
    · cases e
  · cases e
theorem RH.tabbed {M0 : Addr → Prop} {m : List Addr} {H H2 : Hp} {st : Sto} {P : Addr} (rh : RH C M0 m H st) (hP : (P, none) ∈ C.T) (hq : ∀ q, (P, some q) ∉ C.T) (t : Tabbed P H H2) : Go m H m H2 ∧ RH C M0 m H2 st := by
  obtain ⟨ps, hp1, _⟩ := rh.tb _ hP
  have hp1 : H P = some (.tbl ps) := hp1
  obtain ⟨⟨ps2, hp2, ht2⟩, same⟩ := t
  have ne : ∀ b o, H b = some o → NoTbl o → b ≠ P := fun b o h n e => by rw [e, hp1] at h; cases h; exact n ps rfl
  have g : Go m H m H2 := by
    refine ⟨⟨[], by simp⟩, fun b o h _ n => by rw [same b (ne b o h n)]; exact h, fun b qs h => ?_, fun a h n => absurd h n⟩
    by_cases e : b = P
    · rw [e]; exact ⟨ps2, hp2⟩
    · exact ⟨qs, by rw [same b e]; exact h⟩
  have mu' : ∀ a ∈ m, H2 a = H a := fun a ha => by
    obtain ⟨o, e, x⟩ := rh.mu a ha
    exact same a (ne a o e (mut_notbl x))
  refine ⟨g, ⟨fun a h => ?_, rh.len, rh.nd, rh.dj, fun a ha => ?_, fun n o hn => ?_, fun p hp => ?_⟩⟩
  · obtain ⟨o, e⟩ := rh.m0 a h
    by_cases z : a = P
    · rw [z]; exact ⟨_, hp2⟩
    · exact ⟨o, by rw [same a z]; exact e⟩
  · obtain ⟨o, e, x⟩ := rh.mu a ha
    exact ⟨o, by rw [mu' a ha]; exact e, x⟩
  · obtain ⟨a, ha, r⟩ := rh.ob n o hn
    exact ⟨a, ha, r.go g rh.mu (mu' a (List.mem_of_getElem? ha))⟩
  · by_cases z : p.1 = P
    · obtain ⟨p1, p2⟩ := p
      have z : p1 = P := z
      subst z
      refine ⟨ps2, hp2, ht2, fun q e => ?_⟩
      have e : p2 = some q := e
      subst e
      exact absurd hp (hq q)
    · obtain ⟨qs, h1, h2, h3⟩ := rh.tb p hp
      refine ⟨qs, by rw [same _ z]; exact h1, h2, fun q e pos cv hc => ?_⟩
      obtain ⟨c, e1, e2⟩ := h3 q e pos cv hc
      exact ⟨c, e1, by rw [same c (ne c _ e2 fun ps z => nomatch z)]; exact e2⟩
variable {W : WX} {P : Addr} {own : List Nat} {wi : CI} {g : TG} {t : CT} {ce : CE} {k : Eat} {S : Stp} {a0 : Va} {v0 : V}
theorem gen_of (hP : (P, none) ∈ C.T) (hq : ∀ q, (P, some q) ∉ C.T) (hT : CompT C own g t) (hS : EatS C k S) (h0 : accV a0 = some v0) (s : L2.St) (H : Hp) (Q : VK) (h : tE C W (dGen k a0 wi own t ce) s H Q) :
    tGen P (tI C W wi) g (tE C W0 ce) own v0 S s H Q :=
  tG.bind (R := relI) (k := fun p ev st1 => genL p.2 (genTurn t ce) k p.1 a0 (wipeE ev own) st1) h fun M0 m ev st p J H1 rh re rj fin => by
    obtain ⟨items, l⟩ := p
    refine ⟨?_, fun H2 tb => ?_⟩
    · obtain ⟨ps, h1, h2, _⟩ := rh.tb _ hP
      exact ⟨ps, h1, h2⟩
    · obtain ⟨g2, rh2⟩ := rh.tabbed hP hq tb
      refine ⟨fun i n acc H' => n = items.length - i ∧ i ≤ items.length ∧ ∃ m' st' a, accV a = some acc ∧ Go m H1 m' H' ∧ RH C M0 m' H' st' ∧ RE C H' M0 m' (wipe s own) (wipeE ev own) ∧
          Fin C M0 m H1 (WE W s) (genL l (genTurn t ce) k (items.drop i) a (wipeE ev own) st') Q,
        items.length, ⟨rfl, Nat.zero_le _, m, st, a0, h0, g2, rh2, wipe_re (re.go g2 rh.mu) own, fin⟩, ?_⟩
      rintro i n acc H' ⟨rfl, hi, m', st', a, ha, g', rh', re', fin'⟩
      by_cases hlt : i < items.length
      · rw [List.drop_eq_getElem_cons hlt] at fin'
        have fin' : Fin C M0 m H1 (WE W s) (if lkOk l st' = true then (genTurn t ce items[i] (wipeE ev own) st').bind fun y st1 => match k a y with
          | some (a, true) => genL l (genTurn t ce) k (items.drop (i + 1)) a (wipeE ev own) st1
          | some (a, false) => .ok a st1
          | none => .bad else .bad) Q := fin'
        cases hl : lkOk l st' with
        | false => rw [hl] at fin'; exact fin'.elim
        | true =>
          rw [hl] at fin'
          simp only [if_true] at fin'
          obtain ⟨go, yld⟩ := (rj M0 m' H' st' g' (fun a z => .inl z) rh' hl i).1 hlt
          refine .inr ⟨items.length - (i + 1), by omega, go, fun x H3 hy => ?_⟩
          obtain ⟨sm, y, ey, ry⟩ := yld x H3 hy
          rw [List.getElem?_eq_getElem hlt] at ey
          cases ey
          have g3 : Go m' H' m' H3 := Go.same sm
          have rh3 := rh'.same sm
          have re3 := re'.go g3 rh'.mu
          rw [show genTurn t ce items[i] (wipeE ev own) st' = ((t items[i] (wipeE ev own) st').bind fun ev1 st1 => ce ev1 st1).calm from rfl] at fin'
          cases ht : t items[i] (wipeE ev own) st' with
          | bad => rw [ht] at fin'; exact fin'.elim
          | err _ _ => rw [ht] at fin'; exact fin'.elim
          | ok ev1 sa =>
            rw [ht] at fin'
            simp only [Rs.bind_ok] at fin'
            refine hT M0 m' H3 _ st' (wipe s own) items[i] x _ rh3 re3 ry ev1 sa ht fun s4 m4 H4 g4 rh4 re4 w4 => ⟨by rw [w4, wipe_wipe], ?_⟩
            cases he : ce ev1 sa with
            | bad => rw [he] at fin'; exact fin'.elim
            | err _ _ => rw [he] at fin'; exact fin'.elim
            | ok z sc =>
              rw [he] at fin'
              simp only [Rs.calm_ok, Rs.bind_ok] at fin'
              refine ⟨M0, m4, ev1, sa, rh4, re4, ?_⟩
              rw [he]
              intro v6 m6 H6 g6 rh6 r6
              have gg6 : Go m' H' m6 H6 := (g3.trans g4).trans g6
              cases hk : k a z with
              | none => rw [hk] at fin'; exact fin'.elim
              | some q =>
                obtain ⟨a2, go2⟩ := q
                rw [hk] at fin'
                obtain ⟨va2, e2, st2⟩ := hS H6 _ m6 a z a2 acc v6 go2 ha r6 hk
                refine ⟨va2, go2, st2, fun hg => ?_, fun hg => ?_⟩
                · subst hg
                  exact fin' va2 m6 H6 (g'.trans gg6) rh6 (accV_rel e2)
                · subst hg
                  exact ⟨rfl, hlt, m6, sc, a2, e2, g'.trans gg6, rh6, re'.go gg6 rh'.mu, fin'⟩
      · have ei : i = items.length := by omega
        subst ei
        rw [List.drop_length] at fin'
        have fin' : Fin C M0 m H1 (WE W s) (if lkOk l st' = true then .ok a st' else .bad) Q := fin'
        cases hl : lkOk l st' with
        | false => rw [hl] at fin'; exact fin'.elim
        | true =>
          rw [hl] at fin'
          exact .inl ⟨(rj M0 m' H' st' g' (fun a z => .inl z) rh' hl items.length).2 (Nat.le_refl _), fin' acc m' H' g' rh' (accV_rel ha)⟩
end
section
variable {X : Cx} {C : Cfg} {W : WX} {k : Nat} {c P : Addr} {scope : Scope} {own : List Nat} {tg elt iter : Expr} {gpos p pos : Pos} {wi : CI} {g : TG} {t : CT} {ce : CE}
variable (hP : (P, none) ∈ C.T) (hq : ∀ q, (P, some q) ∉ C.T) (hT : CompT C own g t) (hr : Room k X.A) (hc : X.calm = true) (TB : TabB X.base X.mg c P) (hcode : X.env.code = .ref c) (G : GSc X.N X.env.scope scope own) (hi : PI X tg iter (tI C W wi))
  (hpg : ∀ (code : Value) (s : Shared) (H : Hp) (pn : List (Addr × Obj)) (fp : List Addr), PG (cxG X scope code s H pn fp) tg g) (hpe : ∀ (code : Value) (s : Shared) (H : Hp) (pn : List (Addr × Obj)) (fp : List Addr), PE (cxG X scope code s H pn fp) elt (tE C W0 ce))
include hP hq hT hr hc TB hcode G hi hpg hpe
theorem fe_allG (hg : Gl X "all") (hm : X.mg "all" = none) (hs : ∀ v, genFold iter X.env v = pure v := by intro _; rfl)
    (he : starEach [.GeneratorExp elt [⟨tg, iter, [], 0⟩] scope gpos] X.env = (false, eval (.GeneratorExp elt [⟨tg, iter, [], 0⟩] scope gpos) X.env) :: starEach [] X.env := by rfl) :
    PE X (.Call (.Name "all" p) [.GeneratorExp elt [⟨tg, iter, [], 0⟩] scope gpos] [] pos) (tE C W (dGen eatAll (.dat (.bool true)) wi own t ce)) :=
  PE.imp (pe_allG hr hc TB hcode G hi hpg hpe hg hm hs he) (gen_of hP hq hT eats_all rfl)
theorem fe_anyG (hg : Gl X "any") (hm : X.mg "any" = none) (hs : ∀ v, genFold iter X.env v = pure v := by intro _; rfl)
    (he : starEach [.GeneratorExp elt [⟨tg, iter, [], 0⟩] scope gpos] X.env = (false, eval (.GeneratorExp elt [⟨tg, iter, [], 0⟩] scope gpos) X.env) :: starEach [] X.env := by rfl) :
    PE X (.Call (.Name "any" p) [.GeneratorExp elt [⟨tg, iter, [], 0⟩] scope gpos] [] pos) (tE C W (dGen eatAny (.dat (.bool false)) wi own t ce)) :=
  PE.imp (pe_anyG hr hc TB hcode G hi hpg hpe hg hm hs he) (gen_of hP hq hT eats_any rfl)
theorem fe_sumG (hg : Gl X "sum") (hm : X.mg "sum" = none) (hs : ∀ v, genFold iter X.env v = pure v := by intro _; rfl)
    (he : starEach [.GeneratorExp elt [⟨tg, iter, [], 0⟩] scope gpos] X.env = (false, eval (.GeneratorExp elt [⟨tg, iter, [], 0⟩] scope gpos) X.env) :: starEach [] X.env := by rfl) :
    PE X (.Call (.Name "sum" p) [.GeneratorExp elt [⟨tg, iter, [], 0⟩] scope gpos] [] pos) (tE C W (dGen eatSum (.dat (.int 0)) wi own t ce)) :=
  PE.imp (pe_sumG hr hc TB hcode G hi hpg hpe hg hm hs he) (gen_of hP hq hT eats_sum rfl)
end
end Sk

set_option maxHeartbeats 1000000
/-! Sk, part 17: what is never reached; a def whose code is known; the end. -/
namespace Sk
open PySem PySem.Spec PyProof.Rows L2 GxR
section
variable {X : Cx} {C : Cfg} {W : WX}
def noE : CE := fun _ _ => .bad
def noT : CB := fun _ _ => .bad
def noS : CS := fun _ _ => .bad
theorem fe_bad {e : Expr} : PE X e (tE C W noE) := ⟨fun pins s σ H Q I ⟨_, _, _, _, _, _, fin⟩ => fin.elim⟩
theorem ft_bad {e : Expr} : PT X e (tT C W noT) := ⟨fun pins s σ H Q I ⟨_, _, _, _, _, _, fin⟩ => fin.elim⟩
theorem fs_bad {e : Stmt} : PS X e (tS C W noS) := ⟨fun pins s σ H D I ⟨_, _, _, _, _, _, fin⟩ => fin.elim⟩
theorem fs_par3 {i j l : Nat} {x y z : Str} {a b c : Expr} {cs : CA} {px py pz pt pos : Pos} {kt k2 : Nat} {pt2 : Pos} (hc : X.calm = true) (hN : X.N.Nodup) (hi : X.N[i]? = some x) (hj : X.N[j]? = some y) (hl : X.N[l]? = some z) (hij : i ≠ j) (hil : i ≠ l) (hjl : j ≠ l)
    (hx : X.env.scope.names.lookup x = some .local) (hy : X.env.scope.names.lookup y = some .local) (hz : X.env.scope.names.lookup z = some .local) (ha : PA X [a, b, c] (tA C W cs))
    (hw : swappedStores [.Tuple [.Name x px, .Name y py, .Name z pz] kt pt] (.Tuple [a, b, c] k2 pt2) X.env = pure (some [x, y, z]))
    (hs : swapsWithSole [.Tuple [.Name x px, .Name y py, .Name z pz] kt pt] (.Tuple [a, b, c] k2 pt2) pos.line X.env = pure false := by rfl) :
    PS X (.Assign [.Tuple [.Name x px, .Name y py, .Name z pz] kt pt] (.Tuple [a, b, c] k2 pt2) pos) (tS C W (dPar3 i j l cs)) :=
  PS.imp (ps_par3 hc hN hi hj hl hij hil hjl hx hy hz ha hw hs) fun D s H h => tS.bind (R := relVs) (k := fun xs ev st1 => match xs with
    | [x, y, z] => .ok (.nx (((ev.set i (some x)).set j (some y)).set l (some z))) st1
    | _ => .bad) h fun M0 m ev st xs vs H1 rh re rv fin => by
    split at fin
    · cases rv with
      | cons r1 rr => cases rr with
        | cons r2 rr => cases rr with
          | cons r3 rr => cases rr with
            | nil => exact ⟨_, _, _, rfl, fin _ m H1 (Go.refl _ _) rh (((re.set i r1).set j r2).set l r3)⟩
    · exact fin.elim
end
section
variable {P : Program} {w : World} {K : PySem.W.Frag} {mg : Str → Option Value} {base : Heap}
/-- a def of the text, its code object known -/
theorem fn_okC {C : Cfg} {x qual : Str} {st : Stmt} {f : Addr} {fd : FuncData} {N ps : List Str} {k n p : Nat} {c : CS} (F : Fun K x qual st f fd) (S : FnScope N ps (defScope st)) (hn : N.length = n) (hp : ps.length = p)
    (hbody : ∀ (cdv : Value) (A : Around) (outer : List Env) (s : Shared) (H : Hp) (E : XK), fd.code = cdv → Room k (A.deeper (envOfC qual (defScope st) s.heap.objs.size f cdv)) →
      PSs (cxOf (L2.CX P w) P w K mg base N qual (defScope st) f cdv A outer s H E) (defBody st) (tS C (fun c d _ H => E c d H) c)) : FnOk P w K mg base (L2.CX P w) (k + 1) f fd ps (spF C p (mkFn n c)) := by
  subst hn
  subst hp
  obtain ⟨oc, od, kV, doc, pm, an, cdv, ct, osl, rfl, lk, hcd⟩ := F.ex
  refine fn_of lk hcd S (fun vs H Q E h => h.1) fun A outer s H vs Q E hr h => ⟨_, hbody cdv A outer s H E rfl hr, ?_⟩
  obtain ⟨_, M0, m, args, st, rh, rv, fin⟩ := h
  refine ⟨M0, m, mkEv N.length args, st, rh, RE.start rv, ?_⟩
  unfold mkFn at fin
  cases e : c (mkEv N.length args) st with
  | bad => rw [e] at fin; exact fin.elim
  | err x st1 =>
    rw [e] at fin
    exact fun s c d m' H' g rh q => fin c d m' H' g rh q
  | ok f st1 =>
    rw [e] at fin
    cases f with
    | nx ev => exact fun s m' H' g rh re => fin .non m' H' g rh (.dat .non)
    | rt x => exact fun v m' H' g rh re => fin v m' H' g rh re
    | bk ev => exact fin.elim
    | ct ev => exact fin.elim
end
theorem flatE0 {E : XK} : Flat (fun c d _ H => E c d H) := fun _ _ _ _ _ h => h
theorem flatW0 : Flat W0 := fun _ _ _ _ _ h => h
/-! ### the end -/
theorem rvs_ints {C : Cfg} {H : Hp} {M : Addr → Prop} {m : List Addr} : ∀ ns : List Int, RVs C H M m (ns.map V.int) (ns.map fun i => .dat (.int i))
  | [] => .nil
  | i :: r => .cons (.dat (.int i)) (rvs_ints r)
def scriptV (ns : List Int) : Va := .seq false (ns.map fun i => .dat (.int i))
theorem rv_script {C : Cfg} {H : Hp} {m : List Addr} {a : Addr} {ns : List Int} (h : SqL C.K H a (ns.map V.int)) : RV C H (Mx (fun _ => False) []) m (.ref a) (scriptV ns) := by
  rcases h with (h | h) | h
  · exact .lst h (fun z => z.elim id fun z => absurd z (by simp)) (rvs_ints ns)
  · exact .frz (.inl h) (rvs_ints ns)
  · exact .frz (.inr h) (rvs_ints ns)
theorem sp_law {C : Cfg} {F : Fn} {n : Nat} {cs : List (Addr × Addr)} (hC : ∀ p ∈ C.T, ∃ q ∈ cs, q.2 = p.1) (hF : ∀ ns : List Int, ns.length ≤ n → ∃ st, F [scriptV ns] [] = .ok (.dat (.bool true)) st) (H : Hp) (a : Addr) (ns : List Int) (hn : ns.length ≤ n)
    (hT : ∀ p ∈ cs, H p.2 = some (.tbl #[])) (hS : SqL C.K H a (ns.map V.int)) : spF C 1 F [.ref a] H (fun v _ => v = .bl true) fun _ _ _ => False := by
  refine ⟨rfl, fun _ => False, [], [scriptV ns], [], ⟨fun a h => h.elim, rfl, .nil, fun a h => by simp at h, fun a h => by simp at h, fun n o h => by simp at h, fun p hp => ?_⟩, .cons (rv_script hS) .nil, ?_⟩
  · obtain ⟨q, hq, e⟩ := hC p hp
    refine ⟨#[], by rw [← e]; exact hT q hq, trivial, fun q _ pos cv h => ?_⟩
    cases h
  · obtain ⟨st, e⟩ := hF ns hn
    rw [e]
    intro v m' H' g rh rv
    cases rv with
    | dat rd => cases rd; rfl
/-- tables of the top's defs -/
def TabsOf (q : Program) (K : PySem.W.Frag) (h : Heap) : Prop := ∀ (x : Str) (c P : Addr), ((recsOf q).any fun e => e.name == x) = true → PySem.W.tabIn K x = some (c, P) → PySem.W.CodeHd h c P ∧ h.get? P = some { cls := .none, data := .fields #[] }
theorem walk_sk {l : PySem.W.OpenLaw} {n k : Nat} {q : Program} {loose : List Str} {XP : (Str → Option Value) → Heap → Prop} {YP : World → Heap → Prop} {d : DefRec} {K : Params → PySem.W.Frag} {x : Str}
    (hn : l.most = some n) (hn2 : n ≤ sizeLine) (hdf : d.params.defaults = []) (hr : Room k callerA) (hY : ∀ (w : World) (h : Heap), YP w h → (K w.params).In h)
    (F : ∀ (w : World) (mg : Str → Option Value) (fa : Addr) (h : Heap), (K w.params).In h → h.Ns mainGlobals mg → mg d.name = some (.ref fa) → TabsOf q (K w.params) h → LamX.LawAtS l w (K w.params) (L2.CX l.prog w) k n x mg fa h) :
    PySem.W.WalkO q loose XP YP l.row.toRowW d [] (fun f vs => PySem.call f vs) := by
  refine Att.attach_callB hn hdf fun w s₀ s₁ mg mb fa o pm cd doc a vs ns G Y ho hd hcd hmg hobj hints hlen hbits hg => ?_
  have KX := hY w _ Y
  obtain ⟨fd, cs, sp, hT, nT, C, hb, hsp, hF⟩ := F w mg fa _ KX G.T.g hmg fun x c P hx ht => by
    cases hf : (recsOf q).find? fun e => e.name == x with
    | none =>
      rw [List.find?_eq_none] at hf
      obtain ⟨e, he, h2⟩ := List.any_eq_true.mp hx
      exact absurd h2 (hf e he)
    | some d => exact PySem.W.tab_of G.T KX hf ht
  exact LamX.law_callTs KX G.T.g G.T.b G.T.builtins G.T.nolimit hg hT nT C G.T.bmain hobj hints (Nat.le_trans hlen hn2) hr hF hb (fun H hH hS => hsp H a ns hlen hbits hH hS) fun H e s' z => by
    obtain ⟨_, _, _, _, _, _, _, _, _, _, _, _, z⟩ := z
    exact z
end Sk

set_option maxHeartbeats 1000000
/-! Sk, part 18: odds and ends. -/
namespace Sk
open PySem PySem.Spec PyProof.Rows L2 GxR
theorem hu65 {A : Around} {k : Nat} (r : Room k A) : A.units + 65 < cLine := by have := r.un; omega
def addI (x y : Va) (st : Sto) : Rs Va := match x, y with
  | .dat (.int i), .dat (.int j) => oI (i + j) st
  | _, _ => .bad
section
variable {X : Cx} {C : Cfg} {W : WX}
theorem os_addI : OpS C (rI0 fun i j => .int (i + j)) addI := by
  intro M0 m H st v u x y E Q rh rx ry fin
  unfold addI at fin
  split at fin
  · exact ⟨_, _, rx.int_inv, ry.int_inv, FinG.out (R := relV C M0) fin rh (.dat (.int _))⟩
  · exact fin.elim
def dRetN : CS := fun _ st => .ok (.rt (.dat .none)) st
theorem fs_retN {pos : Pos} : PS X (.Return none pos) (tS C W dRetN) := PS.imp ps_retN fun D s H ⟨M0, m, ev, st, rh, re, fin⟩ => fin .non m H (Go.refl _ _) rh (.dat .non)
end
/-! ### tuples of ints that stand in K -/
def intsB : List Value → List Int → Bool
  | [], [] => true
  | .int i _ :: r, j :: q => i == j && intsB r q
  | _, _ => false
theorem intsB_vals : ∀ {vs : List Value} {ns : List Int}, intsB vs ns = true → Vals (ns.map V.int) vs
  | [], [], _ => .nil
  | .int i t :: r, j :: q, h => by
    have h : (i == j && intsB r q) = true := h
    rw [Bool.and_eq_true] at h
    have e : i = j := eq_of_beq h.1
    subst e
    exact .cons ⟨t, rfl⟩ (intsB_vals h.2)
theorem sqt_K {K : PySem.W.Frag} {H : Hp} {a : Addr} {g : Array Value} {ol : Option Addr} {nn : Nat} {os : Array (Option Value)} {ns : List Int} (h : K.lookup a = some ⟨.type "tuple", ol, .seq g nn, os⟩) (hb : intsB g.toList ns = true) (hs : ns.length ≤ 1000 := by decide) : SqT K H a (ns.map V.int) := by
  have v := intsB_vals hb
  refine .inr ⟨_, g, nn, h, rfl, rfl, ?_, v⟩
  have e := v.length
  rw [List.length_map] at e
  have e2 : g.size = ns.length := by rw [e]; simp
  rw [e2]
  exact Nat.le_of_lt (small1000 hs)
end Sk

/-! Sk, part 19: the words unfolded, for the plain proofs. -/
namespace Sk
open PySem PySem.Spec PyProof.Rows L2
section
variable {ev : Ev} {st : Sto} {a b c : CE} {t u : CB} {p q : CS} {f g : Va → Va → Sto → Rs Va}
@[simp] theorem eC (d : PyData) : dC d ev st = .ok (.dat d) st := rfl
@[simp] theorem eK (xs : List Va) : dK xs ev st = .ok (.seq true xs) st := rfl
@[simp] theorem eVar (i : Nat) : dVar i ev st = match ev[i]? with | some (some x) => .ok x st | _ => .bad := rfl
@[simp] theorem eBin : dBin f a b ev st = (a ev st).bind fun x st1 => (b ev st1).bind fun y st2 => f x y st2 := rfl
@[simp] theorem eUn (h : Va → Sto → Rs Va) : dUn h a ev st = (a ev st).bind h := rfl
@[simp] theorem eAnd : dAnd a b ev st = (a ev st).bind fun x st1 => (asB x st1).bind fun k st2 => if k = true then b ev st2 else .ok (.dat (.bool false)) st2 := rfl
@[simp] theorem eOr : dOr a b ev st = (a ev st).bind fun x st1 => (asB x st1).bind fun k st2 => if k = true then .ok (.dat (.bool true)) st2 else b ev st2 := rfl
@[simp] theorem eIf : dIf t a b ev st = (t ev st).bind fun k st1 => if k = true then a ev st1 else b ev st1 := rfl
@[simp] theorem eTest : dTest a ev st = (a ev st).bind asB := rfl
@[simp] theorem eAndT : dAndT t u ev st = (t ev st).bind fun k st1 => if k = true then u ev st1 else .ok false st1 := rfl
@[simp] theorem eOrT : dOrT t u ev st = (t ev st).bind fun k st1 => if k = true then .ok true st1 else u ev st1 := rfl
@[simp] theorem eNotT : dNotT t ev st = (t ev st).bind fun k st1 => .ok (!k) st1 := rfl
@[simp] theorem eChain : dChain f g a b c ev st = (a ev st).bind fun x st1 => (b ev st1).bind fun y st2 => (f x y st2).bind fun z st3 => (asB z st3).bind fun k st4 => if k = true then (c ev st4).bind fun w st5 => g y w st5 else .ok (.dat (.bool false)) st4 := rfl
@[simp] theorem asB_b (k : Bool) : asB (.dat (.bool k)) st = .ok k st := rfl
@[simp] theorem notV_b (k : Bool) : notV (.dat (.bool k)) st = .ok (.dat (.bool (!k))) st := rfl
@[simp] theorem eNil : dNil ev st = .ok [] st := rfl
@[simp] theorem eCons (r : CA) : dCons a r ev st = (a ev st).bind fun x st1 => (r ev st1).bind fun xs st2 => .ok (x :: xs) st2 := rfl
@[simp] theorem eCallB (h : List Va → Sto → Rs Va) (r : CA) : dCallB h r ev st = (r ev st).bind h := rfl
@[simp] theorem eCallP (F : Fn) (n : Nat) (r : CA) : dCallP F n r ev st = (r ev st).bind fun xs st1 => callP F n xs st1 := rfl
@[simp] theorem eCallO (F : Fn) (n : Nat) (r : CA) : dCallO F n r ev st = (r ev st).bind fun xs st1 => callO F n xs st1 := rfl
@[simp] theorem eTup (r : CA) : dTup r ev st = (r ev st).bind fun xs st1 => if few xs.length = true then .ok (mkT xs) st1 else .bad := rfl
@[simp] theorem eLst (r : CA) : dLst r ev st = (r ev st).bind fun xs st1 => if few xs.length = true then .ok (mkL xs) st1 else .bad := rfl
@[simp] theorem eLstM (r : CA) : dLstM r ev st = (r ev st).bind fun xs st1 => if few xs.length = true then newL xs st1 else .bad := rfl
@[simp] theorem eSl (lo hi : CO) : dSl a lo hi ev st = (a ev st).bind fun x st1 => (lo ev st1).bind fun l st2 => (hi ev st2).bind fun h st3 => slV x l h st3 := rfl
@[simp] theorem eNo : dNo ev st = .ok none st := rfl
@[simp] theorem ePart : dPart a ev st = (a ev st).bind asPart := rfl
@[simp] theorem asPart_i (i : Int) : asPart (.dat (.int i)) st = .ok (some i) st := rfl
@[simp] theorem few_lit {n : Nat} (h : n ≤ 10000000) : few n = true := by unfold few; simpa using h
@[simp] theorem eSkip : dSkip ev st = .ok (.nx ev) st := rfl
@[simp] theorem eSeq : dSeq p q ev st = (p ev st).bind fun f st1 => match f with
  | .nx ev1 => q ev1 st1
  | .bk ev1 => .ok (.bk ev1) st1
  | .ct ev1 => .ok (.ct ev1) st1
  | .rt x => .ok (.rt x) st1 := rfl
@[simp] theorem eRet : dRet a ev st = (a ev st).bind fun x st1 => .ok (.rt x) st1 := rfl
@[simp] theorem eDo : dDo a ev st = (a ev st).bind fun _ st1 => .ok (.nx ev) st1 := rfl
@[simp] theorem eIfS : dIfS t p q ev st = (t ev st).bind fun k st1 => if k = true then p ev st1 else q ev st1 := rfl
@[simp] theorem eAsg (r : CT) : dAsg a r ev st = (a ev st).bind fun x st1 => (r x ev st1).bind fun ev1 st2 => .ok (.nx ev1) st2 := rfl
@[simp] theorem eN (i : Nat) (x : Va) : gN i x ev st = .ok (ev.set i (some x)) st := rfl
@[simp] theorem eTp (n : Nat) (r : CTs) (x : Va) : gTp n r x ev st = match seqOf st x with
  | some (true, xs) => if (xs.length == n) = true then r xs ev st else .bad
  | _ => .bad := rfl
@[simp] theorem esNil : gsNil [] ev st = .ok ev st := rfl
@[simp] theorem esCons (r : CT) (s : CTs) (x : Va) (xs : List Va) : gsCons r s (x :: xs) ev st = (r x ev st).bind fun ev1 st1 => s xs ev1 st1 := rfl
@[simp] theorem eSb (x : Va) : gSb a b x ev st = (a ev st).bind fun y st1 => (b ev st1).bind fun z st2 => (setV y z x st2).bind fun _ st3 => .ok ev st3 := rfl
@[simp] theorem ePar (i j : Nat) (r : CA) : dPar i j r ev st = (r ev st).bind fun xs st1 => match xs with
  | [x, y] => .ok (.nx ((ev.set i (some x)).set j (some y))) st1
  | _ => .bad := rfl
@[simp] theorem eAug (i : Nat) : dAug i f a ev st = match ev[i]? with
  | some (some x) => (a ev st).bind fun y st1 => (f x y st1).bind fun z st2 => .ok (.nx (ev.set i (some z))) st2
  | _ => .bad := rfl
@[simp] theorem eFor (it : CI) (r : CT) : dFor it r p ev st = (it ev st).bind fun z st1 => forS z.2 (dTurn r p) z.1 ev st1 := rfl
@[simp] theorem eTurn (r : CT) (x : Va) : dTurn r p x ev st = (r x ev st).bind fun ev1 st1 => p ev1 st1 := rfl
@[simp] theorem eComp (mk : List Va → Sto → Rs Va) (it : CI) (own : List Nat) (r : CT) (k : CB) : dComp mk it own r k a ev st = (it ev st).bind fun z st1 => if few z.1.length = true then (compL z.2 (compTurn r k a) z.1 (wipeE ev own) st1).bind mk else .bad := rfl
@[simp] theorem eYes : dYes ev st = .ok true st := rfl
@[simp] theorem eIter : dIter a ev st = (a ev st).bind itemsV := rfl
@[simp] theorem eRange (r : CA) : dRange r ev st = (r ev st).bind rangeV := rfl
@[simp] theorem eGen (k : Eat) (a0 : Va) (it : CI) (own : List Nat) (r : CT) : dGen k a0 it own r a ev st = (it ev st).bind fun z st1 => genL z.2 (genTurn r a) k z.1 a0 (wipeE ev own) st1 := rfl
end
section
variable {st : Sto}
@[simp] theorem addV_i (i j : Int) : addV (.dat (.int i)) (.dat (.int j)) st = .ok (.dat (.int (i + j))) st := rfl
@[simp] theorem addI_i (i j : Int) : addI (.dat (.int i)) (.dat (.int j)) st = .ok (.dat (.int (i + j))) st := rfl
@[simp] theorem subV_i (i j : Int) : subV (.dat (.int i)) (.dat (.int j)) st = .ok (.dat (.int (i - j))) st := rfl
@[simp] theorem ltV_i (i j : Int) : ltV (.dat (.int i)) (.dat (.int j)) st = .ok (.dat (.bool (decide (i < j)))) st := rfl
@[simp] theorem leV_i (i j : Int) : leV (.dat (.int i)) (.dat (.int j)) st = .ok (.dat (.bool (decide (i ≤ j)))) st := rfl
@[simp] theorem gtV_i (i j : Int) : gtV (.dat (.int i)) (.dat (.int j)) st = .ok (.dat (.bool (decide (j < i)))) st := rfl
@[simp] theorem geV_i (i j : Int) : geV (.dat (.int i)) (.dat (.int j)) st = .ok (.dat (.bool (decide (j ≤ i)))) st := rfl
theorem modV_i {i j : Int} (h : 0 < j) : modV (.dat (.int i)) (.dat (.int j)) st = .ok (.dat (.int (i % j))) st := by simp [modV, h, oI]
theorem divV_i {i j : Int} (h : 0 < j) (h2 : j < 1073741824) : divV (.dat (.int i)) (.dat (.int j)) st = .ok (.dat (.int (i / j))) st := by simp [divV, h, h2, oI]
theorem mulI_l {i j : Int} (h : near64 i = true) : mulI (.dat (.int i)) (.dat (.int j)) st = .ok (.dat (.int (i * j))) st := by simp [mulI, h, oI]
theorem mulI_r {i j : Int} (h : near64 j = true) : mulI (.dat (.int i)) (.dat (.int j)) st = .ok (.dat (.int (i * j))) st := by simp [mulI, h, oI]
@[simp] theorem intF_i (i : Int) : intF [.dat (.int i)] st = .ok (.dat (.int i)) st := rfl
@[simp] theorem intF_b (k : Bool) : intF [.dat (.bool k)] st = .ok (.dat (.int (if k then 1 else 0))) st := rfl
@[simp] theorem absF_i (i : Int) : absF [.dat (.int i)] st = .ok (.dat (.int (if i < 0 then -i else i))) st := rfl
@[simp] theorem eqV_i (i j : Int) : eqV (.dat (.int i)) (.dat (.int j)) st = .ok (.dat (.bool (decide (i = j)))) st := by
  simp [eqV, oB, SeqAt.shaped, PyData.canLay0, PyData.depth, PyData.eqv]
  rfl
@[simp] theorem neV_i (i j : Int) : neV (.dat (.int i)) (.dat (.int j)) st = .ok (.dat (.bool (!decide (i = j)))) st := by
  simp [neV, oB, SeqAt.shaped, PyData.canLay0, PyData.depth, PyData.eqv]
  rfl
end
end Sk

set_option maxHeartbeats 1000000
/-! Sk, part 20: the dice. -/
namespace Sk
open PySem PySem.Spec PyProof.Rows L2
def c__law_dice : CS :=
    (dSeq (dIfS (dTest (dChain ltV ltV (dBin subV (dC (.int 0)) (dC (.int 10))) (dVar 0) (dC (.int 10)))) (dRet (dLstM (dCons (dCallB absF (dCons (dVar 0) dNil)) (dCons (dC (.int 0)) (dCons (dC (.int 2)) dNil))))) dSkip)
    (dRet (dLstM (dCons (dVar 0) (dCons (dBin addV (dC (.int 1)) (dBin modV (dCallB intF (dCons (dVar 0) dNil)) (dC (.int 1009)))) (dCons (dCallB intF (dCons (dBin geV (dVar 0) (dBin powV (dC (.int 10)) (dC (.int 18)))) dNil)) dNil))))))
def F__law_dice : Fn := mkFn 1 c__law_dice
def c__law_roll : CS :=
    (dSeq (dIfS (dOrT (dTest (dBin eqV (dBin ixV (dVar 0) (dC (.int 2))) (dC (.int 2)))) (dAndT (dTest (dBin eqV (dBin ixV (dVar 0) (dC (.int 2))) (dC (.int 1)))) (dTest (dBin gtV (dBin ixV (dVar 0) (dC (.int 0))) (dC (.int 0)))))) (dSeq (dAsg (dBin modV (dCallB intF (dCons (dBin ixV (dVar 0) (dC (.int 0))) dNil)) (dVar 1)) (gN 2))
    (dSeq (dAsg (dBin divV (dBin ixV (dVar 0) (dC (.int 0))) (dVar 1)) (gSb (dVar 0) (dC (.int 0))))
    (dRet (dVar 2)))) dSkip)
    (dSeq (dAsg (dC (.int 0)) (gSb (dVar 0) (dC (.int 2))))
    (dSeq (dAsg (dBin modV (dCallB intF (dCons (dBin addV (dBin addV (dBin mulI (dBin ixV (dVar 0) (dC (.int 0))) (dC (.int 48271))) (dBin mulI (dBin ixV (dVar 0) (dC (.int 1))) (dC (.int 69621)))) (dC (.int 11))) dNil)) (dC (.int 2147483647))) (gSb (dVar 0) (dC (.int 0))))
    (dSeq (dAsg (dBin addV (dBin ixV (dVar 0) (dC (.int 1))) (dC (.int 1))) (gSb (dVar 0) (dC (.int 1))))
    (dRet (dBin modV (dCallB intF (dCons (dBin addV (dBin divV (dBin ixV (dVar 0) (dC (.int 0))) (dC (.int 7))) (dBin ixV (dVar 0) (dC (.int 0)))) dNil)) (dVar 1)))))))
def F__law_roll : Fn := mkFn 3 c__law_roll
def c__law_rounds : CS :=
    (dSeq (dAsg (dSl (dVar 0) dNo (dPart (dVar 1))) (gN 2))
    (dSeq (dIfS (dTest (dBin eqV (dVar 2) (dLst dNil))) (dAsg (dLst (dCons (dC (.int 0)) dNil)) (gN 2)) dSkip)
    (dRet (dComp asF (dIter (dVar 2)) [3] (gN 3) dYes (dCallO F__law_dice 1 (dCons (dVar 3) dNil))))))
def F__law_rounds : Fn := mkFn 4 c__law_rounds
def diceO (a b c : Int) : Ob := .lst [.dat (.int a), .dat (.int b), .dat (.int c)]
def IsDice (o : Option Ob) : Prop := ∃ a b c, o = some (diceO a b c)
theorem dice_eq (x : Int) (st : Sto) : ∃ a b c, F__law_dice [.dat (.int x)] st = .ok (.ref st.length) (st ++ [some (diceO a b c)]) := by
  by_cases h1 : -10 < x
  · by_cases h2 : x < 10
    · exact ⟨if x < 0 then -x else x, 0, 2, by simp [F__law_dice, mkFn, c__law_dice, mkEv, h1, h2, newL, asRet, diceO]⟩
    · exact ⟨x, 1 + x % 1009, if 1000000000000000000 ≤ x then 1 else 0, by simp [F__law_dice, mkFn, c__law_dice, mkEv, h1, h2, newL, asRet, diceO, modV_i, powV, near64, oI]⟩
  · exact ⟨x, 1 + x % 1009, if 1000000000000000000 ≤ x then 1 else 0, by simp [F__law_dice, mkFn, c__law_dice, mkEv, h1, newL, asRet, diceO, modV_i, powV, near64, oI]⟩
theorem seqOf_at {st : Sto} {n : Nat} {xs : List Va} (h : st[n]? = some (some (.lst xs))) : seqOf st (.ref n) = some (false, xs) := by
  unfold seqOf
  simp only [h]
theorem ixV_ref {st : Sto} {n : Nat} {xs : List Va} {i : Int} (h : st[n]? = some (some (.lst xs))) : ixV (.ref n) (.dat (.int i)) st = ixV (.seq false xs) (.dat (.int i)) st := by
  unfold ixV
  rw [seqOf_at h]
  rfl
theorem roll_eq {st : Sto} {n : Nat} {a b c m : Int} (h : st[n]? = some (some (diceO a b c))) (h0 : 0 < m) (h1 : m < 1073741824) :
    ∃ r a' b' c', 0 ≤ r ∧ r < m ∧ F__law_roll [.ref n, .dat (.int m)] st = .ok (.dat (.int r)) (st.set n (some (diceO a' b' c'))) := by
  have hl : n < st.length := (List.getElem?_eq_some_iff.mp h).1
  have e0 : ∀ {st : Sto} {a b c : Int}, st[n]? = some (some (diceO a b c)) → ixV (.ref n) (.dat (.int 0)) st = .ok (.dat (.int a)) st := fun h => by rw [ixV_ref h]; rfl
  have e1 : ∀ {st : Sto} {a b c : Int}, st[n]? = some (some (diceO a b c)) → ixV (.ref n) (.dat (.int 1)) st = .ok (.dat (.int b)) st := fun h => by rw [ixV_ref h]; rfl
  have e2 : ∀ {st : Sto} {a b c : Int}, st[n]? = some (some (diceO a b c)) → ixV (.ref n) (.dat (.int 2)) st = .ok (.dat (.int c)) st := fun h => by rw [ixV_ref h]; rfl
  have s0 : ∀ {st : Sto} {a b c z : Int}, st[n]? = some (some (diceO a b c)) → setV (.ref n) (.dat (.int 0)) (.dat (.int z)) st = .ok () (st.set n (some (diceO z b c))) := fun h => by simp only [setV, h, diceO]; rfl
  have s1 : ∀ {st : Sto} {a b c z : Int}, st[n]? = some (some (diceO a b c)) → setV (.ref n) (.dat (.int 1)) (.dat (.int z)) st = .ok () (st.set n (some (diceO a z c))) := fun h => by simp only [setV, h, diceO]; rfl
  have s2 : ∀ {st : Sto} {a b c z : Int}, st[n]? = some (some (diceO a b c)) → setV (.ref n) (.dat (.int 2)) (.dat (.int z)) st = .ok () (st.set n (some (diceO a b z))) := fun h => by simp only [setV, h, diceO]; rfl
  have g : ∀ {a b c : Int}, (st.set n (some (diceO a b c)))[n]? = some (some (diceO a b c)) := fun {a b c} => by rw [List.getElem?_set_self hl]
  by_cases hc : c = 2 ∨ (c = 1 ∧ 0 < a)
  · refine ⟨a % m, a / m, b, c, Int.emod_nonneg _ (by omega), Int.emod_lt_of_pos _ h0, ?_⟩
    rcases hc with hc | ⟨hc, ha⟩
    · subst hc
      simp [F__law_roll, mkFn, c__law_roll, mkEv, e0 h, e1 h, e2 h, s0 h, modV_i h0, divV_i h0 h1, asRet]
    · subst hc
      simp [F__law_roll, mkFn, c__law_roll, mkEv, e0 h, e1 h, e2 h, s0 h, modV_i h0, divV_i h0 h1, asRet, ha]
  · have n2 : ¬ c = 2 := fun z => hc (.inl z)
    generalize ha1 : (a * 48271 + b * 69621 + 11) % 2147483647 = a1
    refine ⟨(a1 / 7 + a1) % m, a1, b + 1, 0, Int.emod_nonneg _ (by omega), Int.emod_lt_of_pos _ h0, ?_⟩
    by_cases n1 : c = 1
    · subst n1
      have na : ¬ 0 < a := fun z => hc (.inr ⟨rfl, z⟩)
      simp [F__law_roll, mkFn, c__law_roll, mkEv, e0 h, e1 h, e2 h, s2 h, e0 g, e1 g, e2 g, s0 g, s1 g, modV_i h0, modV_i, divV_i, asRet, na, mulI, near64, oI, ha1]
    · simp [F__law_roll, mkFn, c__law_roll, mkEv, e0 h, e1 h, e2 h, s2 h, e0 g, e1 g, e2 g, s0 g, s1 g, modV_i h0, modV_i, divV_i, asRet, n1, n2, mulI, near64, oI, ha1]
theorem rounds_comp {x0 x1 x2 : Option Va} : ∀ (cs : List Int) (st : Sto), ∃ D : Sto, (∀ o ∈ D, IsDice o) ∧ D.length = cs.length ∧
    compL none (compTurn (gN 3) dYes (dCallO F__law_dice 1 (dCons (dVar 3) dNil))) (cs.map fun i => .dat (.int i)) [x0, x1, x2, none] st = .ok ((List.range cs.length).map fun i => .ref (st.length + i)) (st ++ D)
  | [], st => ⟨[], by simp, rfl, by simp [compL]⟩
  | c :: r, st => by
    obtain ⟨a, b, z, e⟩ := dice_eq c st
    obtain ⟨D, hD, hl, e2⟩ := rounds_comp (x0 := x0) (x1 := x1) (x2 := x2) r (st ++ [some (diceO a b z)])
    refine ⟨some (diceO a b z) :: D, ?_, by simp [hl], ?_⟩
    · intro o ho
      rcases List.mem_cons.mp ho with q | q
      · exact ⟨a, b, z, q⟩
      · exact hD o q
    · have e1 : compTurn (gN 3) dYes (dCallO F__law_dice 1 (dCons (dVar 3) dNil)) (.dat (.int c)) [x0, x1, x2, none] st = .ok (some (.ref st.length)) (st ++ [some (diceO a b z)]) := by
        simp [compTurn, callO, e]
      simp only [List.map_cons, compL, lkOk_none, if_true, e1, Rs.bind_ok, e2, consO, List.length_cons, List.range_succ_eq_map, List.map_map]
      simp [Function.comp_def, Nat.add_assoc, Nat.add_comm 1]
theorem eqV_nil {ds : List Int} {st : Sto} : eqV (.dat (.list (ds.map .int))) (.dat (.list [])) st = .ok (.dat (.bool ds.isEmpty)) st := by
  have h1 : ∀ ds : List Int, PyData.canLayAll0 (ds.map .int) = true := fun ds => by
    induction ds with
    | nil => rfl
    | cons d r ih => simp [PyData.canLayAll0, PyData.canLay0, ih]
  have h2 : ∀ ds : List Int, PyData.depthAll (ds.map .int) ≤ 1 := fun ds => by
    induction ds with
    | nil => simp [PyData.depthAll]
    | cons d r ih => simp [PyData.depthAll, PyData.depth]; omega
  cases ds with
  | nil => simp [eqV, oB, SeqAt.shaped, PyData.canLay0, PyData.canLayAll0, PyData.depth, PyData.depthAll, PyData.eqv, PyData.eqvAll]
  | cons d r =>
    have := h2 (d :: r)
    have q := h1 (d :: r)
    simp only [List.map_cons] at this q
    have t : PyData.depthAll (PyData.int d :: r.map PyData.int) ≤ 63 := by omega
    simp [eqV, oB, SeqAt.shaped, PyData.canLay0, q, PyData.depth, t, PyData.eqv]
    simp [PyData.depthAll, PyData.eqvAll, PyData.canLayAll0]
theorem rounds_eq (ns : List Int) {most : Nat} (hm : 1 ≤ most) (hm2 : most ≤ 10000000) : ∃ D : Sto, (∀ o ∈ D, IsDice o) ∧ 1 ≤ D.length ∧ D.length ≤ most ∧
    F__law_rounds [scriptV ns, .dat (.int most)] [] = .ok (.seq false ((List.range D.length).map .ref)) D := by
  have key : ∀ cs : List Int, 1 ≤ cs.length → cs.length ≤ most → ∀ x0 x1 x2 : Option Va, ∃ (D : Sto) (ys : List Va), (∀ o ∈ D, IsDice o) ∧ 1 ≤ D.length ∧ D.length ≤ most ∧ mkL ys = .seq false ((List.range D.length).map .ref) ∧
      compL none (compTurn (gN 3) dYes (dCallO F__law_dice 1 (dCons (dVar 3) dNil))) (cs.map fun i => .dat (.int i)) [x0, x1, x2, none] [] = .ok ys D := by
    intro cs h1 h2 x0 x1 x2
    obtain ⟨D, hD, hl, e⟩ := rounds_comp (x0 := x0) (x1 := x1) (x2 := x2) cs []
    refine ⟨D, _, hD, by omega, by omega, ?_, e⟩
    simp only [List.length_nil, Nat.zero_add, hl]
    cases cs with
    | nil => simp at h1
    | cons c r => simp only [List.length_cons, List.range_succ_eq_map, List.map_cons, mkL, allDat]
  have hc : ∀ ns : List Int, cut (ns.map fun i => Va.dat (.int i)) none (some (most : Int)) = (ns.take most).map fun i => .dat (.int i) := fun ns => by
    rw [cut_map]
    congr 1
    unfold cut
    rw [HT.sIx_none, HT.sIx_nat]
    simp [List.take_eq_take_iff]
  have hf : ∀ cs : List Int, (cs.map fun i => Va.dat (.int i)) = (cs.map PyData.int).map .dat := fun cs => by simp
  have hs : ∀ ns : List Int, slV (scriptV ns) none (some (most : Int)) [] = .ok (.dat (.list ((ns.take most).map .int))) [] := fun ns => by
    simp only [slV, scriptV, seqOf, hc]
    rw [hf, mkL_map]
  have h0 : mkL ([] : List Va) = .dat (.list []) := rfl
  have h1 : mkL [Va.dat (.int 0)] = .dat (.list [.int 0]) := rfl
  have hs := hs ns
  have hlen : (ns.take most).length ≤ most := by simp; omega
  generalize ns.take most = cs at hs hlen
  generalize scriptV ns = v0 at hs ⊢
  by_cases hn : cs.isEmpty = true
  · obtain ⟨D, ys, h1, h2, h3, h4, e⟩ := key [0] (by simp) hm (some v0) (some (.dat (.int most))) (some (.dat (.list [.int 0])))
    refine ⟨D, h1, h2, h3, ?_⟩
    simp at e
    have q := @eqV_nil cs []
    rw [hn] at q
    simp [F__law_rounds, mkFn, c__law_rounds, mkEv, hs, h0, q, wipeE, itemsV, lockOf, asF, mkL, allDat]
    simp [e, asRet, h4, mkL, allDat]
    exact h4
  · have hn : cs.isEmpty = false := by simpa using hn
    obtain ⟨D, ys, h1, h2, h3, h4, e⟩ := key cs (by cases cs with | nil => cases hn | cons _ _ => simp) hlen (some v0) (some (.dat (.int most))) (some (.dat (.list (cs.map .int))))
    refine ⟨D, h1, h2, h3, ?_⟩
    have q := @eqV_nil cs []
    rw [hn] at q
    have hf2 : few cs.length = true := by unfold few; simp; omega
    simp [F__law_rounds, mkFn, c__law_rounds, mkEv, hs, h0, q, wipeE, itemsV, lockOf, asF, Function.comp_def, hf2]
    simp [e, asRet, h4]
end Sk

/-! Sk, part 21: plain words about loops. -/
namespace Sk
open PySem PySem.Spec PyProof.Rows L2
theorem callP_1 {F : Fn} {a d : PyData} {s2 st : Sto} (h : F [.dat a] [] = .ok (.dat d) s2) : callP F 1 [.dat a] st = .ok (.dat d) st := by simp [callP, mapO, pureVs, pureV, afterP, h]
theorem callP_2 {F : Fn} {a b d : PyData} {s2 st : Sto} (h : F [.dat a, .dat b] [] = .ok (.dat d) s2) : callP F 2 [.dat a, .dat b] st = .ok (.dat d) st := by simp [callP, mapO, pureVs, pureV, afterP, h]
theorem callP_3 {F : Fn} {a b c d : PyData} {s2 st : Sto} (h : F [.dat a, .dat b, .dat c] [] = .ok (.dat d) s2) : callP F 3 [.dat a, .dat b, .dat c] st = .ok (.dat d) st := by simp [callP, mapO, pureVs, pureV, afterP, h]
theorem callP_4 {F : Fn} {a b c e d : PyData} {s2 st : Sto} (h : F [.dat a, .dat b, .dat c, .dat e] [] = .ok (.dat d) s2) : callP F 4 [.dat a, .dat b, .dat c, .dat e] st = .ok (.dat d) st := by simp [callP, mapO, pureVs, pureV, afterP, h]
theorem compL_map {α : Type} {f : Va → Ev → Sto → Rs (Option Va)} {h G : α → Va} {ev : Ev} {st : Sto} : ∀ {xs : List α}, (∀ a ∈ xs, f (h a) ev st = .ok (some (G a)) st) → compL none f (xs.map h) ev st = .ok (xs.map G) st
  | [], _ => by simp [compL]
  | a :: r, hf => by
    have e1 := hf a (by simp)
    have e2 := compL_map (xs := r) fun b hb => hf b (List.mem_cons_of_mem _ hb)
    simp only [List.map_cons, compL, lkOk_none, if_true, e1, Rs.bind_ok, e2, consO]
theorem forS_map {α : Type} {b : Va → Ev → Sto → Rs Fl} {h : α → Va} {Inv : Ev → Prop} {st : Sto} : ∀ {xs : List α} {ev : Ev}, Inv ev → (∀ a ∈ xs, ∀ ev, Inv ev → ∃ ev', b (h a) ev st = .ok (.nx ev') st ∧ Inv ev') → ∃ ev', forS none b (xs.map h) ev st = .ok (.nx ev') st ∧ Inv ev'
  | [], ev, hi, _ => ⟨ev, by simp [forS], hi⟩
  | a :: r, ev, hi, hf => by
    obtain ⟨ev1, e1, h1⟩ := hf a (by simp) ev hi
    obtain ⟨ev2, e2, h2⟩ := forS_map (xs := r) h1 fun b hb => hf b (List.mem_cons_of_mem _ hb)
    exact ⟨ev2, by simp only [List.map_cons, forS, lkOk_none, if_true, e1, e2], h2⟩
theorem mkL_fun {α : Type} (g : α → PyData) (xs : List α) : mkL (xs.map fun a => .dat (g a)) = .dat (.list (xs.map g)) := by
  rw [show (xs.map fun a => Va.dat (g a)) = (xs.map g).map .dat by simp, mkL_map]
end Sk

namespace L_k21
open PySem PySem.Spec PyProof.Rows L2 Sk
/-! ### what it computes -/
def fuel : Nat := 100000
def k_LONG : List Int := [31, 28, 31, 30, 31, 30, 31, 31, 30, 31, 30, 31]
def c_days_ahead : CS :=
    (dSeq (dAsg (dBin subV (dVar 0) (dC (.int 1))) (gN 1))
    (dRet (dBin addV (dBin subV (dBin addV (dBin mulI (dC (.int 365)) (dVar 1)) (dBin divV (dVar 1) (dC (.int 4)))) (dBin divV (dVar 1) (dC (.int 100)))) (dBin divV (dVar 1) (dC (.int 400))))))
def F_days_ahead : Fn := mkFn 2 c_days_ahead
def c_is_whole : CS :=
    (dRet (dAnd (dUn (isiV "int") (dVar 0)) (dAnd (dUn notV (dUn (isiV "bool") (dVar 0))) (dChain leV leV (dVar 1) (dVar 0) (dVar 2)))))
def F_is_whole : Fn := mkFn 3 c_is_whole
def c_is_leap : CS :=
    (dRet (dAnd (dBin eqV (dBin modV (dVar 0) (dC (.int 4))) (dC (.int 0))) (dOr (dBin neV (dBin modV (dVar 0) (dC (.int 100))) (dC (.int 0))) (dBin eqV (dBin modV (dVar 0) (dC (.int 400))) (dC (.int 0))))))
def F_is_leap : Fn := mkFn 1 c_is_leap
def c_month_length : CS :=
    (dRet (dBin addV (dBin ixV (dK (k_LONG.map fun i => .dat (.int i))) (dBin subV (dVar 1) (dC (.int 1)))) (dCallB intF (dCons (dAnd (dBin eqV (dVar 1) (dC (.int 2))) (dCallP F_is_leap 1 (dCons (dVar 0) dNil))) dNil))))
def F_month_length : Fn := mkFn 2 c_month_length
def c_is_date : CS :=
    (dSeq (dIfS (dOrT (dNotT (dTest (dUn (isiV "tuple") (dVar 0)))) (dTest (dBin neV (dCallB lenV (dCons (dVar 0) dNil)) (dC (.int 3))))) (dRet (dC (.bool false))) dSkip)
    (dSeq (dIfS (dOrT (dNotT (dTest (dCallP F_is_whole 3 (dCons (dBin ixV (dVar 0) (dC (.int 0))) (dCons (dC (.int 1)) (dCons (dC (.int 9999)) dNil)))))) (dNotT (dTest (dCallP F_is_whole 3 (dCons (dBin ixV (dVar 0) (dC (.int 1))) (dCons (dC (.int 1)) (dCons (dC (.int 12)) dNil))))))) (dRet (dC (.bool false))) dSkip)
    (dRet (dCallP F_is_whole 3 (dCons (dBin ixV (dVar 0) (dC (.int 2))) (dCons (dC (.int 1)) (dCons (dCallP F_month_length 2 (dCons (dBin ixV (dVar 0) (dC (.int 0))) (dCons (dBin ixV (dVar 0) (dC (.int 1))) dNil))) dNil)))))))
def F_is_date : Fn := mkFn 1 c_is_date
def c_check_date : CS :=
    (dIfS (dNotT (dTest (dCallP F_is_date 1 (dCons (dVar 0) dNil)))) noS dSkip)
def F_check_date : Fn := mkFn 1 c_check_date
def c_day_of_year : CS :=
    (dSeq (dDo (dCallP F_check_date 1 (dCons (dVar 0) dNil)))
    (dRet (dBin addV (dGen eatSum (.dat (.int 0)) (dRange (dCons (dC (.int 1)) (dCons (dBin ixV (dVar 0) (dC (.int 1))) dNil))) [1] (gN 1) (dCallP F_month_length 2 (dCons (dBin ixV (dVar 0) (dC (.int 0))) (dCons (dVar 1) dNil)))) (dBin ixV (dVar 0) (dC (.int 2))))))
def F_day_of_year : Fn := mkFn 2 c_day_of_year
def c_number_of : CS :=
    (dRet (dBin subV (dBin addV (dCallP F_days_ahead 1 (dCons (dBin ixV (dVar 0) (dC (.int 0))) dNil)) (dCallP F_day_of_year 1 (dCons (dVar 0) dNil))) (dC (.int 1))))
def F_number_of : Fn := mkFn 1 c_number_of
def c_date_of : CS :=
    (dSeq (dIfS (dNotT (dTest (dCallP F_is_whole 3 (dCons (dVar 0) (dCons (dC (.int 0)) (dCons (dBin subV (dCallP F_days_ahead 1 (dCons (dBin addV (dC (.int 9999)) (dC (.int 1))) dNil)) (dC (.int 1))) dNil)))))) noS dSkip)
    (dSeq (dAsg (dBin addV (dBin divV (dVar 0) (dC (.int 366))) (dC (.int 1))) (gN 1))
    (dSeq (whileS (dTest (dBin leV (dCallP F_days_ahead 1 (dCons (dBin addV (dVar 1) (dC (.int 1))) dNil)) (dVar 0))) (dAug 1 addI (dC (.int 1))) fuel)
    (dSeq (dPar 2 3 (dCons (dBin subV (dVar 0) (dCallP F_days_ahead 1 (dCons (dVar 1) dNil))) (dCons (dC (.int 1)) dNil)))
    (dSeq (whileS (dTest (dBin geV (dVar 2) (dCallP F_month_length 2 (dCons (dVar 1) (dCons (dVar 3) dNil))))) (dSeq (dAug 2 subV (dCallP F_month_length 2 (dCons (dVar 1) (dCons (dVar 3) dNil))))
    (dAug 3 addI (dC (.int 1)))) fuel)
    (dRet (dTup (dCons (dVar 1) (dCons (dVar 3) (dCons (dBin addV (dVar 2) (dC (.int 1))) dNil))))))))))
def F_date_of : Fn := mkFn 4 c_date_of
def c_light : CS :=
    (dSeq (dPar 2 3 (dCons (dBin subV (dCallP F_day_of_year 1 (dCons (dVar 0) dNil)) (dC (.int 1))) (dCons (dBin addV (dC (.int 365)) (dCallB intF (dCons (dCallP F_is_leap 1 (dCons (dBin ixV (dVar 0) (dC (.int 0))) dNil)) dNil))) dNil)))
    (dSeq (dAsg (dBin modV (dBin addV (dVar 2) (dC (.int 10))) (dVar 3)) (gN 4))
    (dSeq (dAsg (dIf (dTest (dBin leV (dBin mulI (dC (.int 2)) (dVar 4)) (dVar 3))) (dVar 4) (dBin subV (dVar 3) (dVar 4))) (gN 5))
    (dRet (dBin addV (dBin subV (dC (.int 720)) (dVar 1)) (dBin divV (dBin mulI (dBin mulI (dC (.int 4)) (dVar 1)) (dVar 5)) (dVar 3)))))))
def F_light : Fn := mkFn 6 c_light
def c_law : CS :=
    (dSeq (dFor (dIter (dCallO F__law_rounds 2 (dCons (dVar 0) (dCons (dC (.int 1)) dNil)))) (gN 1) (dSeq (dAsg (dTup (dCons (dBin addV (dC (.int 1)) (dCallO F__law_roll 2 (dCons (dVar 1) (dCons (dC (.int 9998)) dNil)))) (dCons (dCallO F__law_roll 2 (dCons (dVar 1) (dCons (dC (.int 701)) dNil))) dNil))) (gTp 2 (gsCons (gN 2) (gsCons (gN 3) gsNil))))
    (dSeq (dAsg (dCallP F_number_of 1 (dCons (dTup (dCons (dVar 2) (dCons (dC (.int 1)) (dCons (dC (.int 1)) dNil)))) dNil)) (gN 4))
    (dSeq (dAsg (dBin addV (dC (.int 365)) (dCallB intF (dCons (dCallP F_is_leap 1 (dCons (dVar 2) dNil)) dNil))) (gN 5))
    (dSeq (dAsg (dComp asF (dRange (dCons (dBin divV (dVar 5) (dC (.int 23))) dNil)) [13] (gN 13) dYes (dTup (dCons (dCallP F_date_of 1 (dCons (dBin addV (dVar 4) (dBin mulI (dVar 13) (dC (.int 23)))) dNil)) (dCons (dCallP F_date_of 1 (dCons (dBin addV (dBin addV (dVar 4) (dBin mulI (dVar 13) (dC (.int 23)))) (dC (.int 1))) dNil)) dNil)))) (gN 6))
    (dSeq (dFor (dIter (dVar 6)) (gTp 2 (gsCons (gN 7) (gsCons (gN 8) gsNil))) (dSeq (dPar 9 10 (dCons (dCallP F_light 2 (dCons (dVar 7) (dCons (dVar 3) dNil))) (dCons (dCallP F_light 2 (dCons (dVar 8) (dCons (dVar 3) dNil))) dNil)))
    (dSeq (dIfS (dOrT (dNotT (dTest (dChain leV leV (dBin subV (dC (.int 720)) (dVar 3)) (dVar 9) (dBin addV (dC (.int 720)) (dVar 3))))) (dTest (dBin gtV (dCallB absF (dCons (dBin subV (dVar 10) (dVar 9)) dNil)) (dBin addV (dBin divV (dBin mulI (dC (.int 4)) (dVar 3)) (dVar 5)) (dC (.int 1)))))) (dRet (dC (.bool false))) dSkip)
    (dIfS (dTest (dBin neV (dCallP F_light 2 (dCons (dVar 7) (dCons (dC (.int 0)) dNil))) (dC (.int 720)))) (dRet (dC (.bool false))) dSkip))))
    (dSeq (dAsg (dComp asF (dRange (dCons (dC (.int 20)) (dCons (dC (.int 25)) dNil))) [14] (gN 14) dYes (dCallP F_light 2 (dCons (dTup (dCons (dVar 2) (dCons (dC (.int 12)) (dCons (dVar 14) dNil)))) (dCons (dVar 3) dNil)))) (gN 11))
    (dSeq (dIfS (dOrT (dTest (dBin neV (dCallB minF (dCons (dVar 11) dNil)) (dBin subV (dC (.int 720)) (dVar 3)))) (dTest (dBin neV (dCallP F_light 2 (dCons (dTup (dCons (dVar 2) (dCons (dC (.int 12)) (dCons (dC (.int 22)) dNil)))) (dCons (dVar 3) dNil))) (dBin subV (dC (.int 720)) (dVar 3))))) (dRet (dC (.bool false))) dSkip)
    (dSeq (dAsg (dComp asF (dRange (dCons (dC (.int 20)) (dCons (dC (.int 25)) dNil))) [14] (gN 14) dYes (dCallP F_light 2 (dCons (dTup (dCons (dVar 2) (dCons (dC (.int 6)) (dCons (dVar 14) dNil)))) (dCons (dVar 3) dNil)))) (gN 12))
    (dIfS (dTest (dBin ltV (dCallB maxF (dCons (dVar 12) dNil)) (dBin subV (dBin subV (dBin addV (dC (.int 720)) (dVar 3)) (dBin divV (dBin mulI (dC (.int 4)) (dVar 3)) (dVar 5))) (dC (.int 1))))) (dRet (dC (.bool false))) dSkip))))))))))
    (dRet (dC (.bool true))))
def F_law : Fn := mkFn 15 c_law
end L_k21

set_option maxHeartbeats 1000000
namespace L_k21
open PySem PySem.Spec PyProof.Rows L2 Sk
def lp (y : Int) : Int := if y % 4 = 0 ∧ (¬ y % 100 = 0 ∨ y % 400 = 0) then 1 else 0
def leapB (y : Int) : Bool := decide (y % 4 = 0) && (!decide (y % 100 = 0) || decide (y % 400 = 0))
theorem lp_b (y : Int) : (if leapB y = true then 1 else 0 : Int) = lp y := by
  unfold leapB lp
  simp
theorem lp_01 (y : Int) : lp y = 0 ∨ lp y = 1 := by unfold lp; split <;> simp
theorem leap_eq (y : Int) : F_is_leap [.dat (.int y)] [] = .ok (.dat (.bool (leapB y))) [] := by
  unfold leapB
  by_cases h1 : y % 4 = 0 <;> by_cases h2 : y % 100 = 0 <;> simp [F_is_leap, mkFn, c_is_leap, mkEv, modV_i, asRet, h1, h2]
def lenM (l m : Int) : Int := match m with
  | 1 => 31 | 2 => 28 + l | 3 => 31 | 4 => 30 | 5 => 31 | 6 => 30 | 7 => 31 | 8 => 31 | 9 => 30 | 10 => 31 | 11 => 30 | _ => 31
theorem twelve {m : Int} (h1 : 1 ≤ m) (h2 : m ≤ 12) : m = 1 ∨ m = 2 ∨ m = 3 ∨ m = 4 ∨ m = 5 ∨ m = 6 ∨ m = 7 ∨ m = 8 ∨ m = 9 ∨ m = 10 ∨ m = 11 ∨ m = 12 := by omega
theorem month_eq (y m : Int) (h1 : 1 ≤ m) (h2 : m ≤ 12) : F_month_length [.dat (.int y), .dat (.int m)] [] = .ok (.dat (.int (lenM (lp y) m))) [] := by
  rw [← lp_b]
  rcases twelve h1 h2 with h | h | h | h | h | h | h | h | h | h | h | h <;> subst h <;>
    simp [F_month_length, mkFn, c_month_length, mkEv, asRet, ixV, seqOf, k_LONG, callP_1 (leap_eq y), lenM] <;> rfl
def ahead (y : Int) : Int := 365 * (y - 1) + (y - 1) / 4 - (y - 1) / 100 + (y - 1) / 400
theorem ahead_eq (y : Int) : F_days_ahead [.dat (.int y)] [] = .ok (.dat (.int (ahead y))) [] := by
  simp [F_days_ahead, mkFn, c_days_ahead, mkEv, asRet, mulI, near64, oI, divV_i, ahead]
theorem whole_eq (x lo hi : Int) : F_is_whole [.dat (.int x), .dat (.int lo), .dat (.int hi)] [] = .ok (.dat (.bool (decide (lo ≤ x) && decide (x ≤ hi)))) [] := by
  by_cases h : lo ≤ x <;> simp [F_is_whole, mkFn, c_is_whole, mkEv, asRet, isiV, tyName, subTy, oB, h]
def cum (l m : Int) : Int := match m with
  | 1 => 0 | 2 => 31 | 3 => 59 + l | 4 => 90 + l | 5 => 120 + l | 6 => 151 + l | 7 => 181 + l | 8 => 212 + l | 9 => 243 + l | 10 => 273 + l | 11 => 304 + l | 12 => 334 + l | _ => 365 + l
def dateD (y m d : Int) : PyData := .tuple [.int y, .int m, .int d]
section
variable {y m d : Int} (hy : 1 ≤ y) (hy2 : y ≤ 9999) (hm : 1 ≤ m) (hm2 : m ≤ 12) (hd : 1 ≤ d) (hd2 : d ≤ lenM (lp y) m)
theorem ix0 {st : Sto} : ixV (.dat (dateD y m d)) (.dat (.int 0)) st = .ok (.dat (.int y)) st := rfl
theorem ix1 {st : Sto} : ixV (.dat (dateD y m d)) (.dat (.int 1)) st = .ok (.dat (.int m)) st := rfl
theorem ix2 {st : Sto} : ixV (.dat (dateD y m d)) (.dat (.int 2)) st = .ok (.dat (.int d)) st := rfl
include hy hy2 hm hm2 hd hd2
theorem isdate_eq : F_is_date [.dat (dateD y m d)] [] = .ok (.dat (.bool true)) [] := by
  have e1 : isiV "tuple" (.dat (dateD y m d)) [] = .ok (.dat (.bool true)) [] := rfl
  have e2 : lenV [.dat (dateD y m d)] [] = .ok (.dat (.int 3)) [] := rfl
  simp [F_is_date, mkFn, c_is_date, mkEv, asRet, e1, e2, ix0, ix1, ix2, callP_3 (whole_eq y 1 9999), callP_3 (whole_eq m 1 12), callP_2 (month_eq y m hm hm2), callP_3 (whole_eq d 1 (lenM (lp y) m)), hy, hy2, hm, hm2, hd, hd2]
theorem check_eq : F_check_date [.dat (dateD y m d)] [] = .ok (.dat .none) [] := by
  simp [F_check_date, mkFn, c_check_date, mkEv, asRet, callP_1 (isdate_eq hy hy2 hm hm2 hd hd2)]
theorem doy_eq : F_day_of_year [.dat (dateD y m d)] [] = .ok (.dat (.int (cum (lp y) m + d))) [] := by
  have step : ∀ i : Int, 1 ≤ i → i ≤ 12 → genTurn (gN 1) (dCallP F_month_length 2 (dCons (dBin ixV (dVar 0) (dC (.int 0))) (dCons (dVar 1) dNil))) (.dat (.int i)) [some (.dat (dateD y m d)), none] [] = .ok (.dat (.int (lenM (lp y) i))) [] := fun i h1 h2 => by
    simp [genTurn, ix0, callP_2 (month_eq y i h1 h2)]
  have hg : genL none (genTurn (gN 1) (dCallP F_month_length 2 (dCons (dBin ixV (dVar 0) (dC (.int 0))) (dCons (dVar 1) dNil)))) eatSum (rangeL 1 (m - 1).toNat) (.dat (.int 0)) [some (.dat (dateD y m d)), none] [] = .ok (.dat (.int (cum (lp y) m))) [] := by
    rcases twelve hm hm2 with h | h | h | h | h | h | h | h | h | h | h | h <;> subst h <;> rcases lp_01 y with hl | hl <;>
      simp [rangeL, List.range_succ, genL, step, eatSum, long, lenM, cum, hl]
  have hr : Sk.inR m = true := by unfold Sk.inR; simp; omega
  have hr1 : Sk.inR 1 = true := by decide
  rw [show (m - 1).toNat = m.toNat - 1 by omega] at hg
  simp [F_day_of_year, mkFn, c_day_of_year, mkEv, asRet, callP_1 (check_eq hy hy2 hm hm2 hd hd2), ix0, ix1, ix2, rangeV, hr, hr1, wipeE, hg]
end
end L_k21

set_option maxHeartbeats 1000000
namespace L_k21
open PySem PySem.Spec PyProof.Rows L2 Sk
theorem ahead_step (y : Int) : ahead (y + 1) = ahead y + 365 + lp y := by
  unfold ahead lp
  split <;> omega
theorem ahead_mono {y z : Int} (h : y ≤ z) : ahead y ≤ ahead z := by
  unfold ahead
  omega
theorem ahead_low {y : Int} (h : 1 ≤ y) : 0 ≤ ahead y ∧ ahead y ≤ 366 * (y - 1) := by
  unfold ahead
  omega
theorem while1 {Y n : Int} (h0 : 0 ≤ n) (h1 : n < 365 + lp Y) : ∀ (f : Nat) (y : Int), y ≤ Y → (Y - y).toNat < f →
    whileS (dTest (dBin leV (dCallP F_days_ahead 1 (dCons (dBin addV (dVar 1) (dC (.int 1))) dNil)) (dVar 0))) (dAug 1 addI (dC (.int 1))) f [some (.dat (.int (ahead Y + n))), some (.dat (.int y)), none, none] [] =
      .ok (.nx [some (.dat (.int (ahead Y + n))), some (.dat (.int Y)), none, none]) [] := by
  intro f
  induction f with
  | zero => intro y _ h; omega
  | succ f ih =>
    intro y hy hf
    by_cases e : y = Y
    · subst e
      have q : ¬ ahead (y + 1) ≤ ahead y + n := by rw [ahead_step]; omega
      simp [whileS, callP_1 (ahead_eq (y + 1)), q]
    · have q : ahead (y + 1) ≤ ahead Y + n := by
        have := ahead_mono (show y + 1 ≤ Y by omega)
        omega
      have := ih (y + 1) (by omega) (by omega)
      simp [whileS, callP_1 (ahead_eq (y + 1)), q, this]
def mOf (l n : Int) : Int := if n < 31 then 1 else if n < 59 + l then 2 else if n < 90 + l then 3 else if n < 120 + l then 4 else if n < 151 + l then 5 else if n < 181 + l then 6 else if n < 212 + l then 7 else
  if n < 243 + l then 8 else if n < 273 + l then 9 else if n < 304 + l then 10 else if n < 334 + l then 11 else 12
theorem cum_step {l m : Int} (h1 : 1 ≤ m) (h2 : m ≤ 12) : cum l (m + 1) = cum l m + lenM l m := by
  rcases twelve h1 h2 with h | h | h | h | h | h | h | h | h | h | h | h <;> subst h <;> simp [cum, lenM] <;> omega
theorem mOf_of {l n m : Int} (hl : l = 0 ∨ l = 1) (h1 : 1 ≤ m) (h2 : m ≤ 12) (h3 : cum l m ≤ n) (h4 : n < cum l m + lenM l m) : mOf l n = m := by
  unfold mOf
  rcases twelve h1 h2 with h | h | h | h | h | h | h | h | h | h | h | h <;> subst h <;> simp only [cum, lenM] at h3 h4 <;> repeat (first | rw [if_pos (by omega)] | rw [if_neg (by omega)])
theorem mOf_in {l n : Int} (hl : l = 0 ∨ l = 1) (h0 : 0 ≤ n) (h1 : n < 365 + l) : 1 ≤ mOf l n ∧ mOf l n ≤ 12 ∧ cum l (mOf l n) ≤ n ∧ n < cum l (mOf l n) + lenM l (mOf l n) := by
  unfold mOf
  (repeat' split) <;> simp [cum, lenM] <;> omega
theorem while2 {Y n : Int} (h0 : 0 ≤ n) (h1 : n < 365 + lp Y) : ∀ (f : Nat) (m : Int), 1 ≤ m → m ≤ 12 → cum (lp Y) m ≤ n → (12 - m).toNat < f →
    whileS (dTest (dBin geV (dVar 2) (dCallP F_month_length 2 (dCons (dVar 1) (dCons (dVar 3) dNil))))) (dSeq (dAug 2 subV (dCallP F_month_length 2 (dCons (dVar 1) (dCons (dVar 3) dNil))))
    (dAug 3 addI (dC (.int 1)))) f [some (.dat (.int (ahead Y + n))), some (.dat (.int Y)), some (.dat (.int (n - cum (lp Y) m))), some (.dat (.int m))] [] =
      .ok (.nx [some (.dat (.int (ahead Y + n))), some (.dat (.int Y)), some (.dat (.int (n - cum (lp Y) (mOf (lp Y) n)))), some (.dat (.int (mOf (lp Y) n)))]) [] := by
  intro f
  induction f with
  | zero => intro m _ _ _ h; omega
  | succ f ih =>
    intro m hm hm2 hc hf
    by_cases e : n < cum (lp Y) m + lenM (lp Y) m
    · have q : ¬ lenM (lp Y) m ≤ n - cum (lp Y) m := by omega
      rw [mOf_of (lp_01 Y) hm hm2 hc e]
      simp [whileS, callP_2 (month_eq Y m hm hm2), q]
    · have q : lenM (lp Y) m ≤ n - cum (lp Y) m := by omega
      have s := cum_step (l := lp Y) hm hm2
      have h12 : m ≠ 12 := fun z => by
        subst z
        simp [cum, lenM] at e
        omega
      have := ih (m + 1) (by omega) (by omega) (by omega) (by omega)
      rw [s] at this
      rw [show n - (cum (lp Y) m + lenM (lp Y) m) = n - cum (lp Y) m - lenM (lp Y) m by omega] at this
      simp [whileS, callP_2 (month_eq Y m hm hm2), q, this]
theorem dateof_eq {Y n : Int} (hY : 1 ≤ Y) (hY2 : Y ≤ 9999) (h0 : 0 ≤ n) (h1 : n < 365 + lp Y) : F_date_of [.dat (.int (ahead Y + n))] [] = .ok (.dat (dateD Y (mOf (lp Y) n) (n - cum (lp Y) (mOf (lp Y) n) + 1))) [] := by
  have hw : whole_eq (ahead Y + n) 0 (ahead 10000 - 1) = whole_eq (ahead Y + n) 0 (ahead 10000 - 1) := rfl
  have a1 := ahead_low hY
  have a2 := ahead_mono (show Y + 1 ≤ 10000 by omega)
  have a3 := ahead_step Y
  have l01 := lp_01 Y
  have t1 : 0 ≤ ahead Y + n := by omega
  have t2 : ahead Y + n ≤ ahead 10000 - 1 := by omega
  have y0 : (ahead Y + n) / 366 + 1 ≤ Y := by omega
  have y1 : 0 ≤ (ahead Y + n) / 366 := by omega
  have w1 := while1 h0 h1 fuel ((ahead Y + n) / 366 + 1) y0 (by unfold fuel; omega)
  have w2 := while2 h0 h1 fuel 1 (by omega) (by omega) (by simp [cum]; omega) (by unfold fuel; omega)
  rw [show cum (lp Y) 1 = 0 from rfl, Int.sub_zero] at w2
  simp [F_date_of, mkFn, c_date_of, mkEv, asRet, callP_1 (ahead_eq 10000), callP_3 (whole_eq (ahead Y + n) 0 (ahead 10000 - 1)), t1, t2, divV_i, w1, callP_1 (ahead_eq Y)]
  rw [show ahead Y + n - ahead Y = n by omega]
  simp [w2, mkT, allDat, dateD, asRet]
end L_k21

set_option maxHeartbeats 1000000
namespace L_k21
open PySem PySem.Spec PyProof.Rows L2 Sk
def rise (l s : Int) : Int := if 2 * s ≤ 365 + l then s else 365 + l - s
def lt (l n r : Int) : Int := 720 - r + 4 * r * rise l ((n + 10) % (365 + l)) / (365 + l)
theorem light_eq {y m d r : Int} (hy : 1 ≤ y) (hy2 : y ≤ 9999) (hm : 1 ≤ m) (hm2 : m ≤ 12) (hd : 1 ≤ d) (hd2 : d ≤ lenM (lp y) m) (h0 : 0 ≤ r) (h1 : r ≤ 700) :
    F_light [.dat (dateD y m d), .dat (.int r)] [] = .ok (.dat (.int (lt (lp y) (cum (lp y) m + d - 1) r))) [] := by
  have l01 := lp_01 y
  have p1 : 0 < 365 + lp y := by omega
  have p2 : 365 + lp y < 1073741824 := by omega
  have n1 : near64 (4 * r) = true := by unfold near64; simp; omega
  have n2 : near64 2 = true := by decide
  have n4 : near64 4 = true := by decide
  by_cases hs : 2 * ((cum (lp y) m + d - 1 + 10) % (365 + lp y)) ≤ 365 + lp y
  · simp [F_light, mkFn, c_light, mkEv, asRet, callP_1 (doy_eq hy hy2 hm hm2 hd hd2), ix0, callP_1 (leap_eq y), lp_b, modV_i p1, mulI_l n1, mulI_l n2, mulI_l n4, divV_i p1 p2, hs, lt, rise]
  · simp [F_light, mkFn, c_light, mkEv, asRet, callP_1 (doy_eq hy hy2 hm hm2 hd hd2), ix0, callP_1 (leap_eq y), lp_b, modV_i p1, mulI_l n1, mulI_l n2, mulI_l n4, divV_i p1 p2, hs, lt, rise]
def dt (y n : Int) : PyData := dateD y (mOf (lp y) n) (n - cum (lp y) (mOf (lp y) n) + 1)
theorem light_dt {y n r : Int} (hy : 1 ≤ y) (hy2 : y ≤ 9999) (hn : 0 ≤ n) (hn2 : n < 365 + lp y) (h0 : 0 ≤ r) (h1 : r ≤ 700) : F_light [.dat (dt y n), .dat (.int r)] [] = .ok (.dat (.int (lt (lp y) n r))) [] := by
  obtain ⟨m1, m2, m3, m4⟩ := mOf_in (lp_01 y) hn hn2
  have e := light_eq (r := r) (d := n - cum (lp y) (mOf (lp y) n) + 1) hy hy2 m1 m2 (by omega) (by omega) h0 h1
  rw [show cum (lp y) (mOf (lp y) n) + (n - cum (lp y) (mOf (lp y) n) + 1) - 1 = n by omega] at e
  exact e
theorem number_eq {y : Int} (hy : 1 ≤ y) (hy2 : y ≤ 9999) : F_number_of [.dat (dateD y 1 1)] [] = .ok (.dat (.int (ahead y))) [] := by
  have e := doy_eq hy hy2 (m := 1) (d := 1) (by omega) (by omega) (by omega) (by simp [lenM])
  simp [F_number_of, mkFn, c_number_of, mkEv, asRet, ix0, callP_1 (ahead_eq y), callP_1 e, cum]
/-! ### the light's facts -/
theorem lt_in {l n r : Int} (hl : l = 0 ∨ l = 1) (h0 : 0 ≤ r) : 720 - r ≤ lt l n r ∧ lt l n r ≤ 720 + r := by
  unfold lt
  have p : 0 < 365 + l := by omega
  have s1 := Int.emod_nonneg (n + 10) (show 365 + l ≠ 0 by omega)
  have s2 := Int.emod_lt_of_pos (n + 10) p
  generalize (n + 10) % (365 + l) = s at *
  have q1 : 0 ≤ rise l s := by unfold rise; split <;> omega
  have q2 : 2 * rise l s ≤ 365 + l := by unfold rise; split <;> omega
  generalize rise l s = z at *
  have a1 : 0 ≤ 4 * r * z / (365 + l) := Int.ediv_nonneg (Int.mul_nonneg (by omega) q1) (by omega)
  have a2 : 4 * r * z / (365 + l) ≤ 2 * r := by
    apply Int.ediv_le_of_le_mul p
    have := Int.mul_le_mul_of_nonneg_left q2 (show 0 ≤ 2 * r by omega)
    have e1 : 4 * r * z = 2 * r * (2 * z) := by
      rw [show (4 : Int) * r = 2 * r * 2 by omega, Int.mul_assoc]
    omega
  omega
theorem lt_near {l n r : Int} (hl : l = 0 ∨ l = 1) (h0 : 0 ≤ r) (hn : 0 ≤ n) (hn2 : n ≤ 322) : (if lt l (n + 1) r - lt l n r < 0 then -(lt l (n + 1) r - lt l n r) else lt l (n + 1) r - lt l n r) ≤ 4 * r / (365 + l) + 1 := by
  unfold lt
  rw [Int.emod_eq_of_lt (show 0 ≤ n + 10 by omega) (show n + 10 < 365 + l by omega), Int.emod_eq_of_lt (show 0 ≤ n + 1 + 10 by omega) (show n + 1 + 10 < 365 + l by omega)]
  have q : rise l (n + 1 + 10) = rise l (n + 10) + 1 ∨ rise l (n + 1 + 10) = rise l (n + 10) ∨ rise l (n + 1 + 10) = rise l (n + 10) - 1 := by unfold rise; split <;> split <;> omega
  generalize rise l (n + 1 + 10) = z1 at *
  generalize rise l (n + 10) = z at *
  have e1 : 4 * r * (z + 1) = 4 * r * z + 4 * r := by rw [Int.mul_add, Int.mul_one]
  have e2 : 4 * r * (z - 1) = 4 * r * z - 4 * r := by rw [Int.mul_sub, Int.mul_one]
  rcases hl with hl | hl <;> subst hl <;> rcases q with q | q | q <;> subst q <;> (try rw [e1]) <;> (try rw [e2]) <;> generalize 4 * r * _ = w <;> split <;> omega
theorem lt_zero {l n : Int} : lt l n 0 = 720 := by unfold lt; simp
end L_k21

set_option maxHeartbeats 2000000
namespace L_k21
open PySem PySem.Spec PyProof.Rows L2 Sk
theorem low_min {l r : Int} (hl : l = 0 ∨ l = 1) (h0 : 0 ≤ r) : leastI [lt l (353 + l) r, lt l (354 + l) r, lt l (355 + l) r, lt l (356 + l) r, lt l (357 + l) r] = 720 - r := by
  have e : lt l (355 + l) r = 720 - r := by
    unfold lt
    rcases hl with hl | hl <;> subst hl <;> simp [rise]
  rw [← e]
  refine leastI_eq (by simp) fun y hy => ?_
  rw [e]
  simp only [List.mem_cons, List.not_mem_nil, or_false] at hy
  rcases hy with h | h | h | h | h <;> subst h <;> exact (lt_in hl h0).1
theorem low_22 {l r : Int} (hl : l = 0 ∨ l = 1) : lt l (355 + l) r = 720 - r := by
  unfold lt
  rcases hl with hl | hl <;> subst hl <;> simp [rise]
theorem most_ge {x : Int} : ∀ {ns : List Int}, x ∈ ns → x ≤ mostI ns
  | [y], h => by simp at h; subst h; exact Int.le_refl _
  | y :: z :: r, h => by
    have ih := @most_ge x (z :: r)
    have e : mostI (y :: z :: r) = if mostI (z :: r) ≤ y then y else mostI (z :: r) := rfl
    rw [e]
    rcases List.mem_cons.mp h with q | q
    · subst q; split <;> omega
    · have := ih q
      split <;> omega
theorem high_max {l r : Int} (hl : l = 0 ∨ l = 1) (h0 : 0 ≤ r) : ¬ mostI [lt l (170 + l) r, lt l (171 + l) r, lt l (172 + l) r, lt l (173 + l) r, lt l (174 + l) r] < 720 + r - 4 * r / (365 + l) - 1 := by
  have q : lt l (172 + l) r ≤ mostI [lt l (170 + l) r, lt l (171 + l) r, lt l (172 + l) r, lt l (173 + l) r, lt l (174 + l) r] := most_ge (by simp)
  have e : 720 + r - 4 * r / (365 + l) - 1 ≤ lt l (172 + l) r := by
    unfold lt
    rcases hl with hl | hl <;> subst hl <;> simp [rise] <;> omega
  omega
section
variable {Y r : Int} (hY : 1 ≤ Y) (hY2 : Y ≤ 9998) (h0 : 0 ≤ r) (h1 : r ≤ 700)
def P2 (Y : Int) (a : Nat) : PyData := .tuple [dt Y ((a : Int) * 23), dt Y ((a : Int) * 23 + 1)]
theorem days_aux {G : Fn} {A : Int} {d1 d2 : PyData} {st : Sto} {x0 x1 x2 x3 x5 x6 x7 x8 x9 x10 x11 x12 x14 : Option Va} {k : Int} (e1 : G [.dat (.int (A + k * 23))] [] = .ok (.dat d1) []) (e2 : G [.dat (.int (A + k * 23 + 1))] [] = .ok (.dat d2) []) :
    Sk.compTurn (gN 13) dYes (dTup (dCons (dCallP G 1 (dCons (dBin addV (dVar 4) (dBin mulI (dVar 13) (dC (.int 23)))) dNil)) (dCons (dCallP G 1 (dCons (dBin addV (dBin addV (dVar 4) (dBin mulI (dVar 13) (dC (.int 23)))) (dC (.int 1))) dNil)) dNil)))
      (.dat (.int k)) [x0, x1, x2, x3, some (.dat (.int A)), x5, x6, x7, x8, x9, x10, x11, x12, none, x14] st = .ok (some (.dat (.tuple [d1, d2]))) st := by
  have n23 : near64 23 = true := by decide
  simp [Sk.compTurn, mulI_r n23, callP_1 e1, callP_1 e2, mkT, allDat]
include hY hY2 in
theorem days_turn (st : Sto) (x0 x1 x2 x3 x5 x6 x7 x8 x9 x10 x11 x12 x14 : Option Va) (a : Nat) (ha : a < 15) :
    Sk.compTurn (gN 13) dYes (dTup (dCons (dCallP F_date_of 1 (dCons (dBin addV (dVar 4) (dBin mulI (dVar 13) (dC (.int 23)))) dNil)) (dCons (dCallP F_date_of 1 (dCons (dBin addV (dBin addV (dVar 4) (dBin mulI (dVar 13) (dC (.int 23)))) (dC (.int 1))) dNil)) dNil)))
      (.dat (.int (0 + (a : Int)))) [x0, x1, x2, x3, some (.dat (.int (ahead Y))), x5, x6, x7, x8, x9, x10, x11, x12, none, x14] st = .ok (some (.dat (P2 Y a))) st := by
  have l01 := lp_01 Y
  have e1 := dateof_eq (n := (a : Int) * 23) hY (by omega) (by omega) (by omega)
  have e2 := dateof_eq (n := (a : Int) * 23 + 1) hY (by omega) (by omega) (by omega)
  rw [← Int.add_assoc] at e2
  rw [Int.zero_add]
  exact days_aux e1 e2
def Iv (v0 : Option Va) (v1 : Option Va) (Y r : Int) (v6 v11 v12 v13 v14 : Option Va) (ev : Ev) : Prop := ∃ a b c d : Option Va,
  ev = [v0, v1, some (.dat (.int Y)), some (.dat (.int r)), some (.dat (.int (ahead Y))), some (.dat (.int (365 + lp Y))), v6, a, b, c, d, v11, v12, v13, v14]
include hY hY2 h0 h1 in
theorem turn2 (st : Sto) (v0 v1 v6 v11 v12 v13 v14 : Option Va) (a : Nat) (ha : a < 15) (ev : Ev) (hi : Iv v0 v1 Y r v6 v11 v12 v13 v14 ev) :
    ∃ ev', dTurn (gTp 2 (gsCons (gN 7) (gsCons (gN 8) gsNil))) (dSeq (dPar 9 10 (dCons (dCallP F_light 2 (dCons (dVar 7) (dCons (dVar 3) dNil))) (dCons (dCallP F_light 2 (dCons (dVar 8) (dCons (dVar 3) dNil))) dNil)))
    (dSeq (dIfS (dOrT (dNotT (dTest (dChain leV leV (dBin subV (dC (.int 720)) (dVar 3)) (dVar 9) (dBin addV (dC (.int 720)) (dVar 3))))) (dTest (dBin gtV (dCallB absF (dCons (dBin subV (dVar 10) (dVar 9)) dNil)) (dBin addV (dBin divV (dBin mulI (dC (.int 4)) (dVar 3)) (dVar 5)) (dC (.int 1)))))) (dRet (dC (.bool false))) dSkip)
    (dIfS (dTest (dBin neV (dCallP F_light 2 (dCons (dVar 7) (dCons (dC (.int 0)) dNil))) (dC (.int 720)))) (dRet (dC (.bool false))) dSkip))) (.dat (P2 Y a)) ev st = .ok (.nx ev') st ∧ Iv v0 v1 Y r v6 v11 v12 v13 v14 ev' := by
  obtain ⟨a1, b1, c1, d1, rfl⟩ := hi
  have l01 := lp_01 Y
  have p1 : 0 < 365 + lp Y := by omega
  have p2 : 365 + lp Y < 1073741824 := by omega
  have n4 : near64 4 = true := by decide
  have e1 := light_dt (n := (a : Int) * 23) hY (by omega) (by omega) (by omega) h0 h1
  have e2 := light_dt (n := (a : Int) * 23 + 1) hY (by omega) (by omega) (by omega) h0 h1
  have e3 := light_dt (n := (a : Int) * 23) (r := 0) hY (by omega) (by omega) (by omega) (by omega) (by omega)
  rw [lt_zero] at e3
  have i1 := lt_in (n := (a : Int) * 23) l01 h0
  have i2 := lt_near (n := (a : Int) * 23) l01 h0 (by omega) (by omega)
  refine ⟨_, ?_, some (.dat (dt Y ((a : Int) * 23))), some (.dat (dt Y ((a : Int) * 23 + 1))), some (.dat (.int (lt (lp Y) ((a : Int) * 23) r))), some (.dat (.int (lt (lp Y) ((a : Int) * 23 + 1) r))), rfl⟩
  have i3 : ¬ (4 * r / (365 + lp Y) + 1 < (if lt (lp Y) ((a : Int) * 23 + 1) r - lt (lp Y) ((a : Int) * 23) r < 0 then -(lt (lp Y) ((a : Int) * 23 + 1) r - lt (lp Y) ((a : Int) * 23) r) else lt (lp Y) ((a : Int) * 23 + 1) r - lt (lp Y) ((a : Int) * 23) r)) := by omega
  simp only [P2, eTurn, eTp, seqOf_tuple]
  simp [callP_2 e1, callP_2 e2, callP_2 e3, i1, mulI_l n4, divV_i p1 p2]
  rw [if_neg (by simpa using i3)]
  simp [callP_2 e3]
end
end L_k21

set_option maxHeartbeats 4000000
namespace L_k21
open PySem PySem.Spec PyProof.Rows L2 Sk
section
variable {st : Sto} {v0 v1 v4 v5 v6 v7 v8 v9 v10 v11 v12 v13 v14 : Option Va} {Y r : Int}
/-- a row of lights in the month M -/
theorem row_aux {G : Fn} {M : Int} {f : Int → Int} (hG : ∀ k, 20 ≤ k → k < 25 → G [.dat (dateD Y M k), .dat (.int r)] [] = .ok (.dat (.int (f k))) []) (k : Int) (h1 : 20 ≤ k) (h2 : k < 25) :
    Sk.compTurn (gN 14) dYes (dCallP G 2 (dCons (dTup (dCons (dVar 2) (dCons (dC (.int M)) (dCons (dVar 14) dNil)))) (dCons (dVar 3) dNil))) (.dat (.int k))
      [v0, v1, some (.dat (.int Y)), some (.dat (.int r)), v4, v5, v6, v7, v8, v9, v10, v11, v12, v13, none] st = .ok (some (.dat (.int (f k)))) st := by
  have e := hG k h1 h2
  unfold dateD at e
  simp [Sk.compTurn, mkT, allDat, callP_2 e]
theorem row_eq {G : Fn} {M : Int} {f : Int → Int} (hG : ∀ k, 20 ≤ k → k < 25 → G [.dat (dateD Y M k), .dat (.int r)] [] = .ok (.dat (.int (f k))) []) :
    dComp asF (dRange (dCons (dC (.int 20)) (dCons (dC (.int 25)) dNil))) [14] (gN 14) dYes (dCallP G 2 (dCons (dTup (dCons (dVar 2) (dCons (dC (.int M)) (dCons (dVar 14) dNil)))) (dCons (dVar 3) dNil)))
      [v0, v1, some (.dat (.int Y)), some (.dat (.int r)), v4, v5, v6, v7, v8, v9, v10, v11, v12, v13, v14] st = .ok (.dat (.list [.int (f 20), .int (f 21), .int (f 22), .int (f 23), .int (f 24)])) st := by
  have hr : rangeV [.dat (.int 20), .dat (.int 25)] st = .ok ([20, 21, 22, 23, 24].map fun k : Int => Va.dat (.int k), none) st := rfl
  have hc := compL_map (f := Sk.compTurn (gN 14) dYes (dCallP G 2 (dCons (dTup (dCons (dVar 2) (dCons (dC (.int M)) (dCons (dVar 14) dNil)))) (dCons (dVar 3) dNil)))) (h := fun k : Int => Va.dat (.int k)) (G := fun k => Va.dat (.int (f k)))
    (ev := [v0, v1, some (.dat (.int Y)), some (.dat (.int r)), v4, v5, v6, v7, v8, v9, v10, v11, v12, v13, none]) (st := st) (xs := [20, 21, 22, 23, 24]) fun k hk => row_aux hG k (by simp at hk; omega) (by simp at hk; omega)
  simp only [eComp, eRange, eCons, eC, eNil, Rs.bind_ok, hr, wipeE, List.set_cons_succ, List.set_cons_zero, hc]
  rfl
theorem days_eq (hY : 1 ≤ Y) (hY2 : Y ≤ 9998) (r5 : Int) (h5 : r5 / 23 = 15) :
    dComp asF (dRange (dCons (dBin divV (dVar 5) (dC (.int 23))) dNil)) [13] (gN 13) dYes (dTup (dCons (dCallP F_date_of 1 (dCons (dBin addV (dVar 4) (dBin mulI (dVar 13) (dC (.int 23)))) dNil)) (dCons (dCallP F_date_of 1 (dCons (dBin addV (dBin addV (dVar 4) (dBin mulI (dVar 13) (dC (.int 23)))) (dC (.int 1))) dNil)) dNil)))
      [v0, v1, some (.dat (.int Y)), some (.dat (.int r)), some (.dat (.int (ahead Y))), some (.dat (.int r5)), v6, v7, v8, v9, v10, v11, v12, v13, v14] st = .ok (.dat (.list ((List.range 15).map (P2 Y)))) st := by
  have hr : rangeV [.dat (.int 15)] st = .ok ((List.range 15).map fun i : Nat => Va.dat (.int (0 + (i : Int))), none) st := rfl
  have hc := compL_map (f := Sk.compTurn (gN 13) dYes (dTup (dCons (dCallP F_date_of 1 (dCons (dBin addV (dVar 4) (dBin mulI (dVar 13) (dC (.int 23)))) dNil)) (dCons (dCallP F_date_of 1 (dCons (dBin addV (dBin addV (dVar 4) (dBin mulI (dVar 13) (dC (.int 23)))) (dC (.int 1))) dNil)) dNil)))) (h := fun i : Nat => Va.dat (.int (0 + (i : Int)))) (G := fun a => Va.dat (P2 Y a))
    (ev := [v0, v1, some (.dat (.int Y)), some (.dat (.int r)), some (.dat (.int (ahead Y))), some (.dat (.int r5)), v6, v7, v8, v9, v10, v11, v12, none, v14]) (st := st) (xs := List.range 15) fun a ha => days_turn hY hY2 st _ _ _ _ _ _ _ _ _ _ _ _ _ a (by simpa using ha)
  have hd : divV (.dat (.int r5)) (.dat (.int 23)) st = .ok (.dat (.int 15)) st := by rw [divV_i (by omega) (by omega), h5]
  have hv : dVar 5 [v0, v1, some (.dat (.int Y)), some (.dat (.int r)), some (.dat (.int (ahead Y))), some (.dat (.int r5)), v6, v7, v8, v9, v10, v11, v12, v13, v14] st = .ok (.dat (.int r5)) st := rfl
  simp only [eComp, eRange, eCons, eC, eNil, eBin, Rs.bind_ok, hv, hd, hr, wipeE, List.set_cons_succ, List.set_cons_zero, hc, asF, mkL_fun, List.length_map, List.length_range]
  rfl
end
end L_k21

set_option maxHeartbeats 4000000
namespace L_k21
open PySem PySem.Spec PyProof.Rows L2 Sk
theorem law_true : ∀ ns : List Int, ns.length ≤ 63 → ∃ st, F_law [scriptV ns] [] = .ok (.dat (.bool true)) st := by
  intro ns _
  obtain ⟨D, hD, d1, d2, eR⟩ := rounds_eq ns (most := 1) (by omega) (by omega)
  have dl : D.length = 1 := by omega
  obtain ⟨o, rfl⟩ : ∃ o, D = [o] := by
    match D, dl with
    | [o], _ => exact ⟨o, rfl⟩
  obtain ⟨a, b, c, rfl⟩ := hD o (by simp)
  obtain ⟨r1, a1, b1, c1, p1, p2, e1⟩ := roll_eq (st := [some (diceO a b c)]) (n := 0) (a := a) (b := b) (c := c) (m := 9998) rfl (by omega) (by omega)
  obtain ⟨r, a2, b2, c2, q1, q2, e2⟩ := roll_eq (st := [some (diceO a1 b1 c1)]) (n := 0) (a := a1) (b := b1) (c := c1) (m := 701) rfl (by omega) (by omega)
  simp only [List.set_cons_zero] at e1 e2
  have hr : (List.range 1).map Va.ref = [.ref 0] := rfl
  simp only [List.length_cons, List.length_nil, Nat.zero_add, hr] at eR
  generalize hst : [some (diceO a2 b2 c2)] = st at e2
  generalize hst1 : [some (diceO a1 b1 c1)] = st1 at e1 e2
  generalize hst0 : [some (diceO a b c)] = st0 at e1 eR
  generalize scriptV ns = sv at eR ⊢
  have hA : dAsg (dTup (dCons (dBin addV (dC (.int 1)) (dCallO F__law_roll 2 (dCons (dVar 1) (dCons (dC (.int 9998)) dNil)))) (dCons (dCallO F__law_roll 2 (dCons (dVar 1) (dCons (dC (.int 701)) dNil))) dNil))) (gTp 2 (gsCons (gN 2) (gsCons (gN 3) gsNil)))
      [some sv, some (.ref 0), none, none, none, none, none, none, none, none, none, none, none, none, none] st0 = .ok (.nx [some sv, some (.ref 0), some (.dat (.int (1 + r1))), some (.dat (.int r)), none, none, none, none, none, none, none, none, none, none, none]) st := by
    simp [callO, e1, e2, mkT, allDat]
  have hY : 1 ≤ 1 + r1 := by omega
  have hY2 : 1 + r1 ≤ 9998 := by omega
  generalize 1 + r1 = Y at hY hY2 hA
  have l01 := lp_01 Y
  have h1 : r ≤ 700 := by omega
  have nE := number_eq hY (by omega)
  have lE := leap_eq Y
  have p3 : 0 < 365 + lp Y := by omega
  have p4 : 365 + lp Y < 1073741824 := by omega
  have n4 : near64 4 = true := by decide
  have hB : ∀ {st : Sto}, dAsg (dCallP F_number_of 1 (dCons (dTup (dCons (dVar 2) (dCons (dC (.int 1)) (dCons (dC (.int 1)) dNil)))) dNil)) (gN 4) [some sv, some (.ref 0), some (.dat (.int Y)), some (.dat (.int r)), none, none, none, none, none, none, none, none, none, none, none] st =
      .ok (.nx [some sv, some (.ref 0), some (.dat (.int Y)), some (.dat (.int r)), some (.dat (.int (ahead Y))), none, none, none, none, none, none, none, none, none, none]) st := by
    unfold dateD at nE
    generalize F_number_of = G at nE ⊢
    intro st
    simp [mkT, allDat, callP_1 nE]
  have hC : ∀ {st : Sto}, dAsg (dBin addV (dC (.int 365)) (dCallB intF (dCons (dCallP F_is_leap 1 (dCons (dVar 2) dNil)) dNil))) (gN 5) [some sv, some (.ref 0), some (.dat (.int Y)), some (.dat (.int r)), some (.dat (.int (ahead Y))), none, none, none, none, none, none, none, none, none, none] st =
      .ok (.nx [some sv, some (.ref 0), some (.dat (.int Y)), some (.dat (.int r)), some (.dat (.int (ahead Y))), some (.dat (.int (365 + lp Y))), none, none, none, none, none, none, none, none, none]) st := by
    generalize F_is_leap = G at lE ⊢
    intro st
    simp [callP_1 lE, lp_b]
  have h15 : (365 + lp Y) / 23 = 15 := by omega
  have hE := forS_map (b := dTurn (gTp 2 (gsCons (gN 7) (gsCons (gN 8) gsNil))) (dSeq (dPar 9 10 (dCons (dCallP F_light 2 (dCons (dVar 7) (dCons (dVar 3) dNil))) (dCons (dCallP F_light 2 (dCons (dVar 8) (dCons (dVar 3) dNil))) dNil)))
    (dSeq (dIfS (dOrT (dNotT (dTest (dChain leV leV (dBin subV (dC (.int 720)) (dVar 3)) (dVar 9) (dBin addV (dC (.int 720)) (dVar 3))))) (dTest (dBin gtV (dCallB absF (dCons (dBin subV (dVar 10) (dVar 9)) dNil)) (dBin addV (dBin divV (dBin mulI (dC (.int 4)) (dVar 3)) (dVar 5)) (dC (.int 1)))))) (dRet (dC (.bool false))) dSkip)
    (dIfS (dTest (dBin neV (dCallP F_light 2 (dCons (dVar 7) (dCons (dC (.int 0)) dNil))) (dC (.int 720)))) (dRet (dC (.bool false))) dSkip)))) (h := fun a : Nat => Va.dat (P2 Y a)) (Inv := Iv (some sv) (some (.ref 0)) Y r (some (.dat (.list ((List.range 15).map (P2 Y))))) none none none none) (st := st) (xs := List.range 15)
    (ev := [some sv, some (.ref 0), some (.dat (.int Y)), some (.dat (.int r)), some (.dat (.int (ahead Y))), some (.dat (.int (365 + lp Y))), some (.dat (.list ((List.range 15).map (P2 Y)))), none, none, none, none, none, none, none, none]) ⟨_, _, _, _, rfl⟩
    fun a ha ev hi => turn2 hY hY2 q1 h1 st _ _ _ _ _ _ _ a (by simpa using ha) ev hi
  obtain ⟨ev5, hE, ⟨z7, z8, z9, z10, rfl⟩⟩ := hE
  have hE2 : ∀ b : Va → Ev → Sto → Rs Fl, forS none b ((List.range 15).map fun a => Va.dat (P2 Y a)) = forS none b (((List.range 15).map (P2 Y)).map .dat) := fun b => by rw [List.map_map]; rfl
  rw [hE2] at hE
  have c12 : cum (lp Y) 12 = 334 + lp Y := rfl
  have c6 : cum (lp Y) 6 = 151 + lp Y := rfl
  have gL : ∀ k, 20 ≤ k → k < 25 → F_light [.dat (dateD Y 12 k), .dat (.int r)] [] = .ok (.dat (.int (lt (lp Y) (333 + lp Y + k) r))) [] := fun k k1 k2 => by
    have e := light_eq (r := r) (d := k) (m := 12) hY (by omega) (by omega) (by omega) (by omega) (by simp [lenM]; omega) q1 h1
    rw [c12, show 334 + lp Y + k - 1 = 333 + lp Y + k by omega] at e
    exact e
  have gH : ∀ k, 20 ≤ k → k < 25 → F_light [.dat (dateD Y 6 k), .dat (.int r)] [] = .ok (.dat (.int (lt (lp Y) (150 + lp Y + k) r))) [] := fun k k1 k2 => by
    have e := light_eq (r := r) (d := k) (m := 6) hY (by omega) (by omega) (by omega) (by omega) (by simp [lenM]; omega) q1 h1
    rw [c6, show 151 + lp Y + k - 1 = 150 + lp Y + k by omega] at e
    exact e
  have g22 := gL 22 (by omega) (by omega)
  have m1 := low_min (r := r) l01 q1
  have m2 := low_22 (r := r) l01
  have m3 := high_max (r := r) l01 q1
  rw [show 353 + lp Y = 333 + lp Y + 20 by omega, show 354 + lp Y = 333 + lp Y + 21 by omega, show 355 + lp Y = 333 + lp Y + 22 by omega, show 356 + lp Y = 333 + lp Y + 23 by omega, show 357 + lp Y = 333 + lp Y + 24 by omega] at m1
  rw [show 355 + lp Y = 333 + lp Y + 22 by omega] at m2
  rw [show 170 + lp Y = 150 + lp Y + 20 by omega, show 171 + lp Y = 150 + lp Y + 21 by omega, show 172 + lp Y = 150 + lp Y + 22 by omega, show 173 + lp Y = 150 + lp Y + 23 by omega, show 174 + lp Y = 150 + lp Y + 24 by omega] at m3
  have hmin : ∀ {st : Sto} {i j k l m : Int}, minF [.dat (.list [.int i, .int j, .int k, .int l, .int m])] st = .ok (.dat (.int (leastI [i, j, k, l, m]))) st := rfl
  have hmax : ∀ {st : Sto} {i j k l m : Int}, maxF [.dat (.list [.int i, .int j, .int k, .int l, .int m])] st = .ok (.dat (.int (mostI [i, j, k, l, m]))) st := rfl
  have hF := fun (v11 : Option Va) => row_eq (G := F_light) (M := 12) (f := fun k => lt (lp Y) (333 + lp Y + k) r) (v0 := some sv) (v1 := some (.ref 0)) (v4 := some (.dat (.int (ahead Y)))) (v5 := some (.dat (.int (365 + lp Y)))) (v6 := some (.dat (.list ((List.range 15).map (P2 Y))))) (v7 := z7) (v8 := z8) (v9 := z9) (v10 := z10) (v11 := v11) (v12 := none) (v13 := none) (v14 := none) (st := st) gL
  have hH := fun (v11 : Option Va) => row_eq (G := F_light) (M := 6) (f := fun k => lt (lp Y) (150 + lp Y + k) r) (v0 := some sv) (v1 := some (.ref 0)) (v4 := some (.dat (.int (ahead Y)))) (v5 := some (.dat (.int (365 + lp Y)))) (v6 := some (.dat (.list ((List.range 15).map (P2 Y))))) (v7 := z7) (v8 := z8) (v9 := z9) (v10 := z10) (v11 := v11) (v12 := none) (v13 := none) (v14 := none) (st := st) gH
  have hDy := days_eq (Y := Y) (r := r) (st := st) (v0 := some sv) (v1 := some (.ref 0)) (v6 := none) (v7 := none) (v8 := none) (v9 := none) (v10 := none) (v11 := none) (v12 := none) (v13 := none) (v14 := none) hY hY2 (365 + lp Y) h15
  unfold dateD at g22
  unfold F_law mkFn c_law
  generalize F_light = GL at *
  generalize F_date_of = GD at *
  generalize F_is_leap = GE at *
  generalize F_number_of = GN at *
  generalize P2 Y = p2 at *
  refine ⟨st, ?_⟩
  have hG : ∀ v4 v5 v6 v7 v8 v9 v10 v12 v13 v14 : Option Va, dIfS (dOrT (dTest (dBin neV (dCallB minF (dCons (dVar 11) dNil)) (dBin subV (dC (.int 720)) (dVar 3)))) (dTest (dBin neV (dCallP GL 2 (dCons (dTup (dCons (dVar 2) (dCons (dC (.int 12)) (dCons (dC (.int 22)) dNil)))) (dCons (dVar 3) dNil))) (dBin subV (dC (.int 720)) (dVar 3))))) (dRet (dC (.bool false))) dSkip
      [some sv, some (.ref 0), some (.dat (.int Y)), some (.dat (.int r)), v4, v5, v6, v7, v8, v9, v10, some (.dat (.list [.int (lt (lp Y) (333 + lp Y + 20) r), .int (lt (lp Y) (333 + lp Y + 21) r), .int (lt (lp Y) (333 + lp Y + 22) r), .int (lt (lp Y) (333 + lp Y + 23) r), .int (lt (lp Y) (333 + lp Y + 24) r)])), v12, v13, v14] st =
      .ok (.nx [some sv, some (.ref 0), some (.dat (.int Y)), some (.dat (.int r)), v4, v5, v6, v7, v8, v9, v10, some (.dat (.list [.int (lt (lp Y) (333 + lp Y + 20) r), .int (lt (lp Y) (333 + lp Y + 21) r), .int (lt (lp Y) (333 + lp Y + 22) r), .int (lt (lp Y) (333 + lp Y + 23) r), .int (lt (lp Y) (333 + lp Y + 24) r)])), v12, v13, v14]) st := by
    intro v4 v5 v6 v7 v8 v9 v10 v12 v13 v14
    generalize lt (lp Y) (333 + lp Y + 20) r = t0 at *
    generalize lt (lp Y) (333 + lp Y + 21) r = t1 at *
    generalize lt (lp Y) (333 + lp Y + 22) r = t2 at *
    generalize lt (lp Y) (333 + lp Y + 23) r = t3 at *
    generalize lt (lp Y) (333 + lp Y + 24) r = t4 at *
    subst m2
    simp [hmin, m1, mkT, allDat, callP_2 g22]
  have hJ : ∀ v4 v6 v7 v8 v9 v10 v11 v13 v14 : Option Va, dIfS (dTest (dBin ltV (dCallB maxF (dCons (dVar 12) dNil)) (dBin subV (dBin subV (dBin addV (dC (.int 720)) (dVar 3)) (dBin divV (dBin mulI (dC (.int 4)) (dVar 3)) (dVar 5))) (dC (.int 1))))) (dRet (dC (.bool false))) dSkip
      [some sv, some (.ref 0), some (.dat (.int Y)), some (.dat (.int r)), v4, some (.dat (.int (365 + lp Y))), v6, v7, v8, v9, v10, v11, some (.dat (.list [.int (lt (lp Y) (150 + lp Y + 20) r), .int (lt (lp Y) (150 + lp Y + 21) r), .int (lt (lp Y) (150 + lp Y + 22) r), .int (lt (lp Y) (150 + lp Y + 23) r), .int (lt (lp Y) (150 + lp Y + 24) r)])), v13, v14] st =
      .ok (.nx [some sv, some (.ref 0), some (.dat (.int Y)), some (.dat (.int r)), v4, some (.dat (.int (365 + lp Y))), v6, v7, v8, v9, v10, v11, some (.dat (.list [.int (lt (lp Y) (150 + lp Y + 20) r), .int (lt (lp Y) (150 + lp Y + 21) r), .int (lt (lp Y) (150 + lp Y + 22) r), .int (lt (lp Y) (150 + lp Y + 23) r), .int (lt (lp Y) (150 + lp Y + 24) r)])), v13, v14]) st := by
    intro v4 v6 v7 v8 v9 v10 v11 v13 v14
    generalize lt (lp Y) (150 + lp Y + 20) r = t0 at *
    generalize lt (lp Y) (150 + lp Y + 21) r = t1 at *
    generalize lt (lp Y) (150 + lp Y + 22) r = t2 at *
    generalize lt (lp Y) (150 + lp Y + 23) r = t3 at *
    generalize lt (lp Y) (150 + lp Y + 24) r = t4 at *
    simp [hmax, mulI_l n4, divV_i p3 p4, m3]
  have i0 : mkEv 15 [sv] = [some sv, none, none, none, none, none, none, none, none, none, none, none, none, none, none] := rfl
  have hI : ∀ {ds : List PyData}, itemsV (.dat (.list ds)) st = .ok (ds.map .dat, none) st := rfl
  rw [i0]
  have eR2 : callO F__law_rounds 2 [sv, .dat (.int 1)] [] = .ok (.seq false [.ref 0]) st0 := by simp only [callO]; exact eR
  have hI2 : itemsV (.seq false [.ref 0]) st0 = .ok ([.ref 0], none) st0 := rfl
  rw [eSeq, eFor, eIter, eCallO]
  simp only [eCons, eNil, eVar, eC, Rs.bind_ok, List.getElem?_cons_zero, eR2, hI2, forS, lkOk_none, if_true]
  rw [eTurn, eN]
  simp only [Rs.bind_ok, List.set_cons_succ, List.set_cons_zero]
  rw [eSeq, hA]
  simp only [Rs.bind_ok]
  rw [eSeq, hB]
  simp only [Rs.bind_ok]
  rw [eSeq, hC]
  simp only [Rs.bind_ok]
  rw [eSeq, eAsg, hDy]
  simp only [Rs.bind_ok, eN, List.set_cons_succ, List.set_cons_zero]
  rw [eSeq, eFor, eIter]
  simp only [eVar, Rs.bind_ok, List.getElem?_cons_succ, List.getElem?_cons_zero, hI, hE]
  rw [eSeq, eAsg, hF]
  simp only [Rs.bind_ok, eN, List.set_cons_succ, List.set_cons_zero]
  rw [eSeq, hG]
  simp only [Rs.bind_ok]
  rw [eSeq, eAsg, hH]
  simp only [Rs.bind_ok, eN, List.set_cons_succ, List.set_cons_zero]
  rw [hJ]
  rfl
end L_k21

set_option maxHeartbeats 4000000
namespace L_k21
open PySem PySem.Spec PyProof.Rows L2 Sk GxR
/-! ### the text by places -/
def top (i : Nat) : Stmt := PySem.Challenge.pw_skytable_k21_the_light_of_a_year.main.body.getD i (.Pass ⟨0, 0, 0, 0⟩)
abbrev s__law_dice : Stmt := top 18
abbrev s__law_rounds : Stmt := top 20
abbrev s__law_roll : Stmt := top 19
abbrev s_days_ahead : Stmt := top 12
abbrev s_is_whole : Stmt := top 4
abbrev s_is_leap : Stmt := top 8
abbrev s_month_length : Stmt := top 9
abbrev s_is_date : Stmt := top 10
abbrev s_check_date : Stmt := top 11
abbrev s_day_of_year : Stmt := top 13
abbrev s_number_of : Stmt := top 14
abbrev s_date_of : Stmt := top 15
abbrev s_light : Stmt := top 16
abbrev s_law : Stmt := top 21
/-! ### the top -/
structure Tops (K : PySem.W.Frag) (mg : Str → Option Value) where
  f__law_dice : Addr
  d__law_dice : FuncData
  F__law_dice : Fun K "_law_dice" "_law_dice" s__law_dice f__law_dice d__law_dice
  m__law_dice : mg "_law_dice" = some (.ref f__law_dice)
  b__law_dice : Binds K d__law_dice ["cell"] []
  f__law_rounds : Addr
  d__law_rounds : FuncData
  F__law_rounds : Fun K "_law_rounds" "_law_rounds" s__law_rounds f__law_rounds d__law_rounds
  m__law_rounds : mg "_law_rounds" = some (.ref f__law_rounds)
  b__law_rounds : Binds K d__law_rounds ["script", "most"] []
  f__law_roll : Addr
  d__law_roll : FuncData
  F__law_roll : Fun K "_law_roll" "_law_roll" s__law_roll f__law_roll d__law_roll
  m__law_roll : mg "_law_roll" = some (.ref f__law_roll)
  b__law_roll : Binds K d__law_roll ["dice", "many"] []
  f_days_ahead : Addr
  d_days_ahead : FuncData
  F_days_ahead : Fun K "days_ahead" "days_ahead" s_days_ahead f_days_ahead d_days_ahead
  m_days_ahead : mg "days_ahead" = some (.ref f_days_ahead)
  b_days_ahead : Binds K d_days_ahead ["year"] []
  f_is_whole : Addr
  d_is_whole : FuncData
  F_is_whole : Fun K "is_whole" "is_whole" s_is_whole f_is_whole d_is_whole
  m_is_whole : mg "is_whole" = some (.ref f_is_whole)
  b_is_whole : Binds K d_is_whole ["thing", "low", "high"] []
  f_is_leap : Addr
  d_is_leap : FuncData
  F_is_leap : Fun K "is_leap" "is_leap" s_is_leap f_is_leap d_is_leap
  m_is_leap : mg "is_leap" = some (.ref f_is_leap)
  b_is_leap : Binds K d_is_leap ["year"] []
  f_month_length : Addr
  d_month_length : FuncData
  F_month_length : Fun K "month_length" "month_length" s_month_length f_month_length d_month_length
  m_month_length : mg "month_length" = some (.ref f_month_length)
  b_month_length : Binds K d_month_length ["year", "month"] []
  f_is_date : Addr
  d_is_date : FuncData
  F_is_date : Fun K "is_date" "is_date" s_is_date f_is_date d_is_date
  m_is_date : mg "is_date" = some (.ref f_is_date)
  b_is_date : Binds K d_is_date ["thing"] []
  f_check_date : Addr
  d_check_date : FuncData
  F_check_date : Fun K "check_date" "check_date" s_check_date f_check_date d_check_date
  m_check_date : mg "check_date" = some (.ref f_check_date)
  b_check_date : Binds K d_check_date ["thing"] []
  f_day_of_year : Addr
  d_day_of_year : FuncData
  F_day_of_year : Fun K "day_of_year" "day_of_year" s_day_of_year f_day_of_year d_day_of_year
  m_day_of_year : mg "day_of_year" = some (.ref f_day_of_year)
  b_day_of_year : Binds K d_day_of_year ["date"] []
  o_day_of_year : Addr
  P_day_of_year : Addr
  c_day_of_year : d_day_of_year.code = .ref o_day_of_year
  f_number_of : Addr
  d_number_of : FuncData
  F_number_of : Fun K "number_of" "number_of" s_number_of f_number_of d_number_of
  m_number_of : mg "number_of" = some (.ref f_number_of)
  b_number_of : Binds K d_number_of ["date"] []
  f_date_of : Addr
  d_date_of : FuncData
  F_date_of : Fun K "date_of" "date_of" s_date_of f_date_of d_date_of
  m_date_of : mg "date_of" = some (.ref f_date_of)
  b_date_of : Binds K d_date_of ["number"] []
  f_light : Addr
  d_light : FuncData
  F_light : Fun K "light" "light" s_light f_light d_light
  m_light : mg "light" = some (.ref f_light)
  b_light : Binds K d_light ["date", "reach"] []
  f_law : Addr
  d_law : FuncData
  F_law : Fun K "law" "law" s_law f_law d_law
  m_law : mg "law" = some (.ref f_law)
  b_law : Binds K d_law ["script"] []
  n_abs : mg "abs" = none
  n_bool : mg "bool" = none
  n_int : mg "int" = none
  n_isinstance : mg "isinstance" = none
  n_len : mg "len" = none
  n_max : mg "max" = none
  n_min : mg "min" = none
  n_range : mg "range" = none
  n_sum : mg "sum" = none
  n_tuple : mg "tuple" = none
  t_LAST : Tok
  m_LAST : mg "LAST" = some (.int 9999 t_LAST)
  a_LONG : Addr
  m_LONG : mg "LONG" = some (.ref a_LONG)
  q_LONG : ∀ H, SqT K H a_LONG (k_LONG.map V.int)
/-- the tables of the defs that hold generator expressions -/
def tabs {K : PySem.W.Frag} {mg : Str → Option Value} (T : Tops K mg) : List (Addr × Addr) := [(T.o_day_of_year, T.P_day_of_year)]
def cfg {K : PySem.W.Frag} {mg : Str → Option Value} (T : Tops K mg) : Cfg := { K := K, T := (tabs T).map fun p => (p.2, none), cl := fun _ => none, ec := fun _ => none, ic := fun _ => none }
structure Tabs {K : PySem.W.Frag} {mg : Str → Option Value} (T : Tops K mg) (base : Heap) : Prop where
  t_day_of_year : TabB base mg T.o_day_of_year T.P_day_of_year
  p_day_of_year : (T.P_day_of_year, none) ∈ (cfg T).T
  q_day_of_year : ∀ q, (T.P_day_of_year, some q) ∉ (cfg T).T
/-! ### each def once -/
section
variable {P : Program} {w : World} {K : PySem.W.Frag} {mg : Str → Option Value} {base : Heap}
theorem S__law_dice : FnScope ["cell"] ["cell"] (defScope s__law_dice) := ⟨rfl, rfl, rfl, by decide +kernel, rfl, by decide +kernel, by decide +kernel⟩
theorem ok__law_dice (T : Tops K mg) (TB : Tabs T base) : FnOk P w K mg base (L2.CX P w) 1 T.f__law_dice T.d__law_dice ["cell"] (spF (cfg T) 1 F__law_dice) :=
  fn_okC (C := cfg T) (k := 0) (c := c__law_dice) T.F__law_dice S__law_dice rfl rfl fun cdv A outer s H E hcd hr =>
    (fss_cons (fs_if (ft_chain op_lt op_lt os_lt os_lt (fe_bin op_sub os_sub fe_int fe_int) (fv 0) fe_int) (fss_one (fs_ret (fe_lstM (fa_cons (fe_callB call_abs cs_abs rfl T.n_abs (by decide +kernel) (fa_cons (fv 0) fa_nil)) (fa_cons fe_int (fa_cons fe_int fa_nil)))))) fss_nil)
    (fss_one (fs_ret (fe_lstM (fa_cons (fv 0) (fa_cons (fe_bin op_addX os_add fe_int (fe_bin op_mod os_mod (fe_callTy call_int1 cs_int rfl T.n_int (by decide +kernel) (fa_cons (fv 0) fa_nil)) fe_int)) (fa_cons (fe_callTy call_int1 cs_int rfl T.n_int (by decide +kernel) (fa_cons (fe_cmp op_ge os_ge (fv 0) (fe_bin op_pow os_pow fe_int fe_int) (nomark _)) fa_nil)) fa_nil)))))))
theorem S__law_rounds : FnScope ["script", "most", "cells", "cell"] ["script", "most"] (defScope s__law_rounds) := ⟨rfl, rfl, rfl, by decide +kernel, rfl, by decide +kernel, by decide +kernel⟩
theorem ok__law_rounds (T : Tops K mg) (TB : Tabs T base) : FnOk P w K mg base (L2.CX P w) 2 T.f__law_rounds T.d__law_rounds ["script", "most"] (spF (cfg T) 2 F__law_rounds) :=
  fn_okC (C := cfg T) (k := 1) (c := c__law_rounds) T.F__law_rounds S__law_rounds rfl rfl fun cdv A outer s H E hcd hr =>
    (fss_cons (fs_set S__law_rounds.nd rfl (by first | exact Or.inl rfl | exact Or.inr rfl) (fe_slice rfl (fv 0) fo_none (fo_some (fv 1))))
    (fss_cons (fs_if (ft_cmp (op_eqX hr.units) os_eq (fv 2) (fe_lst fa_nil) (nomark _)) (fss_one (fs_set S__law_rounds.nd rfl (by first | exact Or.inl rfl | exact Or.inr rfl) (fe_lst (fa_cons fe_int fa_nil)))) fss_nil)
    (fss_one (fs_ret (fe_lc (own := [("cell", 3)]) mk_F rfl S__law_rounds.nd (fi_seq rfl (fv 2)) (blkOk_by (by show blkC ["script", "most", "cells", "cell"] (defScope s__law_rounds) _ _ = true; decide +kernel)) (ct_name (by decide)) (fun _ _ _ _ _ => (pg_name S__law_rounds.nd rfl (by first | exact Or.inl rfl | exact Or.inr rfl) (.inr rfl))) (fun _ _ _ _ _ => fts_nil) (fun _ _ _ _ _ => (fe_callO (ok__law_dice T TB) (hr.mono (by decide)) rfl T.m__law_dice T.F__law_dice.kp T.b__law_dice takes0 (fa_cons (fv 3) fa_nil))))))))
theorem S__law_roll : FnScope ["dice", "many", "found"] ["dice", "many"] (defScope s__law_roll) := ⟨rfl, rfl, rfl, by decide +kernel, rfl, by decide +kernel, by decide +kernel⟩
theorem ok__law_roll (T : Tops K mg) (TB : Tabs T base) : FnOk P w K mg base (L2.CX P w) 1 T.f__law_roll T.d__law_roll ["dice", "many"] (spF (cfg T) 2 F__law_roll) :=
  fn_okC (C := cfg T) (k := 0) (c := c__law_roll) T.F__law_roll S__law_roll rfl rfl fun cdv A outer s H E hcd hr =>
    (fss_cons (fs_if (PW.pt (fw_or (ft_cmp (op_eqX hr.units) os_eq (fe_ix (ix_x (hu_of hr)) os_ix (fv 0) fe_int (fun _ _ => rfl)) fe_int (nomark _)) (fw_or1 (PW.pt (fw_and (ft_cmp (op_eqX hr.units) os_eq (fe_ix (ix_x (hu_of hr)) os_ix (fv 0) fe_int (fun _ _ => rfl)) fe_int (nomark _)) (fw_and1 (ft_cmp op_gt os_gt (fe_ix (ix_x (hu_of hr)) os_ix (fv 0) fe_int (fun _ _ => rfl)) fe_int (nomark _)))))))) (fss_cons (fs_set S__law_roll.nd rfl (by first | exact Or.inl rfl | exact Or.inr rfl) (fe_bin op_mod os_mod (fe_callTy call_int1 cs_int rfl T.n_int (by decide +kernel) (fa_cons (fe_ix (ix_x (hu_of hr)) os_ix (fv 0) fe_int (fun _ _ => rfl)) fa_nil)) (fv 1)))
    (fss_cons (fs_asg (fe_bin op_fdiv os_div (fe_ix (ix_x (hu_of hr)) os_ix (fv 0) fe_int (fun _ _ => rfl)) (fv 1)) (fg_sub (hu_of hr) (fv 0) fe_int))
    (fss_one (fs_ret (fv 2))))) fss_nil)
    (fss_cons (fs_asg fe_int (fg_sub (hu_of hr) (fv 0) fe_int))
    (fss_cons (fs_asg (fe_bin op_mod os_mod (fe_callTy call_int1 cs_int rfl T.n_int (by decide +kernel) (fa_cons (fe_bin op_addX os_add (fe_bin op_addX os_add (fe_bin op_mul os_mulI (fe_ix (ix_x (hu_of hr)) os_ix (fv 0) fe_int (fun _ _ => rfl)) fe_int) (fe_bin op_mul os_mulI (fe_ix (ix_x (hu_of hr)) os_ix (fv 0) fe_int (fun _ _ => rfl)) fe_int)) fe_int) fa_nil)) fe_int) (fg_sub (hu_of hr) (fv 0) fe_int))
    (fss_cons (fs_asg (fe_bin op_addX os_add (fe_ix (ix_x (hu_of hr)) os_ix (fv 0) fe_int (fun _ _ => rfl)) fe_int) (fg_sub (hu_of hr) (fv 0) fe_int))
    (fss_one (fs_ret (fe_bin op_mod os_mod (fe_callTy call_int1 cs_int rfl T.n_int (by decide +kernel) (fa_cons (fe_bin op_addX os_add (fe_bin op_fdiv os_div (fe_ix (ix_x (hu_of hr)) os_ix (fv 0) fe_int (fun _ _ => rfl)) fe_int) (fe_ix (ix_x (hu_of hr)) os_ix (fv 0) fe_int (fun _ _ => rfl))) fa_nil)) (fv 1))))))))
theorem S_days_ahead : FnScope ["year", "past"] ["year"] (defScope s_days_ahead) := ⟨rfl, rfl, rfl, by decide +kernel, rfl, by decide +kernel, by decide +kernel⟩
theorem ok_days_ahead (T : Tops K mg) (TB : Tabs T base) : FnOk P w K mg base (L2.CX P w) 1 T.f_days_ahead T.d_days_ahead ["year"] (spF (cfg T) 1 F_days_ahead) :=
  fn_okC (C := cfg T) (k := 0) (c := c_days_ahead) T.F_days_ahead S_days_ahead rfl rfl fun cdv A outer s H E hcd hr =>
    (fss_cons (fs_set S_days_ahead.nd rfl (by first | exact Or.inl rfl | exact Or.inr rfl) (fe_bin op_sub os_sub (fv 0) fe_int))
    (fss_one (fs_ret (fe_bin op_addX os_add (fe_bin op_sub os_sub (fe_bin op_addX os_add (fe_bin op_mul os_mulI fe_int (fv 1)) (fe_bin op_fdiv os_div (fv 1) fe_int)) (fe_bin op_fdiv os_div (fv 1) fe_int)) (fe_bin op_fdiv os_div (fv 1) fe_int)))))
theorem S_is_whole : FnScope ["thing", "low", "high"] ["thing", "low", "high"] (defScope s_is_whole) := ⟨rfl, rfl, rfl, by decide +kernel, rfl, by decide +kernel, by decide +kernel⟩
theorem ok_is_whole (T : Tops K mg) (TB : Tabs T base) : FnOk P w K mg base (L2.CX P w) 1 T.f_is_whole T.d_is_whole ["thing", "low", "high"] (spF (cfg T) 3 F_is_whole) :=
  fn_okC (C := cfg T) (k := 0) (c := c_is_whole) T.F_is_whole S_is_whole rfl rfl fun cdv A outer s H E hcd hr =>
    (fss_one (fs_ret (fe_and (fe_isi (by decide +kernel) rfl (fv 0) rfl T.n_isinstance rfl T.n_int (by decide +kernel)) (fe_and (fe_not (fe_isi (by decide +kernel) rfl (fv 0) rfl T.n_isinstance rfl T.n_bool (by decide +kernel))) (fe_one (fe_chain op_le op_le os_le os_le (fv 1) (fv 0) (fv 2)))))))
theorem S_is_leap : FnScope ["year"] ["year"] (defScope s_is_leap) := ⟨rfl, rfl, rfl, by decide +kernel, rfl, by decide +kernel, by decide +kernel⟩
theorem ok_is_leap (T : Tops K mg) (TB : Tabs T base) : FnOk P w K mg base (L2.CX P w) 1 T.f_is_leap T.d_is_leap ["year"] (spF (cfg T) 1 F_is_leap) :=
  fn_okC (C := cfg T) (k := 0) (c := c_is_leap) T.F_is_leap S_is_leap rfl rfl fun cdv A outer s H E hcd hr =>
    (fss_one (fs_ret (fe_and (fe_cmp (op_eqX hr.units) os_eq (fe_bin op_mod os_mod (fv 0) fe_int) fe_int (nomark _)) (fe_one (fe_or (fe_cmp (op_neX hr.units) os_ne (fe_bin op_mod os_mod (fv 0) fe_int) fe_int (nomark _)) (fe_one (fe_cmp (op_eqX hr.units) os_eq (fe_bin op_mod os_mod (fv 0) fe_int) fe_int (nomark _))))))))
theorem S_month_length : FnScope ["year", "month"] ["year", "month"] (defScope s_month_length) := ⟨rfl, rfl, rfl, by decide +kernel, rfl, by decide +kernel, by decide +kernel⟩
theorem ok_month_length (T : Tops K mg) (TB : Tabs T base) : FnOk P w K mg base (L2.CX P w) 2 T.f_month_length T.d_month_length ["year", "month"] (spF (cfg T) 2 F_month_length) :=
  fn_okC (C := cfg T) (k := 1) (c := c_month_length) T.F_month_length S_month_length rfl rfl fun cdv A outer s H E hcd hr =>
    (fss_one (fs_ret (fe_bin op_addX os_add (fe_ix (ix_x (hu_of hr)) os_ix (fe_gtup rfl T.m_LONG (fun H => T.q_LONG H) fun H M m => rvs_ints k_LONG) (fe_bin op_sub os_sub (fv 1) fe_int) (fun _ _ => rfl)) (fe_callTy call_int1 cs_int rfl T.n_int (by decide +kernel) (fa_cons (fe_and (fe_cmp (op_eqX hr.units) os_eq (fv 1) fe_int (nomark _)) (fe_one (fe_callP (ok_is_leap T TB) (hr.mono (by decide)) rfl T.m_is_leap T.F_is_leap.kp T.b_is_leap (takes_of rfl rfl rfl rfl) (fa_cons (fv 0) fa_nil)))) fa_nil)))))
theorem S_is_date : FnScope ["thing"] ["thing"] (defScope s_is_date) := ⟨rfl, rfl, rfl, by decide +kernel, rfl, by decide +kernel, by decide +kernel⟩
theorem ok_is_date (T : Tops K mg) (TB : Tabs T base) : FnOk P w K mg base (L2.CX P w) 3 T.f_is_date T.d_is_date ["thing"] (spF (cfg T) 1 F_is_date) :=
  fn_okC (C := cfg T) (k := 2) (c := c_is_date) T.F_is_date S_is_date rfl rfl fun cdv A outer s H E hcd hr =>
    (fss_cons (fs_if (PW.pt (fw_or (ft_not (ft_val (fe_isi (by decide +kernel) rfl (fv 0) rfl T.n_isinstance rfl T.n_tuple (by decide +kernel)))) (fw_or1 (ft_cmp (op_neX hr.units) os_ne (fe_callB call_lenX cs_len rfl T.n_len (by decide +kernel) (fa_cons (fv 0) fa_nil)) fe_int (nomark _))))) (fss_one (fs_ret fe_bl)) fss_nil)
    (fss_cons (fs_if (PW.pt (fw_or (ft_not (ft_val (fe_callP (ok_is_whole T TB) (hr.mono (by decide)) rfl T.m_is_whole T.F_is_whole.kp T.b_is_whole (takes_of rfl rfl rfl rfl) (fa_cons (fe_ix (ix_x (hu_of hr)) os_ix (fv 0) fe_int (fun _ _ => rfl)) (fa_cons fe_int (fa_cons (fe_gint rfl T.m_LAST) fa_nil)))))) (fw_or1 (ft_not (ft_val (fe_callP (ok_is_whole T TB) (hr.mono (by decide)) rfl T.m_is_whole T.F_is_whole.kp T.b_is_whole (takes_of rfl rfl rfl rfl) (fa_cons (fe_ix (ix_x (hu_of hr)) os_ix (fv 0) fe_int (fun _ _ => rfl)) (fa_cons fe_int (fa_cons fe_int fa_nil))))))))) (fss_one (fs_ret fe_bl)) fss_nil)
    (fss_one (fs_ret (fe_callP (ok_is_whole T TB) (hr.mono (by decide)) rfl T.m_is_whole T.F_is_whole.kp T.b_is_whole (takes_of rfl rfl rfl rfl) (fa_cons (fe_ix (ix_x (hu_of hr)) os_ix (fv 0) fe_int (fun _ _ => rfl)) (fa_cons fe_int (fa_cons (fe_callP (ok_month_length T TB) (hr.mono (by decide)) rfl T.m_month_length T.F_month_length.kp T.b_month_length (takes_of rfl rfl rfl rfl) (fa_cons (fe_ix (ix_x (hu_of hr)) os_ix (fv 0) fe_int (fun _ _ => rfl)) (fa_cons (fe_ix (ix_x (hu_of hr)) os_ix (fv 0) fe_int (fun _ _ => rfl)) fa_nil))) fa_nil))))))))
theorem S_check_date : FnScope ["thing"] ["thing"] (defScope s_check_date) := ⟨rfl, rfl, rfl, by decide +kernel, rfl, by decide +kernel, by decide +kernel⟩
theorem ok_check_date (T : Tops K mg) (TB : Tabs T base) : FnOk P w K mg base (L2.CX P w) 4 T.f_check_date T.d_check_date ["thing"] (spF (cfg T) 1 F_check_date) :=
  fn_okC (C := cfg T) (k := 3) (c := c_check_date) T.F_check_date S_check_date rfl rfl fun cdv A outer s H E hcd hr =>
    (fss_one (fs_if (ft_not (ft_val (fe_callP (ok_is_date T TB) (hr.mono (by decide)) rfl T.m_is_date T.F_is_date.kp T.b_is_date (takes_of rfl rfl rfl rfl) (fa_cons (fv 0) fa_nil)))) (fss_one fs_bad) fss_nil))
theorem S_day_of_year : FnScope ["date", "month"] ["date"] (defScope s_day_of_year) := ⟨rfl, rfl, rfl, by decide +kernel, rfl, by decide +kernel, by decide +kernel⟩
theorem ok_day_of_year (T : Tops K mg) (TB : Tabs T base) : FnOk P w K mg base (L2.CX P w) 5 T.f_day_of_year T.d_day_of_year ["date"] (spF (cfg T) 1 F_day_of_year) :=
  fn_okC (C := cfg T) (k := 4) (c := c_day_of_year) T.F_day_of_year S_day_of_year rfl rfl fun cdv A outer s H E hcd hr =>
    (fss_cons (fs_expr (fe_callP (ok_check_date T TB) (hr.mono (by decide)) rfl T.m_check_date T.F_check_date.kp T.b_check_date (takes_of rfl rfl rfl rfl) (fa_cons (fv 0) fa_nil)))
    (fss_one (fs_ret (fe_bin op_addX os_add (fe_sumG (own := [1]) (TB.p_day_of_year) (TB.q_day_of_year) (ct_name (by decide)) hr rfl TB.t_day_of_year (hcd.symm.trans T.c_day_of_year) (gsc_by (by show genC ["date", "month"] (defScope s_day_of_year) _ _ = true; decide +kernel)) (fi_range2 rfl T.n_range (fa_cons fe_int (fa_cons (fe_ix (ix_x (hu_of hr)) os_ix (fv 0) fe_int (fun _ _ => rfl)) fa_nil)) (h1 := (len_cons (len_cons len_nil)))) (fun _ _ _ _ _ => (pg_name S_day_of_year.nd rfl (by first | exact Or.inl rfl | exact Or.inr rfl) (.inr rfl))) (fun _ _ _ _ _ => (fe_callP (ok_month_length T TB) ((room_gen (k := 3) (hr.mono (by decide))).mono (by decide)) rfl T.m_month_length T.F_month_length.kp T.b_month_length takes0 (fa_cons (fe_ix (ix_x (hu_of (room_gen (k := 3) (hr.mono (by decide))))) os_ix (fv 0) fe_int (fun _ _ => rfl)) (fa_cons (fv 1) fa_nil)))) rfl T.n_sum) (fe_ix (ix_x (hu_of hr)) os_ix (fv 0) fe_int (fun _ _ => rfl))))))
theorem S_number_of : FnScope ["date"] ["date"] (defScope s_number_of) := ⟨rfl, rfl, rfl, by decide +kernel, rfl, by decide +kernel, by decide +kernel⟩
theorem ok_number_of (T : Tops K mg) (TB : Tabs T base) : FnOk P w K mg base (L2.CX P w) 6 T.f_number_of T.d_number_of ["date"] (spF (cfg T) 1 F_number_of) :=
  fn_okC (C := cfg T) (k := 5) (c := c_number_of) T.F_number_of S_number_of rfl rfl fun cdv A outer s H E hcd hr =>
    (fss_one (fs_ret (fe_bin op_sub os_sub (fe_bin op_addX os_add (fe_callP (ok_days_ahead T TB) (hr.mono (by decide)) rfl T.m_days_ahead T.F_days_ahead.kp T.b_days_ahead (takes_of rfl rfl rfl rfl) (fa_cons (fe_ix (ix_x (hu_of hr)) os_ix (fv 0) fe_int (fun _ _ => rfl)) fa_nil)) (fe_callP (ok_day_of_year T TB) (hr.mono (by decide)) rfl T.m_day_of_year T.F_day_of_year.kp T.b_day_of_year (takes_of rfl rfl rfl rfl) (fa_cons (fv 0) fa_nil))) fe_int)))
theorem S_date_of : FnScope ["number", "year", "left", "month"] ["number"] (defScope s_date_of) := ⟨rfl, rfl, rfl, by decide +kernel, rfl, by decide +kernel, by decide +kernel⟩
theorem ok_date_of (T : Tops K mg) (TB : Tabs T base) : FnOk P w K mg base (L2.CX P w) 3 T.f_date_of T.d_date_of ["number"] (spF (cfg T) 1 F_date_of) :=
  fn_okC (C := cfg T) (k := 2) (c := c_date_of) T.F_date_of S_date_of rfl rfl fun cdv A outer s H E hcd hr =>
    (fss_cons (fs_if (ft_not (ft_val (fe_callP (ok_is_whole T TB) (hr.mono (by decide)) rfl T.m_is_whole T.F_is_whole.kp T.b_is_whole (takes_of rfl rfl rfl rfl) (fa_cons (fv 0) (fa_cons fe_int (fa_cons (fe_bin op_sub os_sub (fe_callP (ok_days_ahead T TB) (hr.mono (by decide)) rfl T.m_days_ahead T.F_days_ahead.kp T.b_days_ahead (takes_of rfl rfl rfl rfl) (fa_cons (fe_bin op_addX os_add (fe_gint rfl T.m_LAST) fe_int) fa_nil)) fe_int) fa_nil)))))) (fss_one fs_bad) fss_nil)
    (fss_cons (fs_set S_date_of.nd rfl (by first | exact Or.inl rfl | exact Or.inr rfl) (fe_bin op_addX os_add (fe_bin op_fdiv os_div (fv 0) fe_int) fe_int))
    (fss_cons (fs_while fuel (passes_of rfl) (ft_cmp op_le os_le (fe_callP (ok_days_ahead T TB) (hr.mono (by decide)) rfl T.m_days_ahead T.F_days_ahead.kp T.b_days_ahead (takes_of rfl rfl rfl rfl) (fa_cons (fe_bin op_addX os_add (fv 1) fe_int) fa_nil)) (fv 0) (nomark _)) (fss_one (fs_aug S_date_of.nd rfl (by first | exact Or.inl rfl | exact Or.inr rfl) fe_int iop_add os_addI)))
    (fss_cons (fs_par rfl S_date_of.nd rfl rfl (by decide) rfl rfl (fa_cons (fe_bin op_sub os_sub (fv 0) (fe_callP (ok_days_ahead T TB) (hr.mono (by decide)) rfl T.m_days_ahead T.F_days_ahead.kp T.b_days_ahead (takes_of rfl rfl rfl rfl) (fa_cons (fv 1) fa_nil))) (fa_cons fe_int fa_nil)) rfl)
    (fss_cons (fs_while fuel (passes_of rfl) (ft_cmp op_ge os_ge (fv 2) (fe_callP (ok_month_length T TB) (hr.mono (by decide)) rfl T.m_month_length T.F_month_length.kp T.b_month_length (takes_of rfl rfl rfl rfl) (fa_cons (fv 1) (fa_cons (fv 3) fa_nil))) (nomark _)) (fss_cons (fs_aug S_date_of.nd rfl (by first | exact Or.inl rfl | exact Or.inr rfl) (fe_callP (ok_month_length T TB) (hr.mono (by decide)) rfl T.m_month_length T.F_month_length.kp T.b_month_length (takes_of rfl rfl rfl rfl) (fa_cons (fv 1) (fa_cons (fv 3) fa_nil))) iop_sub os_sub)
    (fss_one (fs_aug S_date_of.nd rfl (by first | exact Or.inl rfl | exact Or.inr rfl) fe_int iop_add os_addI))))
    (fss_one (fs_ret (fe_tup (fa_cons (fv 1) (fa_cons (fv 3) (fa_cons (fe_bin op_addX os_add (fv 2) fe_int) fa_nil)))))))))))
theorem S_light : FnScope ["date", "reach", "day", "length", "shifted", "rise"] ["date", "reach"] (defScope s_light) := ⟨rfl, rfl, rfl, by decide +kernel, rfl, by decide +kernel, by decide +kernel⟩
theorem ok_light (T : Tops K mg) (TB : Tabs T base) : FnOk P w K mg base (L2.CX P w) 6 T.f_light T.d_light ["date", "reach"] (spF (cfg T) 2 F_light) :=
  fn_okC (C := cfg T) (k := 5) (c := c_light) T.F_light S_light rfl rfl fun cdv A outer s H E hcd hr =>
    (fss_cons (fs_par rfl S_light.nd rfl rfl (by decide) rfl rfl (fa_cons (fe_bin op_sub os_sub (fe_callP (ok_day_of_year T TB) (hr.mono (by decide)) rfl T.m_day_of_year T.F_day_of_year.kp T.b_day_of_year (takes_of rfl rfl rfl rfl) (fa_cons (fv 0) fa_nil)) fe_int) (fa_cons (fe_bin op_addX os_add fe_int (fe_callTy call_int1 cs_int rfl T.n_int (by decide +kernel) (fa_cons (fe_callP (ok_is_leap T TB) (hr.mono (by decide)) rfl T.m_is_leap T.F_is_leap.kp T.b_is_leap (takes_of rfl rfl rfl rfl) (fa_cons (fe_ix (ix_x (hu_of hr)) os_ix (fv 0) fe_int (fun _ _ => rfl)) fa_nil)) fa_nil))) fa_nil)) rfl)
    (fss_cons (fs_set S_light.nd rfl (by first | exact Or.inl rfl | exact Or.inr rfl) (fe_bin op_mod os_mod (fe_bin op_addX os_add (fv 2) fe_int) (fv 3)))
    (fss_cons (fs_set S_light.nd rfl (by first | exact Or.inl rfl | exact Or.inr rfl) (fe_if (ft_cmp op_le os_le (fe_bin op_mul os_mulI fe_int (fv 4)) (fv 3) (nomark _)) (fv 4) (fe_bin op_sub os_sub (fv 3) (fv 4))))
    (fss_one (fs_ret (fe_bin op_addX os_add (fe_bin op_sub os_sub fe_int (fv 1)) (fe_bin op_fdiv os_div (fe_bin op_mul os_mulI (fe_bin op_mul os_mulI fe_int (fv 1)) (fv 5)) (fv 3))))))))
theorem S_law : FnScope ["script", "dice", "year", "reach", "first", "many", "days", "date", "after", "here", "there", "low", "high", "k", "day"] ["script"] (defScope s_law) := ⟨rfl, rfl, rfl, by decide +kernel, rfl, by decide +kernel, by decide +kernel⟩
theorem ok_law (T : Tops K mg) (TB : Tabs T base) : FnOk P w K mg base (L2.CX P w) 7 T.f_law T.d_law ["script"] (spF (cfg T) 1 F_law) :=
  fn_okC (C := cfg T) (k := 6) (c := c_law) T.F_law S_law rfl rfl fun cdv A outer s H E hcd hr =>
    (fss_cons (fs_for flatE0 (passes_of rfl) rfl (fi_seq rfl (fe_callO (ok__law_rounds T TB) (hr.mono (by decide)) rfl T.m__law_rounds T.F__law_rounds.kp T.b__law_rounds (takes_of rfl rfl rfl rfl) (fa_cons (fv 0) (fa_cons fe_int fa_nil)))) (fg_name S_law.nd rfl (by first | exact Or.inl rfl | exact Or.inr rfl)) (fss_cons (fs_asg (fe_tup (fa_cons (fe_bin op_addX os_add fe_int (fe_callO (ok__law_roll T TB) (hr.mono (by decide)) rfl T.m__law_roll T.F__law_roll.kp T.b__law_roll (takes_of rfl rfl rfl rfl) (fa_cons (fv 1) (fa_cons fe_int fa_nil)))) (fa_cons (fe_callO (ok__law_roll T TB) (hr.mono (by decide)) rfl T.m__law_roll T.F__law_roll.kp T.b__law_roll (takes_of rfl rfl rfl rfl) (fa_cons (fv 1) (fa_cons fe_int fa_nil))) fa_nil))) (fg_tup rfl rfl (fgs_cons flatE0 (fg_name S_law.nd rfl (by first | exact Or.inl rfl | exact Or.inr rfl)) (fgs_cons flatE0 (fg_name S_law.nd rfl (by first | exact Or.inl rfl | exact Or.inr rfl)) fgs_nil))))
    (fss_cons (fs_set S_law.nd rfl (by first | exact Or.inl rfl | exact Or.inr rfl) (fe_callP (ok_number_of T TB) (hr.mono (by decide)) rfl T.m_number_of T.F_number_of.kp T.b_number_of (takes_of rfl rfl rfl rfl) (fa_cons (fe_tup (fa_cons (fv 2) (fa_cons fe_int (fa_cons fe_int fa_nil)))) fa_nil)))
    (fss_cons (fs_set S_law.nd rfl (by first | exact Or.inl rfl | exact Or.inr rfl) (fe_bin op_addX os_add fe_int (fe_callTy call_int1 cs_int rfl T.n_int (by decide +kernel) (fa_cons (fe_callP (ok_is_leap T TB) (hr.mono (by decide)) rfl T.m_is_leap T.F_is_leap.kp T.b_is_leap (takes_of rfl rfl rfl rfl) (fa_cons (fv 2) fa_nil)) fa_nil))))
    (fss_cons (fs_setLc (own := [("k", 13)]) mk_F rfl S_law.nd rfl rfl (sw_true rfl rfl rfl (by decide +kernel)) (fi_range1 rfl T.n_range (fa_cons (fe_bin op_fdiv os_div (fv 5) fe_int) fa_nil) (h1 := (len_cons len_nil))) (blkOk_by (by show blkC ["script", "dice", "year", "reach", "first", "many", "days", "date", "after", "here", "there", "low", "high", "k", "day"] (defScope s_law) _ _ = true; decide +kernel)) (ct_name (by decide)) (fun _ _ _ _ _ => (pg_name S_law.nd rfl (by first | exact Or.inl rfl | exact Or.inr rfl) (.inr rfl))) (fun _ _ _ _ _ => fts_nil) (fun _ _ _ _ _ => (fe_tup (fa_cons (fe_callP (ok_date_of T TB) (hr.mono (by decide)) rfl T.m_date_of T.F_date_of.kp T.b_date_of takes0 (fa_cons (fe_bin op_addX os_add (fv 4) (fe_bin op_mul os_mulI (fv 13) fe_int)) fa_nil)) (fa_cons (fe_callP (ok_date_of T TB) (hr.mono (by decide)) rfl T.m_date_of T.F_date_of.kp T.b_date_of takes0 (fa_cons (fe_bin op_addX os_add (fe_bin op_addX os_add (fv 4) (fe_bin op_mul os_mulI (fv 13) fe_int)) fe_int) fa_nil)) fa_nil)))))
    (fss_cons (fs_for flatE0 (passes_of rfl) rfl (fi_seq rfl (fv 6)) (fg_tup rfl rfl (fgs_cons flatE0 (fg_name S_law.nd rfl (by first | exact Or.inl rfl | exact Or.inr rfl)) (fgs_cons flatE0 (fg_name S_law.nd rfl (by first | exact Or.inl rfl | exact Or.inr rfl)) fgs_nil))) (fss_cons (fs_par rfl S_law.nd rfl rfl (by decide) rfl rfl (fa_cons (fe_callP (ok_light T TB) (hr.mono (by decide)) rfl T.m_light T.F_light.kp T.b_light (takes_of rfl rfl rfl rfl) (fa_cons (fv 7) (fa_cons (fv 3) fa_nil))) (fa_cons (fe_callP (ok_light T TB) (hr.mono (by decide)) rfl T.m_light T.F_light.kp T.b_light (takes_of rfl rfl rfl rfl) (fa_cons (fv 8) (fa_cons (fv 3) fa_nil))) fa_nil)) rfl)
    (fss_cons (fs_if (PW.pt (fw_or (ft_not (ft_chain op_le op_le os_le os_le (fe_bin op_sub os_sub fe_int (fv 3)) (fv 9) (fe_bin op_addX os_add fe_int (fv 3)))) (fw_or1 (ft_cmp op_gt os_gt (fe_callB call_abs cs_abs rfl T.n_abs (by decide +kernel) (fa_cons (fe_bin op_sub os_sub (fv 10) (fv 9)) fa_nil)) (fe_bin op_addX os_add (fe_bin op_fdiv os_div (fe_bin op_mul os_mulI fe_int (fv 3)) (fv 5)) fe_int) (nomark _))))) (fss_one (fs_ret fe_bl)) fss_nil)
    (fss_one (fs_if (ft_cmp (op_neX hr.units) os_ne (fe_callP (ok_light T TB) (hr.mono (by decide)) rfl T.m_light T.F_light.kp T.b_light (takes_of rfl rfl rfl rfl) (fa_cons (fv 7) (fa_cons fe_int fa_nil))) fe_int (nomark _)) (fss_one (fs_ret fe_bl)) fss_nil)))))
    (fss_cons (fs_setLc (own := [("day", 14)]) mk_F rfl S_law.nd rfl rfl (sw_true rfl rfl rfl (by decide +kernel)) (fi_range2 rfl T.n_range (fa_cons fe_int (fa_cons fe_int fa_nil)) (h1 := (len_cons (len_cons len_nil)))) (blkOk_by (by show blkC ["script", "dice", "year", "reach", "first", "many", "days", "date", "after", "here", "there", "low", "high", "k", "day"] (defScope s_law) _ _ = true; decide +kernel)) (ct_name (by decide)) (fun _ _ _ _ _ => (pg_name S_law.nd rfl (by first | exact Or.inl rfl | exact Or.inr rfl) (.inr rfl))) (fun _ _ _ _ _ => fts_nil) (fun _ _ _ _ _ => (fe_callP (ok_light T TB) (hr.mono (by decide)) rfl T.m_light T.F_light.kp T.b_light takes0 (fa_cons (fe_tup (fa_cons (fv 2) (fa_cons fe_int (fa_cons (fv 14) fa_nil)))) (fa_cons (fv 3) fa_nil)))))
    (fss_cons (fs_if (PW.pt (fw_or (ft_cmp (op_neX hr.units) os_ne (fe_callB (call_minX rfl) cs_min rfl T.n_min (by decide +kernel) (fa_cons (fv 11) fa_nil)) (fe_bin op_sub os_sub fe_int (fv 3)) (nomark _)) (fw_or1 (ft_cmp (op_neX hr.units) os_ne (fe_callP (ok_light T TB) (hr.mono (by decide)) rfl T.m_light T.F_light.kp T.b_light (takes_of rfl rfl rfl rfl) (fa_cons (fe_tup (fa_cons (fv 2) (fa_cons fe_int (fa_cons fe_int fa_nil)))) (fa_cons (fv 3) fa_nil))) (fe_bin op_sub os_sub fe_int (fv 3)) (nomark _))))) (fss_one (fs_ret fe_bl)) fss_nil)
    (fss_cons (fs_setLc (own := [("day", 14)]) mk_F rfl S_law.nd rfl rfl (sw_true rfl rfl rfl (by decide +kernel)) (fi_range2 rfl T.n_range (fa_cons fe_int (fa_cons fe_int fa_nil)) (h1 := (len_cons (len_cons len_nil)))) (blkOk_by (by show blkC ["script", "dice", "year", "reach", "first", "many", "days", "date", "after", "here", "there", "low", "high", "k", "day"] (defScope s_law) _ _ = true; decide +kernel)) (ct_name (by decide)) (fun _ _ _ _ _ => (pg_name S_law.nd rfl (by first | exact Or.inl rfl | exact Or.inr rfl) (.inr rfl))) (fun _ _ _ _ _ => fts_nil) (fun _ _ _ _ _ => (fe_callP (ok_light T TB) (hr.mono (by decide)) rfl T.m_light T.F_light.kp T.b_light takes0 (fa_cons (fe_tup (fa_cons (fv 2) (fa_cons fe_int (fa_cons (fv 14) fa_nil)))) (fa_cons (fv 3) fa_nil)))))
    (fss_one (fs_if (ft_cmp op_lt os_lt (fe_callB (call_maxX rfl) cs_max rfl T.n_max (by decide +kernel) (fa_cons (fv 12) fa_nil)) (fe_bin op_sub os_sub (fe_bin op_sub os_sub (fe_bin op_addX os_add fe_int (fv 3)) (fe_bin op_fdiv os_div (fe_bin op_mul os_mulI fe_int (fv 3)) (fv 5))) fe_int) (nomark _)) (fss_one (fs_ret fe_bl)) fss_nil)))))))))))
    (fss_one (fs_ret fe_bl)))
end
theorem all_mk {l : PySem.W.OpenLaw} {w : World} {K : PySem.W.Frag} {q : Program} {h : Heap} {mg : Str → Option Value} {fa : Addr} (n : Nat) (X : K.In h) (G : h.Ns mainGlobals mg) (hfa : mg "law" = some (.ref fa)) (TA : TabsOf q K h)
    (hlaw : ∀ ns : List Int, ns.length ≤ n → ∃ st, F_law [scriptV ns] [] = .ok (.dat (.bool true)) st)
    {f1 : Addr} {od1 an1 : Option Addr} {sl1 : Array (Option Value)} {oc1 kV1 dc1 pm1 ct1 : Value} {cd1 : Value}
    (a1 : PySem.W.nsIn K mainGlobals "_law_dice" = some (some (.ref f1))) (l1 : K.lookup f1 = some ⟨oc1, od1, .func (PySem.W.fnOf "_law_dice" "_law_dice" (defArgs s__law_dice) (defBody s__law_dice) (defScope s__law_dice) .none kV1 dc1 pm1 an1 cd1 ct1), sl1⟩) (e1 : PySem.W.codeIn K cd1 "_law_dice" = true) (k1 : PySem.W.keepIn K (.ref f1) = true)
    {f2 : Addr} {od2 an2 : Option Addr} {sl2 : Array (Option Value)} {oc2 kV2 dc2 pm2 ct2 : Value} {cd2 : Value}
    (a2 : PySem.W.nsIn K mainGlobals "_law_rounds" = some (some (.ref f2))) (l2 : K.lookup f2 = some ⟨oc2, od2, .func (PySem.W.fnOf "_law_rounds" "_law_rounds" (defArgs s__law_rounds) (defBody s__law_rounds) (defScope s__law_rounds) .none kV2 dc2 pm2 an2 cd2 ct2), sl2⟩) (e2 : PySem.W.codeIn K cd2 "_law_rounds" = true) (k2 : PySem.W.keepIn K (.ref f2) = true)
    {f3 : Addr} {od3 an3 : Option Addr} {sl3 : Array (Option Value)} {oc3 kV3 dc3 pm3 ct3 : Value} {cd3 : Value}
    (a3 : PySem.W.nsIn K mainGlobals "_law_roll" = some (some (.ref f3))) (l3 : K.lookup f3 = some ⟨oc3, od3, .func (PySem.W.fnOf "_law_roll" "_law_roll" (defArgs s__law_roll) (defBody s__law_roll) (defScope s__law_roll) .none kV3 dc3 pm3 an3 cd3 ct3), sl3⟩) (e3 : PySem.W.codeIn K cd3 "_law_roll" = true) (k3 : PySem.W.keepIn K (.ref f3) = true)
    {f4 : Addr} {od4 an4 : Option Addr} {sl4 : Array (Option Value)} {oc4 kV4 dc4 pm4 ct4 : Value} {cd4 : Value}
    (a4 : PySem.W.nsIn K mainGlobals "days_ahead" = some (some (.ref f4))) (l4 : K.lookup f4 = some ⟨oc4, od4, .func (PySem.W.fnOf "days_ahead" "days_ahead" (defArgs s_days_ahead) (defBody s_days_ahead) (defScope s_days_ahead) .none kV4 dc4 pm4 an4 cd4 ct4), sl4⟩) (e4 : PySem.W.codeIn K cd4 "days_ahead" = true) (k4 : PySem.W.keepIn K (.ref f4) = true)
    {f5 : Addr} {od5 an5 : Option Addr} {sl5 : Array (Option Value)} {oc5 kV5 dc5 pm5 ct5 : Value} {cd5 : Value}
    (a5 : PySem.W.nsIn K mainGlobals "is_whole" = some (some (.ref f5))) (l5 : K.lookup f5 = some ⟨oc5, od5, .func (PySem.W.fnOf "is_whole" "is_whole" (defArgs s_is_whole) (defBody s_is_whole) (defScope s_is_whole) .none kV5 dc5 pm5 an5 cd5 ct5), sl5⟩) (e5 : PySem.W.codeIn K cd5 "is_whole" = true) (k5 : PySem.W.keepIn K (.ref f5) = true)
    {f6 : Addr} {od6 an6 : Option Addr} {sl6 : Array (Option Value)} {oc6 kV6 dc6 pm6 ct6 : Value} {cd6 : Value}
    (a6 : PySem.W.nsIn K mainGlobals "is_leap" = some (some (.ref f6))) (l6 : K.lookup f6 = some ⟨oc6, od6, .func (PySem.W.fnOf "is_leap" "is_leap" (defArgs s_is_leap) (defBody s_is_leap) (defScope s_is_leap) .none kV6 dc6 pm6 an6 cd6 ct6), sl6⟩) (e6 : PySem.W.codeIn K cd6 "is_leap" = true) (k6 : PySem.W.keepIn K (.ref f6) = true)
    {f7 : Addr} {od7 an7 : Option Addr} {sl7 : Array (Option Value)} {oc7 kV7 dc7 pm7 ct7 : Value} {cd7 : Value}
    (a7 : PySem.W.nsIn K mainGlobals "month_length" = some (some (.ref f7))) (l7 : K.lookup f7 = some ⟨oc7, od7, .func (PySem.W.fnOf "month_length" "month_length" (defArgs s_month_length) (defBody s_month_length) (defScope s_month_length) .none kV7 dc7 pm7 an7 cd7 ct7), sl7⟩) (e7 : PySem.W.codeIn K cd7 "month_length" = true) (k7 : PySem.W.keepIn K (.ref f7) = true)
    {f8 : Addr} {od8 an8 : Option Addr} {sl8 : Array (Option Value)} {oc8 kV8 dc8 pm8 ct8 : Value} {cd8 : Value}
    (a8 : PySem.W.nsIn K mainGlobals "is_date" = some (some (.ref f8))) (l8 : K.lookup f8 = some ⟨oc8, od8, .func (PySem.W.fnOf "is_date" "is_date" (defArgs s_is_date) (defBody s_is_date) (defScope s_is_date) .none kV8 dc8 pm8 an8 cd8 ct8), sl8⟩) (e8 : PySem.W.codeIn K cd8 "is_date" = true) (k8 : PySem.W.keepIn K (.ref f8) = true)
    {f9 : Addr} {od9 an9 : Option Addr} {sl9 : Array (Option Value)} {oc9 kV9 dc9 pm9 ct9 : Value} {cd9 : Value}
    (a9 : PySem.W.nsIn K mainGlobals "check_date" = some (some (.ref f9))) (l9 : K.lookup f9 = some ⟨oc9, od9, .func (PySem.W.fnOf "check_date" "check_date" (defArgs s_check_date) (defBody s_check_date) (defScope s_check_date) .none kV9 dc9 pm9 an9 cd9 ct9), sl9⟩) (e9 : PySem.W.codeIn K cd9 "check_date" = true) (k9 : PySem.W.keepIn K (.ref f9) = true)
    {f10 : Addr} {od10 an10 : Option Addr} {sl10 : Array (Option Value)} {oc10 kV10 dc10 pm10 ct10 : Value} {o10 P10 : Addr} {ce10 : Value} {cdd10 : Option Addr} {cvs10 : Array Value} {csl10 : Array (Option Value)}
    (a10 : PySem.W.nsIn K mainGlobals "day_of_year" = some (some (.ref f10))) (l10 : K.lookup f10 = some ⟨oc10, od10, .func (PySem.W.fnOf "day_of_year" "day_of_year" (defArgs s_day_of_year) (defBody s_day_of_year) (defScope s_day_of_year) .none kV10 dc10 pm10 an10 (.ref o10) ct10), sl10⟩) (e10 : PySem.W.codeIn K (.ref o10) "day_of_year" = true) (k10 : PySem.W.keepIn K (.ref f10) = true)
    (t10 : K.lookup o10 = some ⟨ce10, cdd10, .fields cvs10, csl10⟩) (w10 : cvs10[11]? = some (.ref P10)) (r10 : ((recsOf q).any fun e => e.name == "day_of_year") = true) (u10 : K.lookup P10 = none)
    {f11 : Addr} {od11 an11 : Option Addr} {sl11 : Array (Option Value)} {oc11 kV11 dc11 pm11 ct11 : Value} {cd11 : Value}
    (a11 : PySem.W.nsIn K mainGlobals "number_of" = some (some (.ref f11))) (l11 : K.lookup f11 = some ⟨oc11, od11, .func (PySem.W.fnOf "number_of" "number_of" (defArgs s_number_of) (defBody s_number_of) (defScope s_number_of) .none kV11 dc11 pm11 an11 cd11 ct11), sl11⟩) (e11 : PySem.W.codeIn K cd11 "number_of" = true) (k11 : PySem.W.keepIn K (.ref f11) = true)
    {f12 : Addr} {od12 an12 : Option Addr} {sl12 : Array (Option Value)} {oc12 kV12 dc12 pm12 ct12 : Value} {cd12 : Value}
    (a12 : PySem.W.nsIn K mainGlobals "date_of" = some (some (.ref f12))) (l12 : K.lookup f12 = some ⟨oc12, od12, .func (PySem.W.fnOf "date_of" "date_of" (defArgs s_date_of) (defBody s_date_of) (defScope s_date_of) .none kV12 dc12 pm12 an12 cd12 ct12), sl12⟩) (e12 : PySem.W.codeIn K cd12 "date_of" = true) (k12 : PySem.W.keepIn K (.ref f12) = true)
    {f13 : Addr} {od13 an13 : Option Addr} {sl13 : Array (Option Value)} {oc13 kV13 dc13 pm13 ct13 : Value} {cd13 : Value}
    (a13 : PySem.W.nsIn K mainGlobals "light" = some (some (.ref f13))) (l13 : K.lookup f13 = some ⟨oc13, od13, .func (PySem.W.fnOf "light" "light" (defArgs s_light) (defBody s_light) (defScope s_light) .none kV13 dc13 pm13 an13 cd13 ct13), sl13⟩) (e13 : PySem.W.codeIn K cd13 "light" = true) (k13 : PySem.W.keepIn K (.ref f13) = true)
    {f14 : Addr} {od14 an14 : Option Addr} {sl14 : Array (Option Value)} {oc14 kV14 dc14 pm14 ct14 : Value} {cd14 : Value}
    (a14 : PySem.W.nsIn K mainGlobals "law" = some (some (.ref f14))) (l14 : K.lookup f14 = some ⟨oc14, od14, .func (PySem.W.fnOf "law" "law" (defArgs s_law) (defBody s_law) (defScope s_law) .none kV14 dc14 pm14 an14 cd14 ct14), sl14⟩) (e14 : PySem.W.codeIn K cd14 "law" = true) (k14 : PySem.W.keepIn K (.ref f14) = true)
    (z1 : PySem.W.nsIn K mainGlobals "abs" = some none)
    (z2 : PySem.W.nsIn K mainGlobals "bool" = some none)
    (z3 : PySem.W.nsIn K mainGlobals "int" = some none)
    (z4 : PySem.W.nsIn K mainGlobals "isinstance" = some none)
    (z5 : PySem.W.nsIn K mainGlobals "len" = some none)
    (z6 : PySem.W.nsIn K mainGlobals "max" = some none)
    (z7 : PySem.W.nsIn K mainGlobals "min" = some none)
    (z8 : PySem.W.nsIn K mainGlobals "range" = some none)
    (z9 : PySem.W.nsIn K mainGlobals "sum" = some none)
    (z10 : PySem.W.nsIn K mainGlobals "tuple" = some none)
    {y1 : Tok} (x1 : PySem.W.nsIn K mainGlobals "LAST" = some (some (.int 9999 y1)))
    {y2 : Addr} {g2 : Array Value} {ol2 : Option Addr} {nn2 : Nat} {os2 : Array (Option Value)} (x2 : PySem.W.nsIn K mainGlobals "LONG" = some (some (.ref y2))) (v2 : K.lookup y2 = some ⟨.type "tuple", ol2, .seq g2 nn2, os2⟩) (j2 : intsB g2.toList k_LONG = true)
    : LamX.LawAtS l w K (L2.CX l.prog w) 7 n "script" mg fa h := by
  have e := hfa.symm.trans (PySem.W.mg_of X G a14)
  cases e
  have F1 := fun_mk (st := s__law_dice) l1 e1 k1
  have b1 := F1.binds (ps := ["cell"]) fun _ _ _ _ _ _ us hl => match us, hl with | [_], _ => rfl
  have F2 := fun_mk (st := s__law_rounds) l2 e2 k2
  have b2 := F2.binds (ps := ["script", "most"]) fun _ _ _ _ _ _ us hl => match us, hl with | [_, _], _ => rfl
  have F3 := fun_mk (st := s__law_roll) l3 e3 k3
  have b3 := F3.binds (ps := ["dice", "many"]) fun _ _ _ _ _ _ us hl => match us, hl with | [_, _], _ => rfl
  have F4 := fun_mk (st := s_days_ahead) l4 e4 k4
  have b4 := F4.binds (ps := ["year"]) fun _ _ _ _ _ _ us hl => match us, hl with | [_], _ => rfl
  have F5 := fun_mk (st := s_is_whole) l5 e5 k5
  have b5 := F5.binds (ps := ["thing", "low", "high"]) fun _ _ _ _ _ _ us hl => match us, hl with | [_, _, _], _ => rfl
  have F6 := fun_mk (st := s_is_leap) l6 e6 k6
  have b6 := F6.binds (ps := ["year"]) fun _ _ _ _ _ _ us hl => match us, hl with | [_], _ => rfl
  have F7 := fun_mk (st := s_month_length) l7 e7 k7
  have b7 := F7.binds (ps := ["year", "month"]) fun _ _ _ _ _ _ us hl => match us, hl with | [_, _], _ => rfl
  have F8 := fun_mk (st := s_is_date) l8 e8 k8
  have b8 := F8.binds (ps := ["thing"]) fun _ _ _ _ _ _ us hl => match us, hl with | [_], _ => rfl
  have F9 := fun_mk (st := s_check_date) l9 e9 k9
  have b9 := F9.binds (ps := ["thing"]) fun _ _ _ _ _ _ us hl => match us, hl with | [_], _ => rfl
  have F10 := fun_mk (st := s_day_of_year) l10 e10 k10
  have b10 := F10.binds (ps := ["date"]) fun _ _ _ _ _ _ us hl => match us, hl with | [_], _ => rfl
  have F11 := fun_mk (st := s_number_of) l11 e11 k11
  have b11 := F11.binds (ps := ["date"]) fun _ _ _ _ _ _ us hl => match us, hl with | [_], _ => rfl
  have F12 := fun_mk (st := s_date_of) l12 e12 k12
  have b12 := F12.binds (ps := ["number"]) fun _ _ _ _ _ _ us hl => match us, hl with | [_], _ => rfl
  have F13 := fun_mk (st := s_light) l13 e13 k13
  have b13 := F13.binds (ps := ["date", "reach"]) fun _ _ _ _ _ _ us hl => match us, hl with | [_, _], _ => rfl
  have F14 := fun_mk (st := s_law) l14 e14 k14
  have b14 := F14.binds (ps := ["script"]) fun _ _ _ _ _ _ us hl => match us, hl with | [_], _ => rfl
  let T : Tops K mg := { f__law_dice := f1, d__law_dice := _, F__law_dice := F1, m__law_dice := PySem.W.mg_of X G a1, b__law_dice := b1, f__law_rounds := f2, d__law_rounds := _, F__law_rounds := F2, m__law_rounds := PySem.W.mg_of X G a2, b__law_rounds := b2, f__law_roll := f3, d__law_roll := _, F__law_roll := F3, m__law_roll := PySem.W.mg_of X G a3, b__law_roll := b3, f_days_ahead := f4, d_days_ahead := _, F_days_ahead := F4, m_days_ahead := PySem.W.mg_of X G a4, b_days_ahead := b4, f_is_whole := f5, d_is_whole := _, F_is_whole := F5, m_is_whole := PySem.W.mg_of X G a5, b_is_whole := b5, f_is_leap := f6, d_is_leap := _, F_is_leap := F6, m_is_leap := PySem.W.mg_of X G a6, b_is_leap := b6, f_month_length := f7, d_month_length := _, F_month_length := F7, m_month_length := PySem.W.mg_of X G a7, b_month_length := b7, f_is_date := f8, d_is_date := _, F_is_date := F8, m_is_date := PySem.W.mg_of X G a8, b_is_date := b8, f_check_date := f9, d_check_date := _, F_check_date := F9, m_check_date := PySem.W.mg_of X G a9, b_check_date := b9, f_day_of_year := f10, d_day_of_year := _, F_day_of_year := F10, m_day_of_year := PySem.W.mg_of X G a10, b_day_of_year := b10, o_day_of_year := o10, P_day_of_year := P10, c_day_of_year := rfl, f_number_of := f11, d_number_of := _, F_number_of := F11, m_number_of := PySem.W.mg_of X G a11, b_number_of := b11, f_date_of := f12, d_date_of := _, F_date_of := F12, m_date_of := PySem.W.mg_of X G a12, b_date_of := b12, f_light := f13, d_light := _, F_light := F13, m_light := PySem.W.mg_of X G a13, b_light := b13, f_law := fa, d_law := _, F_law := F14, m_law := PySem.W.mg_of X G a14, b_law := b14, n_abs := PySem.W.mg_none_of X G z1, n_bool := PySem.W.mg_none_of X G z2, n_int := PySem.W.mg_none_of X G z3, n_isinstance := PySem.W.mg_none_of X G z4, n_len := PySem.W.mg_none_of X G z5, n_max := PySem.W.mg_none_of X G z6, n_min := PySem.W.mg_none_of X G z7, n_range := PySem.W.mg_none_of X G z8, n_sum := PySem.W.mg_none_of X G z9, n_tuple := PySem.W.mg_none_of X G z10, t_LAST := y1, m_LAST := PySem.W.mg_of X G x1, a_LONG := y2, m_LONG := PySem.W.mg_of X G x2, q_LONG := fun H => sqt_K v2 j2 }
  have tabs_eq : tabs T = [(o10, P10)] := rfl
  have y110 := TA _ _ _ r10 (show PySem.W.tabIn K "day_of_year" = some (o10, P10) by simp only [PySem.W.tabIn, PySem.W.fnOf, a10, l10, t10, w10])
  refine ⟨_, tabs T, spF (cfg T) 1 F_law, ?_, ?_, ?_, fun s v => .of_eq rfl, fun H a ns hn _ hT hS => sp_law (cs := tabs T) (fun p hp => ?_) hlaw H a ns hn hT hS, fun base KB GB TBs => ok_law T ?_⟩
  · intro p hp
    rw [tabs_eq] at hp
    simp only [List.mem_cons, List.not_mem_nil, or_false] at hp
    subst hp
    · exact y110.2
  · intro p hp
    rw [tabs_eq] at hp
    simp only [List.mem_cons, List.not_mem_nil, or_false] at hp
    subst hp
    · exact u10
  · intro p hp
    rw [tabs_eq] at hp
    simp only [List.mem_cons, List.not_mem_nil, or_false] at hp
    subst hp
    · exact y110.1
  · obtain ⟨q, hq, e⟩ := List.mem_map.mp hp
    exact ⟨q, hq, by rw [← e]⟩
  · refine { t_day_of_year := (let z := TBs (o10, P10) (by rw [tabs_eq]; simp); ⟨z.1, z.2, z.3⟩), p_day_of_year := List.mem_map.mpr ⟨(o10, P10), by rw [tabs_eq]; simp, rfl⟩, q_day_of_year := fun q hq => by obtain ⟨z, _, e⟩ := List.mem_map.mp hq; cases e }
end L_k21

open PySem PySem.W PyProof.Rows
set_option maxRecDepth 100000 in
set_option maxHeartbeats 0 in
theorem PySem.Challenge.cw_skytable_k21_the_light_of_a_year_holds : PySem.Challenge.rw_skytable_k21_the_light_of_a_year.Holds := by
  w_on; o_law; k_head; (case hw => w_witness2)
  k_fill
  refine Sk.walk_sk (l := PySem.Challenge.rw_skytable_k21_the_light_of_a_year) (k := 7) (x := "script") rfl (by decide) rfl ⟨rfl, by decide, by decide⟩ (fun w h Y => PySem.W.kIn_of Y) ?F
  case F =>
    intro w mg fa h KX G hmg TA
    refine' L_k21.all_mk _ KX G hmg TA L_k21.law_true ?a1 ?l1 ?e1 ?k1 ?a2 ?l2 ?e2 ?k2 ?a3 ?l3 ?e3 ?k3 ?a4 ?l4 ?e4 ?k4 ?a5 ?l5 ?e5 ?k5 ?a6 ?l6 ?e6 ?k6 ?a7 ?l7 ?e7 ?k7 ?a8 ?l8 ?e8 ?k8 ?a9 ?l9 ?e9 ?k9 ?a10 ?l10 ?e10 ?k10 ?t10 ?w10 ?r10 ?u10 ?a11 ?l11 ?e11 ?k11 ?a12 ?l12 ?e12 ?k12 ?a13 ?l13 ?e13 ?k13 ?a14 ?l14 ?e14 ?k14 ?z1 ?z2 ?z3 ?z4 ?z5 ?z6 ?z7 ?z8 ?z9 ?z10 ?x1 ?x2 ?v2 ?j2
    (case a1 => k_is)
    (case l1 => k_is)
    (case e1 => k_is)
    (case k1 => k_is)
    (case a2 => k_is)
    (case l2 => k_is)
    (case e2 => k_is)
    (case k2 => k_is)
    (case a3 => k_is)
    (case l3 => k_is)
    (case e3 => k_is)
    (case k3 => k_is)
    (case a4 => k_is)
    (case l4 => k_is)
    (case e4 => k_is)
    (case k4 => k_is)
    (case a5 => k_is)
    (case l5 => k_is)
    (case e5 => k_is)
    (case k5 => k_is)
    (case a6 => k_is)
    (case l6 => k_is)
    (case e6 => k_is)
    (case k6 => k_is)
    (case a7 => k_is)
    (case l7 => k_is)
    (case e7 => k_is)
    (case k7 => k_is)
    (case a8 => k_is)
    (case l8 => k_is)
    (case e8 => k_is)
    (case k8 => k_is)
    (case a9 => k_is)
    (case l9 => k_is)
    (case e9 => k_is)
    (case k9 => k_is)
    (case a10 => k_is)
    (case l10 => k_is)
    (case e10 => k_is)
    (case k10 => k_is)
    (case t10 => k_is)
    (case w10 => rfl)
    (case r10 => decide +kernel)
    (case u10 => first | k_is | rfl | kernel_rfl)
    (case a11 => k_is)
    (case l11 => k_is)
    (case e11 => k_is)
    (case k11 => k_is)
    (case a12 => k_is)
    (case l12 => k_is)
    (case e12 => k_is)
    (case k12 => k_is)
    (case a13 => k_is)
    (case l13 => k_is)
    (case e13 => k_is)
    (case k13 => k_is)
    (case a14 => k_is)
    (case l14 => k_is)
    (case e14 => k_is)
    (case k14 => k_is)
    (case z1 => k_is)
    (case z2 => k_is)
    (case z3 => k_is)
    (case z4 => k_is)
    (case z5 => k_is)
    (case z6 => k_is)
    (case z7 => k_is)
    (case z8 => k_is)
    (case z9 => k_is)
    (case z10 => k_is)
    (case x1 => k_is)
    (case x2 => k_is)
    (case v2 => k_is)
    (case j2 => decide +kernel)

