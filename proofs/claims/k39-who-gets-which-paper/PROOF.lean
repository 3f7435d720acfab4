import PyProof.Rows.All
import Wide.All
import OpenK.AllK
import Wide.FinOn
import HandS.ForMost
import HandS.Deep
import HandS.DeepEq
import HandS.Walk
import HandS.Zip
import HandS.TupAny
import HandS.TupLen
import HandS.Small
import HandS.Conv
import HandS.Wide
import KE.SortData
import KE.DataMinMax
import HandS.TupMul
import HandS.TupLe
import KE.KTupSum
import HandS.Style
import HandS.Strs
import HandS.SetFor
import KE.Datum
import HandS.IsInst
import HandS.Dict
import HandS.More
import KE.KUnpack
import KE.KEqNest
import HandS.SetKeys
import KE.KDictDisplayH
import PyProof.SeqIndex
import HandS.ListItems
import HandS.DictTup
import HandS.Sort
import PySem.Challenge.RW_papermade_k39_who_gets_which_paper
set_option Elab.async false
set_option linter.all false
set_option maxRecDepth 100000
/-! PX: a reading of Python's expressions and statements by pure functions over data (PyData), over the layer HandS. -/
namespace PX
open PySem PySem.Spec PyProof.Rows L2

/-! ### a value reads as a datum, over the frozen part G of the heap -/
def keyD : Key → PyData
  | .inl i => .int i
  | .inr s => .str s
def keyTD (k : List Key) : PyData := .tuple (k.map keyD)
def keyOk : Key → Bool
  | .inl _ => true
  | .inr s => PyData.strOk s

/-- may a tuple of the written part (a constant of the module) be met? -/
def ZZ : Bool := false
def SqZ (K : PySem.W.Frag) (G : Hp) (a : Addr) (xs : List V) : Prop := G a = some (.tup xs) ∨ (ZZ = true ∧ SqT K G a xs)
theorem SqZ.sqT {K : PySem.W.Frag} {G : Hp} {a : Addr} {xs : List V} (h : SqZ K G a xs) : SqT K G a xs := by
  rcases h with h | ⟨_, h⟩
  · exact .of h
  · exact h
theorem SqZ.tup {K : PySem.W.Frag} {G : Hp} {a : Addr} {xs : List V} (h : SqZ K G a xs) (z : ZZ = false) : G a = some (.tup xs) := by
  rcases h with h | ⟨h, _⟩
  · exact h
  · rw [z] at h; exact absurd h Bool.false_ne_true

/-- a row: a tuple known to have no dict of its own -/
def rowE (ds : List PyData) : List (PyData × PyData) := (.none, .none) :: ds.map fun d => (.none, d)
mutual
inductive Rp (K : PySem.W.Frag) (G : Hp) : V → PyData → Prop
  | non : Rp K G .non .none
  | bl (b : Bool) : Rp K G (.bl b) (.bool b)
  | int (i : Int) : Rp K G (.int i) (.int i)
  | str (x : Str) (h : PyData.strOk x = true) : Rp K G (.str x) (.str x)
  | lst {a : Addr} {xs : List V} {ds : List PyData} : G a = some (.lst xs) → RpL K G xs ds → Rp K G (.ref a) (.list ds)
  | tup {a : Addr} {xs : List V} {ds : List PyData} : SqZ K G a xs → RpL K G xs ds → Rp K G (.ref a) (.tuple ds)
  | dK {a : Addr} {kvs : List (Key × V)} {es : List (PyData × PyData)} : Rd G a (.dK kvs) → RpD K G kvs es → Rp K G (.ref a) (.dict es)
  /-- a tuple known to have no dict of its own, read as a row -/
  | dT {a : Addr} {ob : Obj} {xs : List V} {ds : List PyData} {es : List (PyData × PyData)} : es = rowE ds → G a = some (.frz ob (.tup xs)) → ob.dict = none → RpL K G xs ds → Rp K G (.ref a) (.dict es)
inductive RpL (K : PySem.W.Frag) (G : Hp) : List V → List PyData → Prop
  | nil : RpL K G [] []
  | cons {v : V} {vs : List V} {d : PyData} {ds : List PyData} : Rp K G v d → RpL K G vs ds → RpL K G (v :: vs) (d :: ds)
inductive RpD (K : PySem.W.Frag) (G : Hp) : List (Key × V) → List (PyData × PyData) → Prop
  | nil : RpD K G [] []
  | cons {k : Key} {v : V} {vs : List (Key × V)} {d : PyData} {ds : List (PyData × PyData)} : keyOk k = true → Rp K G v d → RpD K G vs ds → RpD K G ((k, v) :: vs) ((keyD k, d) :: ds)
end

/-- what is read in G is read in G' -/
structure Sub (G G' : Hp) : Prop where
  lst : ∀ a xs, G a = some (.lst xs) → G' a = some (.lst xs)
  tup : ∀ a xs, Rd G a (.tup xs) → Rd G' a (.tup xs)
  tupE : ∀ a xs, G a = some (.tup xs) → G' a = some (.tup xs)
  dK : ∀ a xs, Rd G a (.dK xs) → Rd G' a (.dK xs)
  frz : ∀ a ob xs, G a = some (.frz ob (.tup xs)) → G' a = some (.frz ob (.tup xs))
theorem Rd.same {G G' : Hp} (h : Same G G') {a : Addr} {u : HO} (r : Rd G a u) : Rd G' a u := by
  rcases r with r | ⟨o, r⟩
  · exact .inl (h _ _ r)
  · exact .inr ⟨o, h _ _ r⟩
theorem Sub.of {G G' : Hp} (h : Same G G') : Sub G G' := ⟨fun _ _ => h _ _, fun _ _ => Rd.same h, fun _ _ => h _ _, fun _ _ => Rd.same h, fun _ _ _ => h _ _⟩
section
variable {K : PySem.W.Frag} {G G' : Hp}
theorem Sub.sqT (h : Sub G G') {a : Addr} {xs : List V} (q : SqT K G a xs) : SqT K G' a xs := by
  rcases q with q | q
  · exact .inl (h.tup _ _ q)
  · exact .inr q
theorem Sub.sqZ (h : Sub G G') {a : Addr} {xs : List V} (q : SqZ K G a xs) : SqZ K G' a xs := by
  rcases q with q | ⟨z, q⟩
  · exact .inl (h.tupE _ _ q)
  · exact .inr ⟨z, h.sqT q⟩
mutual
theorem Rp.mono (h : Sub G G') : ∀ {v : V} {d : PyData}, Rp K G v d → Rp K G' v d
  | _, _, .non => .non
  | _, _, .bl b => .bl b
  | _, _, .int i => .int i
  | _, _, .str x h => .str x h
  | _, _, .lst a b => .lst (h.lst _ _ a) (RpL.mono h b)
  | _, _, .tup a b => .tup (h.sqZ a) (RpL.mono h b)
  | _, _, .dK a b => .dK (h.dK _ _ a) (RpD.mono h b)
  | _, _, .dT e a c b => .dT e (h.frz _ _ _ a) c (RpL.mono h b)
theorem RpL.mono (h : Sub G G') : ∀ {v : List V} {d : List PyData}, RpL K G v d → RpL K G' v d
  | _, _, .nil => .nil
  | _, _, .cons a b => .cons (Rp.mono h a) (RpL.mono h b)
theorem RpD.mono (h : Sub G G') : ∀ {v : List (Key × V)} {d : List (PyData × PyData)}, RpD K G v d → RpD K G' v d
  | _, _, .nil => .nil
  | _, _, .cons o a b => .cons o (Rp.mono h a) (RpD.mono h b)
end
theorem RpL.length : ∀ {v : List V} {d : List PyData}, RpL K G v d → v.length = d.length
  | _, _, .nil => rfl
  | _, _, .cons _ b => congrArg (· + 1) (RpL.length b)
theorem RpD.length : ∀ {v : List (Key × V)} {d : List (PyData × PyData)}, RpD K G v d → v.length = d.length
  | _, _, .nil => rfl
  | _, _, .cons _ _ b => congrArg (· + 1) (RpD.length b)
theorem RpL.append : ∀ {v w : List V} {d e : List PyData}, RpL K G v d → RpL K G w e → RpL K G (v ++ w) (d ++ e)
  | _, _, _, _, .nil, h => h
  | _, _, _, _, .cons a b, h => .cons a (RpL.append b h)
theorem RpL.get : ∀ {v : List V} {d : List PyData} {i : Nat} {e : PyData}, RpL K G v d → d[i]? = some e → ∃ x, v[i]? = some x ∧ Rp K G x e
  | _, _, _, _, .nil, h => by simp at h
  | _, _, 0, _, .cons a _, h => by simp at h; subst h; exact ⟨_, rfl, a⟩
  | _, _, i + 1, _, .cons _ b, h => by
    obtain ⟨x, h1, h2⟩ := RpL.get (i := i) b (by simpa using h)
    exact ⟨x, by simpa using h1, h2⟩
theorem RpL.get' : ∀ {v : List V} {d : List PyData} {i : Nat} {x : V}, RpL K G v d → v[i]? = some x → ∃ e, d[i]? = some e ∧ Rp K G x e
  | _, _, _, _, .nil, h => by simp at h
  | _, _, 0, _, .cons a _, h => by simp at h; subst h; exact ⟨_, rfl, a⟩
  | _, _, i + 1, _, .cons _ b, h => by
    obtain ⟨x, h1, h2⟩ := RpL.get' (i := i) b (by simpa using h)
    exact ⟨x, by simpa using h1, h2⟩
theorem RpL.take : ∀ {v : List V} {d : List PyData} (n : Nat), RpL K G v d → RpL K G (v.take n) (d.take n)
  | _, _, 0, _ => .nil
  | _, _, _ + 1, .nil => .nil
  | _, _, n + 1, .cons a b => .cons a (RpL.take n b)
theorem RpL.drop : ∀ {v : List V} {d : List PyData} (n : Nat), RpL K G v d → RpL K G (v.drop n) (d.drop n)
  | _, _, 0, h => h
  | _, _, _ + 1, .nil => .nil
  | _, _, n + 1, .cons _ b => RpL.drop n b
theorem RpL.set {x : V} {e : PyData} (r : Rp K G x e) : ∀ {v : List V} {d : List PyData} (i : Nat), RpL K G v d → RpL K G (v.set i x) (d.set i e)
  | _, _, _, .nil => .nil
  | _, _, 0, .cons _ b => .cons r b
  | _, _, i + 1, .cons a b => .cons a (RpL.set r i b)
theorem RpL.reverse : ∀ {v : List V} {d : List PyData}, RpL K G v d → RpL K G v.reverse d.reverse
  | _, _, .nil => .nil
  | _, _, .cons a b => by
    rw [List.reverse_cons, List.reverse_cons]
    exact (RpL.reverse b).append (.cons a .nil)
theorem RpL.single {x : V} {e : PyData} (r : Rp K G x e) : RpL K G [x] [e] := .cons r .nil
theorem RpL.ints : ∀ (ns : List Int), RpL K G (ns.map V.int) (ns.map PyData.int)
  | [] => .nil
  | n :: ns => .cons (.int n) (RpL.ints ns)
theorem RpL.of_ints : ∀ {v : List V} {ns : List Int}, RpL K G v (ns.map PyData.int) → v = ns.map V.int
  | _, [], h => by cases h; rfl
  | _, n :: ns, h => by
    cases h with
    | cons a b =>
      cases a
      rw [RpL.of_ints b]
      rfl
theorem RpL.of_bools : ∀ {v : List V} {ns : List Bool}, RpL K G v (ns.map PyData.bool) → v = ns.map V.bl
  | _, [], h => by cases h; rfl
  | _, n :: ns, h => by
    cases h with
    | cons a b =>
      cases a
      rw [RpL.of_bools b]
      rfl
end

/-- what a mutable object's content reads as -/
def RpO (K : PySem.W.Frag) (G : Hp) : HO → PyData → Prop
  | .lst xs, .list ds => RpL K G xs ds
  | .dK kvs, .dict es => RpD K G kvs es
  | _, _ => False
theorem RpO.mono {K : PySem.W.Frag} {G G' : Hp} (h : Sub G G') {o : HO} {d : PyData} (r : RpO K G o d) : RpO K G' o d := by
  cases o <;> cases d <;> first | exact RpL.mono h r | exact RpD.mono h r | (obtain ⟨fs, e, r⟩ := r; exact ⟨fs, e, RpT.mono h r⟩) | exact r
theorem RpO.mut {K : PySem.W.Frag} {G : Hp} {o : HO} {d : PyData} (r : RpO K G o d) : Mut (some o) := by
  cases o <;> cases d <;> first | exact trivial | exact r.elim
theorem RpO.notTup {K : PySem.W.Frag} {G : Hp} {o : HO} {d : PyData} (r : RpO K G o d) : ∀ xs, o ≠ .tup xs := by
  cases o <;> cases d <;> first | exact r.elim | exact fun _ e => nomatch e
theorem RpO.rp {K : PySem.W.Frag} {G : Hp} {o : HO} {d : PyData} {a : Addr} (r : RpO K G o d) (h : G a = some o) : Rp K G (.ref a) d := by
  cases o <;> cases d <;> first | exact r.elim | exact .lst h r | exact .dK (.inl h) r | (obtain ⟨fs, rfl, r⟩ := r; exact .dT (.inl h) r)
theorem RpO.rpL {K : PySem.W.Frag} {G : Hp} {od : Obj} {o : HO} {es : List (PyData × PyData)} {a : Addr} (r : RpO K G o (.dict es)) (h : G a = some (.frz od o)) : Rp K G (.ref a) (.dict es) := by
  cases o <;> first | exact r.elim | exact .dK (.inr ⟨_, h⟩) r | (obtain ⟨fs, rfl, r⟩ := r; exact .dT (.inr ⟨_, h⟩) r)

/-! ### data without dicts -/
mutual
def noD : PyData → Bool
  | .dict _ => false
  | .list xs => noDs xs
  | .tuple xs => noDs xs
  | _ => true
def noDs : List PyData → Bool
  | [] => true
  | x :: xs => noD x && noDs xs
end
section
variable {X : Cx} {pins : List (Addr × Obj)} {σ : L2.St} {H : Hp} {s : Shared}
mutual
theorem Rp.dp {K : PySem.W.Frag} : ∀ {v : V} {d : PyData}, Rp K H v d → noD d = true → Dp K H v d ∧ d.canLay0 = true
  | _, _, .non, _ => ⟨.non, rfl⟩
  | _, _, .bl b, _ => ⟨.bl b, rfl⟩
  | _, _, .int i, _ => ⟨.int i, rfl⟩
  | _, _, .str x h, _ => ⟨.str x, by simpa only [PyData.canLay0] using h⟩
  | _, _, .lst a b, n => by
    have q := RpL.dp b (by simpa only [noD] using n)
    exact ⟨.lst (.of a) q.1, by simpa only [PyData.canLay0] using q.2⟩
  | _, _, .tup a b, n => by
    have q := RpL.dp b (by simpa only [noD] using n)
    exact ⟨.tup a.sqT q.1, by simpa only [PyData.canLay0] using q.2⟩
  | _, _, .dK _ _, n => by simp [noD] at n
  | _, _, .dT _ _ _ _, n => by simp [noD] at n
theorem RpL.dp {K : PySem.W.Frag} : ∀ {v : List V} {d : List PyData}, RpL K H v d → noDs d = true → DpAll K H v d ∧ PyData.canLayAll0 d = true
  | _, _, .nil, _ => ⟨.nil, rfl⟩
  | _, _, .cons a b, n => by
    simp only [noDs, Bool.and_eq_true] at n
    have q1 := Rp.dp a n.1
    have q2 := RpL.dp b n.2
    exact ⟨.cons q1.1 q2.1, by simp only [PyData.canLayAll0, q1.2, q2.2, Bool.and_self]⟩
end
theorem Rp.reads (I : Inv X pins σ H s) {v : V} {d : PyData} {u : Value} (h : Rp X.K H v d) (n : noD d = true) (r : RelV v u) : (∃ as, Reads s.heap u d as) ∧ d.canLay0 = true :=
  ⟨Dp.reads I d v u (h.dp n).1 r, (h.dp n).2⟩
theorem RpL.reads (I : Inv X pins σ H s) {v : List V} {d : List PyData} {u : List Value} (h : RpL X.K H v d) (n : noDs d = true) (r : Vals v u) : (∃ as, ReadsAll s.heap u d as) ∧ PyData.canLayAll0 d = true :=
  ⟨Dp.readsAll I d v u (h.dp n).1 r, (h.dp n).2⟩
end

/-! ### the state -/
inductive Sl where
  /-- nothing that matters -/
  | no
  /-- a datum that nothing changes any more -/
  | pl (d : PyData)
  /-- a list or dict of this def's own -/
  | ow (d : PyData)
  /-- the same while a loop walks it -/
  | lk (od : Obj) (o : HO) (d : PyData)
  /-- the draws' dict -/
  | wd (p : Addr)
  /-- the script -/
  | sc (ns : List Int)
def Sl.own : Sl → Bool
  | .ow _ => true
  | .lk _ _ _ => true
  | .wd _ => true
  | _ => false
abbrev SEnv : Type := List Sl
def Own (env : SEnv) (σ : L2.St) (i : Nat) (p : Addr) : Prop := (∃ s, env[i]? = some s ∧ s.own = true) ∧ σ[i]? = some (some (V.ref p))

/-- the dict of draws -/
def wdO (l : Addr) (k : Int) : HO := .dK [(Sum.inr (Str.ofString "draws"), V.ref l), (Sum.inr (Str.ofString "at"), V.int k)]

structure Sta (K : PySem.W.Frag) (B Gb G H : Hp) (σ : L2.St) (env : SEnv) (W : List Int) : Prop where
  sg : Same G H
  sb : Same B H
  sgb : Same Gb G
  gb : ∀ a o, B a = some o → G a ≠ none → Gb a ≠ none ∨ ∃ xs, o = .tup xs
  len : env.length = σ.length
  pl : ∀ (i : Nat) (d : PyData), env[i]? = some (Sl.pl d) → ∃ (v : V), σ[i]? = some (some v) ∧ Rp K G v d
  ow : ∀ (i : Nat) (d : PyData), env[i]? = some (Sl.ow d) → ∃ (p : Addr) (o : HO), σ[i]? = some (some (V.ref p)) ∧ G p = none ∧ B p = none ∧ H p = some o ∧ RpO K G o d
  lk : ∀ (i : Nat) (od : Obj) (o : HO) (d : PyData), env[i]? = some (Sl.lk od o d) → ∃ (p : Addr), σ[i]? = some (some (V.ref p)) ∧ G p = none ∧ B p = none ∧ H p = some (.frz od o) ∧ RpO K G o d ∧ ∃ es, d = .dict es
  wd : ∀ (i : Nat) {q : Addr}, env[i]? = some (Sl.wd q) → ∃ (p l : Addr) (ns : List Int) (k : Nat), σ[i]? = some (some (V.ref p)) ∧ G p = none ∧ B p = none ∧ H p = some (wdO l (k : Nat)) ∧ G l = some (.lst (ns.map V.int)) ∧ W = ns.drop k ∧ p = q
  sc : ∀ (i : Nat) (ns : List Int), env[i]? = some (Sl.sc ns) → ∃ (p : Addr), σ[i]? = some (some (V.ref p)) ∧ SqL K G p (ns.map V.int)
  one : ∀ (i j : Nat) {p q : Addr}, env[i]? = some (Sl.wd p) → env[j]? = some (Sl.wd q) → i = j
  sep : ∀ i j p, Own env σ i p → Own env σ j p → i = j

inductive Kd where
  | im | fr | pk (i : Nat)

/-- a value on its way -/
def VOk (K : PySem.W.Frag) (B G H : Hp) (σ : L2.St) (env : SEnv) (v : V) (d : PyData) : Kd → Prop
  | .im => Rp K G v d
  | .fr => ∃ p o, v = .ref p ∧ G p = none ∧ B p = none ∧ H p = some o ∧ RpO K G o d ∧ ∀ i, ¬ Own env σ i p
  | .pk i => σ[i]? = some (some v) ∧ (env[i]? = some (Sl.ow d) ∨ ∃ od o, env[i]? = some (Sl.lk od o d))

section
variable {K : PySem.W.Frag} {B Gb G H G' H' : Hp} {σ : L2.St} {env : SEnv} {W W' : List Int} {v v' : V} {d d' : PyData} {k k' : Kd}

theorem Sta.own_at (S : Sta K B Gb G H σ env W) {i : Nat} {p : Addr} (h : Own env σ i p) : G p = none ∧ B p = none ∧ ∃ o, H p = some o ∧ ∀ xs, o ≠ .tup xs := by
  obtain ⟨⟨s, e, ho⟩, hp⟩ := h
  cases s with
  | no => exact absurd ho Bool.false_ne_true
  | pl d => exact absurd ho Bool.false_ne_true
  | ow d =>
    obtain ⟨q, o, h1, h2, h3, h4, h5⟩ := S.ow i d e
    rw [hp] at h1; cases h1
    exact ⟨h2, h3, o, h4, h5.notTup⟩
  | lk od o d =>
    obtain ⟨q, h1, h2, h3, h4, h5⟩ := S.lk i od o d e
    rw [hp] at h1; cases h1
    exact ⟨h2, h3, _, h4, fun _ z => nomatch z⟩
  | sc ns => exact absurd ho Bool.false_ne_true
  | wd =>
    obtain ⟨q, l, ns, k, h1, h2, h3, h4, _⟩ := S.wd i e
    rw [hp] at h1; cases h1
    exact ⟨h2, h3, _, h4, fun _ z => nomatch z⟩

/-- a value reads as a list: its own items -/
theorem VOk.list {ds : List PyData} (S : Sta K B Gb G H σ env W) (h : VOk K B G H σ env v (.list ds) k) : ∃ a xs, v = .ref a ∧ H a = some (.lst xs) ∧ RpL K G xs ds := by
  cases k with
  | im => cases h with | lst a b => exact ⟨_, _, rfl, S.sg _ _ a, b⟩
  | fr =>
    obtain ⟨p, o, rfl, _, _, h3, h4, _⟩ := h
    cases o <;> first | exact h4.elim | exact ⟨p, _, rfl, h3, h4⟩
  | pk i =>
    obtain ⟨h1, h2 | ⟨od, o, h2⟩⟩ := h
    · obtain ⟨p, o, h3, _, _, h4, h5⟩ := S.ow i _ h2
      rw [h1] at h3; cases h3
      cases o <;> first | exact h5.elim | exact ⟨p, _, rfl, h4, h5⟩
    · obtain ⟨p, h3, _, _, h4, h5, es, z⟩ := S.lk i _ _ _ h2
      cases z
theorem VOk.tuple {ds : List PyData} (S : Sta K B Gb G H σ env W) (h : VOk K B G H σ env v (.tuple ds) k) : ∃ a xs, v = .ref a ∧ SqZ K G a xs ∧ RpL K G xs ds := by
  cases k with
  | im => cases h with | tup a b => exact ⟨_, _, rfl, a, b⟩
  | fr =>
    obtain ⟨p, o, rfl, _, _, h3, h4, _⟩ := h
    cases o <;> exact h4.elim
  | pk i =>
    obtain ⟨h1, h2 | ⟨od, o, h2⟩⟩ := h
    · obtain ⟨p, o, h3, _, _, h4, h5⟩ := S.ow i _ h2
      cases o <;> exact h5.elim
    · obtain ⟨p, h3, _, _, h4, h5, es, z⟩ := S.lk i _ _ _ h2
      cases z
theorem VOk.dict {es : List (PyData × PyData)} (S : Sta K B Gb G H σ env W) (h : VOk K B G H σ env v (.dict es) k) :
    ∃ a, v = .ref a ∧ ((∃ kvs, Rd H a (.dK kvs) ∧ RpD K G kvs es) ∨ ∃ ob xs ds, es = rowE ds ∧ H a = some (.frz ob (.tup xs)) ∧ ob.dict = none ∧ RpL K G xs ds) := by
  cases k with
  | im =>
    cases h with
    | dK a b => exact ⟨_, rfl, .inl ⟨_, Rd.same S.sg a, b⟩⟩
    | dT e a c b => exact ⟨_, rfl, .inr ⟨_, _, _, e, S.sg _ _ a, c, b⟩⟩
  | fr =>
    obtain ⟨p, o, rfl, _, _, h3, h4, _⟩ := h
    cases o <;> first | exact h4.elim | exact ⟨p, rfl, .inl ⟨_, .inl h3, h4⟩⟩ | (obtain ⟨fs, e, h4⟩ := h4; exact ⟨p, rfl, .inr ⟨_, fs, e, .inl h3, h4⟩⟩)
  | pk i =>
    obtain ⟨h1, h2 | ⟨od, o, h2⟩⟩ := h
    · obtain ⟨p, o, h3, _, _, h4, h5⟩ := S.ow i _ h2
      rw [h1] at h3; cases h3
      cases o <;> first | exact h5.elim | exact ⟨p, rfl, .inl ⟨_, .inl h4, h5⟩⟩ | (obtain ⟨fs, e, h5⟩ := h5; exact ⟨p, rfl, .inr ⟨_, fs, e, .inl h4, h5⟩⟩)
    · obtain ⟨p, h3, _, _, h4, h5, _⟩ := S.lk i _ _ _ h2
      rw [h1] at h3; cases h3
      cases o <;> first | exact h5.elim | exact ⟨p, rfl, .inl ⟨_, .inr ⟨_, h4⟩, h5⟩⟩ | (obtain ⟨fs, e, h5⟩ := h5; exact ⟨p, rfl, .inr ⟨_, fs, e, .inr ⟨_, h4⟩, h5⟩⟩)
theorem VOk.int {i : Int} (S : Sta K B Gb G H σ env W) (h : VOk K B G H σ env v (.int i) k) : v = .int i := by
  cases k with
  | im => cases h; rfl
  | fr => obtain ⟨p, o, rfl, _, _, h3, h4, _⟩ := h; cases o <;> exact h4.elim
  | pk j =>
    obtain ⟨h1, h2 | ⟨od, o, h2⟩⟩ := h
    · obtain ⟨p, o, h3, _, _, h4, h5⟩ := S.ow j _ h2
      cases o <;> exact h5.elim
    · obtain ⟨p, h3, _, _, h4, h5, es, z⟩ := S.lk j _ _ _ h2
      cases z
theorem VOk.bool {i : Bool} (S : Sta K B Gb G H σ env W) (h : VOk K B G H σ env v (.bool i) k) : v = .bl i := by
  cases k with
  | im => cases h; rfl
  | fr => obtain ⟨p, o, rfl, _, _, h3, h4, _⟩ := h; cases o <;> exact h4.elim
  | pk j =>
    obtain ⟨h1, h2 | ⟨od, o, h2⟩⟩ := h
    · obtain ⟨p, o, h3, _, _, h4, h5⟩ := S.ow j _ h2
      cases o <;> exact h5.elim
    · obtain ⟨p, h3, _, _, h4, h5, es, z⟩ := S.lk j _ _ _ h2
      cases z
theorem VOk.str {i : Str} (S : Sta K B Gb G H σ env W) (h : VOk K B G H σ env v (.str i) k) : v = .str i := by
  cases k with
  | im => cases h; rfl
  | fr => obtain ⟨p, o, rfl, _, _, h3, h4, _⟩ := h; cases o <;> exact h4.elim
  | pk j =>
    obtain ⟨h1, h2 | ⟨od, o, h2⟩⟩ := h
    · obtain ⟨p, o, h3, _, _, h4, h5⟩ := S.ow j _ h2
      cases o <;> exact h5.elim
    · obtain ⟨p, h3, _, _, h4, h5, es, z⟩ := S.lk j _ _ _ h2
      cases z
theorem VOk.strOk {i : Str} (S : Sta K B Gb G H σ env W) (h : VOk K B G H σ env v (.str i) k) : PyData.strOk i = true := by
  cases k with
  | im => cases h; assumption
  | fr => obtain ⟨p, o, rfl, _, _, h3, h4, _⟩ := h; cases o <;> exact h4.elim
  | pk j =>
    obtain ⟨h1, h2 | ⟨od, o, h2⟩⟩ := h
    · obtain ⟨p, o, h3, _, _, h4, h5⟩ := S.ow j _ h2
      cases o <;> exact h5.elim
    · obtain ⟨p, h3, _, _, h4, h5, es, z⟩ := S.lk j _ _ _ h2
      cases z
theorem VOk.none (S : Sta K B Gb G H σ env W) (h : VOk K B G H σ env v .none k) : v = .non := by
  cases k with
  | im => cases h; rfl
  | fr => obtain ⟨p, o, rfl, _, _, h3, h4, _⟩ := h; cases o <;> exact h4.elim
  | pk j =>
    obtain ⟨h1, h2 | ⟨od, o, h2⟩⟩ := h
    · obtain ⟨p, o, h3, _, _, h4, h5⟩ := S.ow j _ h2
      cases o <;> exact h5.elim
    · obtain ⟨p, h3, _, _, h4, h5, es, z⟩ := S.lk j _ _ _ h2
      cases z
/-- the value is an object with the datum at its root in H (over G within) -/
theorem VOk.rp (S : Sta K B Gb G H σ env W) (h : VOk K B G H σ env v d k) : Rp K H v d := by
  cases k with
  | im => exact Rp.mono (Sub.of S.sg) h
  | fr =>
    obtain ⟨p, o, rfl, _, _, h3, h4, _⟩ := h
    exact (h4.mono (Sub.of S.sg)).rp h3
  | pk i =>
    obtain ⟨h1, h2 | ⟨od, o, h2⟩⟩ := h
    · obtain ⟨p, o, h3, _, _, h4, h5⟩ := S.ow i _ h2
      rw [h1] at h3; cases h3
      exact (h5.mono (Sub.of S.sg)).rp h4
    · obtain ⟨p, h3, _, _, h4, h5, es, rfl⟩ := S.lk i _ _ _ h2
      rw [h1] at h3; cases h3
      exact (h5.mono (Sub.of S.sg)).rpL h4

/-! ### what may happen to the heap -/
theorem same_upd {H : Hp} {p : Addr} {o : HO} (h : H p = Option.none) : Same H (upd H p o) := fun b x e => by
  rw [upd_ne (ne_of_none e h)]
  exact e
/-- a new object beside the state -/
theorem Sta.laid (S : Sta K B Gb G H σ env W) {p : Addr} {o : HO} (h : H p = Option.none) : Sta K B Gb G (upd H p o) σ env W where
  sg := S.sg.trans (same_upd h)
  sb := S.sb.trans (same_upd h)
  sgb := S.sgb
  gb := S.gb
  len := S.len
  pl := S.pl
  ow := fun i d e => by
    obtain ⟨q, o, h1, h2, h3, h4, h5⟩ := S.ow i d e
    exact ⟨q, o, h1, h2, h3, same_upd h _ _ h4, h5⟩
  lk := fun i od o d e => by
    obtain ⟨q, h1, h2, h3, h4, h5⟩ := S.lk i od o d e
    exact ⟨q, h1, h2, h3, same_upd h _ _ h4, h5⟩
  wd := fun i => fun e => by
    obtain ⟨q, l, ns, k, h1, h2, h3, h4, h5⟩ := S.wd i e
    exact ⟨q, l, ns, k, h1, h2, h3, same_upd h _ _ h4, h5⟩
  sc := S.sc
  one := S.one
  sep := S.sep
theorem Sta.new (S : Sta K B Gb G H σ env W) {p : Addr} (h : H p = Option.none) : G p = Option.none ∧ B p = Option.none ∧ ∀ i, ¬ Own env σ i p :=
  ⟨S.sg.free h, S.sb.free h, fun i ho => by
    obtain ⟨_, _, o, e, _⟩ := S.own_at ho
    rw [h] at e; cases e⟩
/-- the frozen part grows by an object that stands -/
theorem Sta.freeze (S : Sta K B Gb G H σ env W) {p : Addr} {o : HO} (h : H p = some o) (hg : G p = Option.none) (hb : B p = Option.none ∨ ∃ xs, o = .tup xs) (ho : ∀ i, ¬ Own env σ i p) : Sta K B Gb (upd G p o) H σ env W where
  sg := fun b x e => by
    by_cases q : b = p
    · subst q; rw [upd_same] at e; cases e; exact h
    · rw [upd_ne q] at e; exact S.sg _ _ e
  sb := S.sb
  sgb := S.sgb.trans (same_upd hg)
  gb := fun a x e n => by
    by_cases q : a = p
    · subst q
      rcases hb with hb | hb
      · rw [hb] at e; cases e
      · right
        have := S.sb _ _ e
        rw [h] at this; cases this
        exact hb
    · rw [upd_ne q] at n; exact S.gb a x e n
  len := S.len
  pl := fun i d e => by
    obtain ⟨v, h1, h2⟩ := S.pl i d e
    exact ⟨v, h1, Rp.mono (Sub.of (same_upd hg)) h2⟩
  ow := fun i d e => by
    obtain ⟨q, o', h1, h2, h3, h4, h5⟩ := S.ow i d e
    refine ⟨q, o', h1, ?_, h3, h4, h5.mono (Sub.of (same_upd hg))⟩
    rw [upd_ne (show q ≠ p from fun z => ho i ⟨⟨_, e, rfl⟩, z ▸ h1⟩)]
    exact h2
  lk := fun i od o d e => by
    obtain ⟨q, h1, h2, h3, h4, h5⟩ := S.lk i od o d e
    refine ⟨q, h1, ?_, h3, h4, h5.1.mono (Sub.of (same_upd hg)), h5.2⟩
    rw [upd_ne (show q ≠ p from fun z => ho i ⟨⟨_, e, rfl⟩, z ▸ h1⟩)]
    exact h2
  wd := fun i => fun e => by
    obtain ⟨q, l, ns, k, h1, h2, h3, h4, h5, h6⟩ := S.wd i e
    refine ⟨q, l, ns, k, h1, ?_, h3, h4, same_upd hg _ _ h5, h6⟩
    rw [upd_ne (show q ≠ p from fun z => ho i ⟨⟨_, e, rfl⟩, z ▸ h1⟩)]
    exact h2
  sc := fun i ns e => by
    obtain ⟨q, h1, h2⟩ := S.sc i ns e
    exact ⟨q, h1, (same_upd hg).seq h2⟩
  one := S.one
  sep := S.sep

/-! ### a value pending while others are reckoned -/
def prot (H : Hp) (v : V) (k : Kd) (B : Hp) : Hp :=
  match k, v with
  | .fr, .ref p => (match H p with | some o => upd B p o | Option.none => B)
  | _, _ => B
theorem prot_fr {p : Addr} {o : HO} (h : H p = some o) : prot H (.ref p) .fr B = upd B p o := by simp [prot, h]
theorem prot_im : prot H v .im B = B := by simp [prot]
theorem prot_pk {i : Nat} : prot H v (.pk i) B = B := by simp [prot]
theorem Sta.prot (S : Sta K B Gb G H σ env W) (h : VOk K B G H σ env v d k) : Sta K (PX.prot H v k B) Gb G H σ env W := by
  cases k with
  | im => rw [prot_im]; exact S
  | pk i => rw [prot_pk]; exact S
  | fr =>
    obtain ⟨p, o, rfl, h1, h2, h3, h4, h5⟩ := h
    rw [prot_fr h3]
    exact {
      sg := S.sg
      sb := fun b x e => by
        by_cases q : b = p
        · subst q; rw [upd_same] at e; cases e; exact h3
        · rw [upd_ne q] at e; exact S.sb _ _ e
      sgb := S.sgb
      gb := fun a x e n => by
        by_cases q : a = p
        · subst q; exact absurd h1 n
        · rw [upd_ne q] at e; exact S.gb a x e n
      len := S.len
      pl := S.pl
      ow := fun i d e => by
        obtain ⟨q, o', a1, a2, a3, a4, a5⟩ := S.ow i d e
        refine ⟨q, o', a1, a2, ?_, a4, a5⟩
        rw [upd_ne (show q ≠ p from fun z => h5 i ⟨⟨_, e, rfl⟩, z ▸ a1⟩)]
        exact a3
      lk := fun i od o d e => by
        obtain ⟨q, a1, a2, a3, a4, a5⟩ := S.lk i od o d e
        refine ⟨q, a1, a2, ?_, a4, a5⟩
        rw [upd_ne (show q ≠ p from fun z => h5 i ⟨⟨_, e, rfl⟩, z ▸ a1⟩)]
        exact a3
      wd := fun i => fun e => by
        obtain ⟨q, l, ns, k, a1, a2, a3, a4, a5⟩ := S.wd i e
        refine ⟨q, l, ns, k, a1, a2, ?_, a4, a5⟩
        rw [upd_ne (show q ≠ p from fun z => h5 i ⟨⟨_, e, rfl⟩, z ▸ a1⟩)]
        exact a3
      sc := S.sc
      one := S.one
      sep := S.sep }
/-- behind: the state without the protection; the value pending; the others too -/
theorem Sta.unprot {B1 : Hp} (hB : Same B B1) (S : Sta K B1 Gb G H σ env W) : Sta K B Gb G H σ env W where
  sg := S.sg
  sb := hB.trans S.sb
  sgb := S.sgb
  gb := fun a o e n => S.gb a o (hB _ _ e) n
  len := S.len
  pl := S.pl
  ow := fun i d e => by
    obtain ⟨q, o, h1, h2, h3, h4, h5⟩ := S.ow i d e
    exact ⟨q, o, h1, h2, hB.free h3, h4, h5⟩
  lk := fun i od o d e => by
    obtain ⟨q, h1, h2, h3, h4, h5⟩ := S.lk i od o d e
    exact ⟨q, h1, h2, hB.free h3, h4, h5⟩
  wd := fun i => fun e => by
    obtain ⟨q, l, ns, k, h1, h2, h3, h4, h5⟩ := S.wd i e
    exact ⟨q, l, ns, k, h1, h2, hB.free h3, h4, h5⟩
  sc := S.sc
  one := S.one
  sep := S.sep
theorem prot_same (h : VOk K B G H σ env v d k) : Same B (prot H v k B) := by
  cases k with
  | im => rw [prot_im]; exact Same.refl _
  | pk i => rw [prot_pk]; exact Same.refl _
  | fr =>
    obtain ⟨p, o, rfl, h1, h2, h3, h4, h5⟩ := h
    rw [prot_fr h3]
    exact same_upd h2
theorem VOk.base {B1 : Hp} (hB : Same B B1) (h : VOk K B1 G H σ env v d k) : VOk K B G H σ env v d k := by
  cases k with
  | im => exact h
  | pk i => exact h
  | fr =>
    obtain ⟨p, o, rfl, h1, h2, h3, h4, h5⟩ := h
    exact ⟨p, o, rfl, h1, hB.free h2, h3, h4, h5⟩
theorem VOk.kept {W1 : List Int} (S : Sta K B Gb G H σ env W1) (h : VOk K B G H σ env v d k) (g : Same G G') (S' : Sta K (prot H v k B) Gb G' H' σ env W') : VOk K B G' H' σ env v d k := by
  cases k with
  | im => exact Rp.mono (Sub.of g) h
  | pk i => exact h
  | fr =>
    obtain ⟨p, o, rfl, h1, h2, h3, h4, h5⟩ := h
    rw [prot_fr h3] at S'
    have e : H' p = some o := S'.sb _ _ upd_same
    refine ⟨p, o, rfl, ?_, h2, e, h4.mono (Sub.of g), h5⟩
    cases q : G' p with
    | none => rfl
    | some x =>
      rcases S'.gb p o upd_same (by rw [q]; simp) with z | ⟨xs, z⟩
      · exact absurd (S.sgb.free h1) z
      · exact absurd z (h4.notTup xs)
theorem VOk.apart {B1 : Hp} (hB : B1 = prot H v k B) (h : VOk K B G H σ env v d k) (h' : VOk K B1 G' H' σ env v' d' k') (e : k = .fr) (e' : k' = .fr) : v' ≠ v := by
  subst e e' hB
  obtain ⟨p, o, rfl, h1, h2, h3, h4, h5⟩ := h
  rw [prot_fr h3] at h'
  obtain ⟨p', o', rfl, a1, a2, a3, a4, a5⟩ := h'
  intro z
  cases z
  rw [upd_same] at a2; cases a2
end
end PX

namespace PX
open PySem PySem.Spec PyProof.Rows L2

abbrev Ex := SEnv → List Int → Option (PyData × Kd × List Int)
abbrev Dk := PyData × Kd
abbrev Op := List Dk → Option Dk
def esc : Kd → Bool
  | .pk _ => false
  | _ => true

section
variable {K : PySem.W.Frag} {B Gb G H G' H' : Hp} {σ : L2.St} {env : SEnv} {W W' : List Int} {v v' : V} {d d' : PyData} {k k' : Kd}
/-- values pending, in their order -/
def Pend (K : PySem.W.Frag) (B G H : Hp) (σ : L2.St) (env : SEnv) : List V → List Dk → Prop
  | [], [] => True
  | v :: vs, t :: ds => VOk K B G H σ env v t.1 t.2 ∧ (t.2 = Kd.fr → ∀ q ∈ vs.zip (ds.map (·.2)), q.2 = Kd.fr → q.1 ≠ v) ∧ Pend K B G H σ env vs ds
  | _, _ => False

def Cont (K : PySem.W.Frag) (B Gb G : Hp) (σ : L2.St) (env : SEnv) (W : List Int) (d : PyData) (k : Kd) (Q : VK) : Prop :=
  ∀ v G' H', Same G G' → Sta K B Gb G' H' σ env W → VOk K B G' H' σ env v d k → Q v H'

def tE (K : PySem.W.Frag) (f : Ex) : TE := fun σ H Q => ∃ B Gb G env W d k W', Sta K B Gb G H σ env W ∧ f env W = some (d, k, W') ∧ Cont K B Gb G σ env W' d k Q
def PX (X : Cx) (e : Expr) (f : Ex) : Prop := PE X e (tE X.K f)

/-- an operation by values -/
def rV (K : PySem.W.Frag) (op : Op) : List V → Hp → VK → Prop := fun vs H Q => ∃ B Gb G σ env W ds d k, Sta K B Gb G H σ env W ∧ Pend K B G H σ env vs ds ∧ op ds = some (d, k) ∧ Cont K B Gb G σ env W d k Q

theorem VOk.move {H2 : Hp} (h : VOk K B G H σ env v d k) (S : Sta K B Gb G H σ env W) (g : Same G G') (s : Same H H') (hn : ∀ p, v = .ref p → k = .fr → G' p = Option.none) : VOk K B G' H' σ env v d k := by
  cases k with
  | im => exact Rp.mono (Sub.of g) h
  | pk i => exact h
  | fr =>
    obtain ⟨p, o, rfl, h1, h2, h3, h4, h5⟩ := h
    exact ⟨p, o, rfl, hn p rfl rfl, h2, s _ _ h3, h4.mono (Sub.of g), h5⟩

theorem step2 {g : Ex} {d2 : PyData} {k2 : Kd} {W2 : List Int} {P : VK} (S : Sta K B Gb G H σ env W) (h : VOk K B G H σ env v d k) (hg : g env W = some (d2, k2, W2))
    (hP : ∀ v2 G' H', Same G G' → Sta K B Gb G' H' σ env W2 → VOk K B G' H' σ env v d k → VOk K B G' H' σ env v2 d2 k2 → (k = .fr → k2 = .fr → v2 ≠ v) → P v2 H') : tE K g σ H P :=
  ⟨prot H v k B, Gb, G, env, W, d2, k2, W2, S.prot h, hg, fun v2 G' H' sg S' h' => hP v2 G' H' sg (S'.unprot (prot_same h)) (VOk.kept S h sg S') (h'.base (prot_same h)) fun e e' => VOk.apart rfl h h' e e'⟩

theorem freeze1 (S : Sta K B Gb G H σ env W) (h : VOk K B G H σ env v d k) (he : esc k = true) :
    ∃ G', Same G G' ∧ Sta K B Gb G' H σ env W ∧ Rp K G' v d ∧ ∀ v' d' k', VOk K B G H σ env v' d' k' → (k = .fr → k' = .fr → v' ≠ v) → VOk K B G' H σ env v' d' k' := by
  cases k with
  | im => exact ⟨G, Same.refl _, S, h, fun _ _ _ h _ => h⟩
  | pk i => exact absurd he Bool.false_ne_true
  | fr =>
    obtain ⟨p, o, rfl, h1, h2, h3, h4, h5⟩ := h
    have sm : Same G (upd G p o) := same_upd h1
    refine ⟨upd G p o, sm, S.freeze h3 h1 (.inl h2) h5, (h4.mono (Sub.of sm)).rp upd_same, fun v' d' k' h' ne => ?_⟩
    cases k' with
    | im => exact Rp.mono (Sub.of sm) h'
    | pk i => exact h'
    | fr =>
      obtain ⟨p', o', rfl, a1, a2, a3, a4, a5⟩ := h'
      refine ⟨p', o', rfl, ?_, a2, a3, a4.mono (Sub.of sm), a5⟩
      rw [upd_ne (show p' ≠ p from fun z => ne rfl rfl (by rw [z]))]
      exact a1
theorem Pend.map {B' : Hp} {vs : List V} {ds : List Dk} (h : Pend K B G H σ env vs ds) (f : ∀ v' d' k', VOk K B G H σ env v' d' k' → (∃ q ∈ vs.zip (ds.map (·.2)), q = (v', k')) → VOk K B' G' H' σ env v' d' k') : Pend K B' G' H' σ env vs ds := by
  induction vs generalizing ds with
  | nil => cases ds with
    | nil => trivial
    | cons => exact h
  | cons v vs ih => cases ds with
    | nil => exact h
    | cons t ds =>
      obtain ⟨h1, h2, h3⟩ := h
      refine ⟨f _ _ _ h1 ⟨_, by simp, rfl⟩, h2, ih h3 fun v' d' k' a ⟨q, hq, e⟩ => f v' d' k' a ⟨q, ?_, e⟩⟩
      simp only [List.map_cons, List.zip_cons_cons, List.mem_cons]
      exact .inr hq
theorem freezeL : ∀ {vs : List V} {ds : List Dk} {G : Hp}, Sta K B Gb G H σ env W → Pend K B G H σ env vs ds → (ds.all fun t => esc t.2) = true →
    ∃ G', Same G G' ∧ Sta K B Gb G' H σ env W ∧ RpL K G' vs (ds.map (·.1))
  | [], [], G, S, _, _ => ⟨G, Same.refl _, S, .nil⟩
  | v :: vs, t :: ds, G, S, h, he => by
    rw [List.all_cons, Bool.and_eq_true] at he
    obtain ⟨h1, h2, h3⟩ := h
    obtain ⟨G1, s1, S1, r1, f1⟩ := freeze1 S h1 he.1
    have h3' : Pend K B G1 H σ env vs ds := h3.map fun v' d' k' a ⟨q, hq, e⟩ => f1 v' d' k' a fun e1 e2 => by
      have := h2 e1 q hq (by rw [e]; exact e2)
      rw [e] at this
      exact this
    obtain ⟨G2, s2, S2, r2⟩ := freezeL S1 h3' he.2
    exact ⟨G2, s1.trans s2, S2, .cons (Rp.mono (Sub.of s2) r1) r2⟩
  | [], _ :: _, _, _, h, _ => h.elim
  | _ :: _, [], _, _, h, _ => h.elim

/-- ends of operations -/
theorem Cont.im {Q : VK} (c : Cont K B Gb G σ env W d .im Q) (S : Sta K B Gb G H σ env W) (h : Rp K G v d) : Q v H := c v G H (Same.refl _) S h
theorem Cont.int {Q : VK} {i : Int} (c : Cont K B Gb G σ env W (.int i) .im Q) (S : Sta K B Gb G H σ env W) : Q (.int i) H := c.im S (.int i)
theorem Cont.bool {Q : VK} {i : Bool} (c : Cont K B Gb G σ env W (.bool i) .im Q) (S : Sta K B Gb G H σ env W) : Q (.bl i) H := c.im S (.bl i)
theorem Cont.str {Q : VK} {i : Str} (c : Cont K B Gb G σ env W (.str i) .im Q) (S : Sta K B Gb G H σ env W) (h : PyData.strOk i = true) : Q (.str i) H := c.im S (.str i h)
theorem Cont.fr {Q : VK} (c : Cont K B Gb G σ env W d .fr Q) (S : Sta K B Gb G H σ env W) {p : Addr} {o : HO} (hp : H p = Option.none) (r : RpO K G o d) : Q (.ref p) (upd H p o) := by
  obtain ⟨n1, n2, n3⟩ := S.new hp
  exact c _ G _ (Same.refl _) (S.laid hp) ⟨p, o, rfl, n1, n2, upd_same, r, n3⟩
theorem Cont.tup {Q : VK} {ds : List PyData} (c : Cont K B Gb G σ env W (.tuple ds) .im Q) (S : Sta K B Gb G H σ env W) {p : Addr} {xs : List V} (hp : H p = Option.none) (r : RpL K G xs ds) : Q (.ref p) (upd H p (.tup xs)) := by
  obtain ⟨n1, n2, n3⟩ := S.new hp
  have S1 := (S.laid (o := .tup xs) hp).freeze upd_same n1 (.inl n2) n3
  exact c _ _ _ (same_upd n1) S1 (.tup (.inl upd_same) (RpL.mono (Sub.of (same_upd n1)) r))
theorem Cont.sub {Q : VK} (c : Cont K B Gb G σ env W d k Q) (s : Same G G') : Cont K B Gb G' σ env W d k Q := fun v G2 H2 s2 S h => c v G2 H2 (s.trans s2) S h
end

/-! ### arguments -/
def cArgs : List Ex → SEnv → List Int → Option (List Dk × List Int)
  | [], _, W => some ([], W)
  | f :: fs, env, W => (f env W).bind fun r => (cArgs fs env r.2.2).map fun q => ((r.1, r.2.1) :: q.1, q.2)
def tA (K : PySem.W.Frag) (fs : List Ex) : TA := fun σ H Q => ∃ B Gb G env W ds W', Sta K B Gb G H σ env W ∧ cArgs fs env W = some (ds, W') ∧
  ∀ vs G' H', Same G G' → Sta K B Gb G' H' σ env W' → Pend K B G' H' σ env vs ds → Q vs H'
def PXs (X : Cx) (es : List Expr) (fs : List Ex) : Prop := PA X es (tA X.K fs)
section
variable {X : Cx} {e : Expr} {es : List Expr} {f : Ex} {fs : List Ex}
theorem PA.imp {t t' : TA} (h : PA X es t) (i : ∀ σ H Q, t' σ H Q → t σ H Q) : PA X es t' := ⟨fun pos pins s σ H Q I q => h.run pos pins s σ H Q I (i _ _ _ q)⟩
theorem PE.imp {t t' : TE} (h : PE X e t) (i : ∀ σ H Q, t' σ H Q → t σ H Q) : PE X e t' := ⟨fun pins s σ H Q I q => h.run pins s σ H Q I (i _ _ _ q)⟩
theorem PT.imp {t t' : TT} (h : PT X e t) (i : ∀ σ H Q, t' σ H Q → t σ H Q) : PT X e t' := ⟨fun pins s σ H Q I q => h.run pins s σ H Q I (i _ _ _ q)⟩
theorem PS.imp {st : Stmt} {t t' : TS} (h : PS X st t) (i : ∀ D σ H, t' D σ H → t D σ H) : PS X st t' := ⟨fun pins s σ H D I q => h.run pins s σ H D I (i _ _ _ q)⟩
theorem PSs.imp {st : List Stmt} {t t' : TS} (h : PSs X st t) (i : ∀ D σ H, t' D σ H → t D σ H) : PSs X st t' := ⟨fun pins s σ H D I q => h.run pins s σ H D I (i _ _ _ q)⟩
theorem pxs_nil : PXs X [] [] := PA.imp pa_nil fun σ H Q h => by
  obtain ⟨B, Gb, G, env, W, ds, W', S, e, c⟩ := h
  cases e
  exact c [] G H (Same.refl _) S trivial
theorem pxs_cons (ha : PX X e f) (hr : PXs X es fs) (hs : starEach (e :: es) X.env = (false, eval e X.env) :: starEach es X.env := by rfl) : PXs X (e :: es) (f :: fs) :=
  PA.imp (pa_cons ha hr hs) fun σ H Q h => by
    obtain ⟨B, Gb, G, env, W, ds, W', S, e, c⟩ := h
    rw [cArgs, Option.bind_eq_some_iff] at e
    obtain ⟨⟨d1, k1, W1⟩, e1, e2⟩ := e
    rw [Option.map_eq_some_iff] at e2
    obtain ⟨⟨ds', W2⟩, e2, e3⟩ := e2
    cases e3
    refine ⟨B, Gb, G, env, W, d1, k1, W1, S, e1, fun v G1 H1 s1 S1 h1 => ?_⟩
    refine ⟨prot H1 v k1 B, Gb, G1, env, W1, ds', W2, S1.prot h1, e2, fun vs G2 H2 s2 S2 p2 => ?_⟩
    refine c (v :: vs) G2 H2 (s1.trans s2) (S2.unprot (prot_same h1)) ⟨VOk.kept S1 h1 s2 S2, fun ek q hq eq => ?_, p2.map fun v' d' k' a _ => VOk.base (prot_same h1) a⟩
    have : ∀ (vs : List V) (ds : List Dk), Pend X.K (prot H1 v k1 B) G2 H2 σ env vs ds → ∀ q ∈ vs.zip (ds.map (·.2)), q.2 = Kd.fr → q.1 ≠ v := by
      intro vs
      induction vs with
      | nil => intro ds p q hq; simp at hq
      | cons a vs ih =>
        intro ds p q hq eq
        cases ds with
        | nil => exact p.elim
        | cons t ds =>
          obtain ⟨p1, _, p3⟩ := p
          simp only [List.map_cons, List.zip_cons_cons, List.mem_cons] at hq
          rcases hq with rfl | hq
          · exact VOk.apart rfl h1 p1 ek eq
          · exact ih ds p3 q hq eq
    exact this vs ds' p2 q hq eq
end
end PX

namespace PX
open PySem PySem.Spec PyProof.Rows L2

section
variable {K : PySem.W.Frag} {op : Op} {x y z : V} {H : Hp} {Q : VK}
theorem rV.one (h : rV K op [x] H Q) : ∃ B Gb G σ env W d1 k1 d k, Sta K B Gb G H σ env W ∧ VOk K B G H σ env x d1 k1 ∧ op [(d1, k1)] = some (d, k) ∧ Cont K B Gb G σ env W d k Q := by
  obtain ⟨B, Gb, G, σ, env, W, ds, d, k, S, p, e, c⟩ := h
  match ds, p with
  | [t], p => exact ⟨B, Gb, G, σ, env, W, t.1, t.2, d, k, S, p.1, e, c⟩
theorem rV.two (h : rV K op [x, y] H Q) : ∃ B Gb G σ env W d1 k1 d2 k2 d k, Sta K B Gb G H σ env W ∧ VOk K B G H σ env x d1 k1 ∧ VOk K B G H σ env y d2 k2 ∧ (k1 = .fr → k2 = .fr → y ≠ x) ∧ op [(d1, k1), (d2, k2)] = some (d, k) ∧ Cont K B Gb G σ env W d k Q := by
  obtain ⟨B, Gb, G, σ, env, W, ds, d, k, S, p, e, c⟩ := h
  match ds, p with
  | [t, u], p => exact ⟨B, Gb, G, σ, env, W, t.1, t.2, u.1, u.2, d, k, S, p.1, p.2.2.1, fun e1 e2 => p.2.1 e1 (y, u.2) (by simp) e2, e, c⟩
theorem rV.three (h : rV K op [x, y, z] H Q) : ∃ B Gb G σ env W d1 k1 d2 k2 d3 k3 d k, Sta K B Gb G H σ env W ∧ VOk K B G H σ env x d1 k1 ∧ VOk K B G H σ env y d2 k2 ∧ VOk K B G H σ env z d3 k3 ∧
    op [(d1, k1), (d2, k2), (d3, k3)] = some (d, k) ∧ Cont K B Gb G σ env W d k Q := by
  obtain ⟨B, Gb, G, σ, env, W, ds, d, k, S, p, e, c⟩ := h
  match ds, p with
  | [t, u, r], p => exact ⟨B, Gb, G, σ, env, W, t.1, t.2, u.1, u.2, r.1, r.2, d, k, S, p.1, p.2.2.1, p.2.2.2.2.1, e, c⟩
end

set_option maxHeartbeats 4000000 in
theorem tuple_mul1 (l : Addr) (items : Array Value) (n : Nat) (dd : Option Addr) (sl : Array (Option Value)) (x : Int) (u : Tok) (c0 : (decide (x < -(2 ^ 63)) || decide (x ≥ 2 ^ 63)) = false) (c1 : (items.isEmpty || x == 1) = true) :
    Meets (Builtin.«tuple.__mul__» ⟨[.ref l, .int x u], []⟩) (fun _ R s => s.heap.get? l = some { cls := .type "tuple", dict := dd, data := .seq items n, slots := sl } ∧
      R (.ok (.ret (Value.ref l))) s) :=
  .of_wp fun prog w A R s h => by
    obtain ⟨hp, g, d, tk, os⟩ := s
    obtain ⟨hl, h⟩ := h
    have f1 := AutoSeq1.idx_int
    wp_walk using wpAny_loadPart' hl
    refine wpAny_ite_false (decide_eq_false (by rw [c0]; exact Bool.false_ne_true)) ?_
    wp_walk using wpAny_loadPart' hl
    exact ⟨_, rfl, h⟩
set_option maxHeartbeats 4000000 in
theorem tuple_mul0 (l : Addr) (items : Array Value) (n : Nat) (dd : Option Addr) (sl : Array (Option Value)) (x : Int) (u : Tok) (c0 : (decide (x < -(2 ^ 63)) || decide (x ≥ 2 ^ 63)) = false) (c1 : (items.isEmpty || x == 1) = false) (c2 : (decide (x ≤ 0) || items.isEmpty) = true) :
    Meets (Builtin.«tuple.__mul__» ⟨[.ref l, .int x u], []⟩) (fun _ R s => s.heap.get? l = some { cls := .type "tuple", dict := dd, data := .seq items n, slots := sl } ∧
      R (.ok (.ret (Value.ref s.heap.objs.size))) { s with heap := s.heap.push { cls := Value.type "tuple", data := Data.seq #[] }, toks := s.toks }) :=
  .of_wp fun prog w A R s h => by
    obtain ⟨hp, g, d, tk, os⟩ := s
    obtain ⟨hl, h⟩ := h
    have f1 := AutoSeq1.idx_int
    wp_walk using wpAny_loadPart' hl
    repeat (first
      | (refine wpAny_ite_false (decide_eq_false (by rw [c0]; exact Bool.false_ne_true)) ?_; wp_walk using wpAny_loadPart' hl)
      | (refine wpAny_ite_false (decide_eq_false (by rw [c1]; exact Bool.false_ne_true)) ?_; wp_walk using wpAny_loadPart' hl)
      | (refine wpAny_ite_true (decide_eq_true c2) ?_; wp_walk using wpAny_loadPart' hl))
    exact ⟨_, rfl, h⟩
def rRepT1 (K : PySem.W.Frag) : R2 := fun x y H Q => ∃ l xs, x = .ref l ∧ y = .int 1 ∧ SqT K H l xs ∧ Q (.ref l) H
def rRepT0 (K : PySem.W.Frag) : R2 := fun x y H Q => ∃ l k xs, x = .ref l ∧ y = .int k ∧ SqT K H l xs ∧ xs ≠ [] ∧ -1000 ≤ k ∧ k ≤ 0 ∧ ∀ p, H p = none → Q (.ref p) (upd H p (.tup []))
section
variable {X : Cx}
theorem op_repT1 : OpR X (binaryOp .Mult) (rRepT1 X.K) := by
  intro pins s σ H x y v u Q I rx ry h
  obtain ⟨l, xs, rfl, rfl, hT, q⟩ := h
  cases rx
  obtain ⟨t, rfl⟩ := ry
  obtain ⟨its, r, ⟨⟨cls, dd, data, sl⟩, ho, hc, n, hd⟩, hs⟩ := I.tuple hT
  simp only at hc hd
  subst hc hd
  have c0 : (decide ((1 : Int) < -(2 ^ 63)) || decide ((1 : Int) ≥ 2 ^ 63)) = false := by
    rw [decide_eq_false (by omega), decide_eq_false (by omega)] <;> rfl
  have c1 : (its.toArray.isEmpty || (1 : Int) == 1) = true := by
    rw [Bool.or_eq_true]
    exact .inr rfl
  exact wpAny_binaryOp_repeat_ref (T := "tuple") (U := "int") (by decide) ⟨_, ho, rfl⟩ (fun s' => typeIs_int s' 1 t) noFill_tuple_mul F.fills_int_mul F.slot_int_rmul repeat_tuple F.slot_int_index.lookup
    (call_meets F.slot_int_rmul (typeIs_int s 1 t) F.entry_int_rmul (F.args_int_rmul_2 _ _) (int_rmul_tuple 1 t l its.toArray n dd sl)
      ⟨ho, rfl, ⟨_, ho, rfl⟩, call_meets F.slot_tuple_mul ⟨_, ho, rfl⟩ F.entry_tuple_mul (F.args_tuple_mul_2 _ _) (tuple_mul1 l its.toArray n dd sl 1 t c0 c1) ⟨ho, ⟨.ref l, _, I, rfl, q⟩⟩⟩)
theorem op_repT0 : OpR X (binaryOp .Mult) (rRepT0 X.K) := by
  intro pins s σ H x y v u Q I rx ry h
  obtain ⟨l, k, xs, rfl, rfl, hT, hne, h1, h2, q⟩ := h
  cases rx
  obtain ⟨t, rfl⟩ := ry
  obtain ⟨its, r, ⟨⟨cls, dd, data, sl⟩, ho, hc, n, hd⟩, hs⟩ := I.tuple hT
  simp only at hc hd
  subst hc hd
  have hle : its.length = xs.length := r.length.symm
  have hn : its ≠ [] := fun e => hne (by
    rw [e] at hle
    exact List.eq_nil_of_length_eq_zero hle.symm)
  have hi : its.toArray.isEmpty = false := by
    cases its with
    | nil => exact absurd rfl hn
    | cons a b => rfl
  have c0 : (decide (k < -(2 ^ 63)) || decide (k ≥ 2 ^ 63)) = false := by
    rw [decide_eq_false (by omega), decide_eq_false (by omega)] <;> rfl
  have c1 : (its.toArray.isEmpty || k == 1) = false := by
    rw [hi, Bool.false_or]
    exact beq_eq_false_iff_ne.mpr (by omega)
  have c2 : (decide (k ≤ 0) || its.toArray.isEmpty) = true := by
    rw [decide_eq_true h2]; rfl
  refine wpAny_binaryOp_repeat_ref (T := "tuple") (U := "int") (by decide) ⟨_, ho, rfl⟩ (fun s' => typeIs_int s' k t) noFill_tuple_mul F.fills_int_mul F.slot_int_rmul repeat_tuple F.slot_int_index.lookup
    (call_meets F.slot_int_rmul (typeIs_int s k t) F.entry_int_rmul (F.args_int_rmul_2 _ _) (int_rmul_tuple k t l its.toArray n dd sl)
      ⟨ho, rfl, ⟨_, ho, rfl⟩, call_meets F.slot_tuple_mul ⟨_, ho, rfl⟩ F.entry_tuple_mul (F.args_tuple_mul_2 _ _) (tuple_mul0 l its.toArray n dd sl k t c0 c1 c2) ⟨ho, ?_⟩⟩)
  refine ⟨.ref s.heap.objs.size, _, I.laid (t' := s.toks) (o := .tup []) (fun b ob q => Heap.get?_push_of_some _ q) (Nat.le_refl _) ?_, rfl, q _ (I.hok.fresh (Nat.le_refl _))⟩
  exact ⟨by rw [sizeLine_eq]; exact Nat.zero_le _, _, .nil, IsTup.new _ _⟩
end
/-! ### arithmetic -/
def oAdd : Op
  | [(.int a, _), (.int b, _)] => some (.int (a + b), .im)
  | [(.str a, _), (.str b, _)] => if a.length + b.length ≤ 16777216 then some (.str (a ++ b), .im) else none
  | [(.tuple a, _), (.tuple b, _)] => if a.length + b.length ≤ 16777216 then some (.tuple (a ++ b), .im) else none
  | [(.list a, _), (.list b, _)] => if a.length + b.length ≤ 16777216 then some (.list (a ++ b), .fr) else none
  | _ => none
def oSub : Op
  | [(.int a, _), (.int b, _)] => some (.int (a - b), .im)
  | _ => none
def mulOk (a b : Int) : Bool := decide (a.natAbs < 18446744073709551616) || decide (b.natAbs < 18446744073709551616)
def rep (n : Nat) (xs : List PyData) : List PyData := (List.replicate n xs).flatten
def oMul : Op
  | [(.int a, _), (.int b, _)] => if mulOk a b then some (.int (a * b), .im) else none
  | [(.list a, _), (.int b, _)] => if -1000 ≤ b ∧ b ≤ 1000 ∧ a.length ≤ 1000 then some (.list (rep b.toNat a), .fr) else none
  | [(.tuple a, _), (.int b, _)] => if -1000 ≤ b ∧ b ≤ 1000 ∧ a.length ≤ 1000 ∧ a ≠ [] then some (.tuple (rep b.toNat a), .im) else none
  | _ => none
def oDiv : Op
  | [(.int a, _), (.int b, _)] => if b ≠ 0 ∧ b.natAbs < 1073741824 then some (.int (a.fdiv b), .im) else none
  | _ => none
def oMod : Op
  | [(.int a, _), (.int b, _)] => if b ≠ 0 then some (.int (a.fmod b), .im) else none
  | _ => none
def oPow : Op
  | [(.int a, _), (.int b, _)] => if 0 ≤ b ∧ b ≤ 1000000 ∧ a.natAbs < 18446744073709551616 then some (.int (a ^ b.toNat), .im) else none
  | _ => none
def oNeg : Op
  | [(.int a, _)] => some (.int (-a), .im)
  | _ => none
def oLt : Op
  | [(.int a, _), (.int b, _)] => some (.bool (decide (a < b)), .im)
  | _ => none
def oLe : Op
  | [(.int a, _), (.int b, _)] => some (.bool (decide (a ≤ b)), .im)
  | _ => none
def oGt : Op
  | [(.int a, _), (.int b, _)] => some (.bool (decide (b < a)), .im)
  | _ => none
def oGe : Op
  | [(.int a, _), (.int b, _)] => some (.bool (decide (b ≤ a)), .im)
  | _ => none
def flat (d : PyData) : Bool := noD d && decide (d.depth ≤ 60)
def oEq : Op
  | [(a, _), (b, _)] => if flat a && flat b then some (.bool (PyData.eqv a b), .im) else none
  | _ => none
def oNe : Op
  | [(a, _), (b, _)] => if flat a && flat b then some (.bool (!PyData.eqv a b), .im) else none
  | _ => none
def isNon : PyData → Bool
  | .none => true
  | _ => false
def oIs : Op
  | [(a, _), (.none, _)] => some (.bool (isNon a), .im)
  | [(.bool a, _), (.bool b, _)] => some (.bool (decide (a = b)), .im)
  | _ => none
def oIsNot : Op
  | [(a, _), (.none, _)] => some (.bool (!isNon a), .im)
  | [(.bool a, _), (.bool b, _)] => some (.bool (!decide (a = b)), .im)
  | _ => none

theorem RpL.rep {K : PySem.W.Frag} {G : Hp} {xs : List V} {ds : List PyData} (h : RpL K G xs ds) : ∀ n : Nat, RpL K G (List.replicate n xs).flatten (PX.rep n ds)
  | 0 => .nil
  | n + 1 => by
    unfold PX.rep
    rw [List.replicate_succ, List.replicate_succ, List.flatten_cons, List.flatten_cons]
    exact h.append (RpL.rep h n)
theorem strOk_app {a b : Str} (h1 : PyData.strOk a = true) (h2 : PyData.strOk b = true) : PyData.strOk (a ++ b) = true := by
  unfold PyData.strOk at *
  show (a.cps ++ b.cps).all _ = true
  rw [Array.all_append, h1, h2]
  rfl
theorem CMul_of {a b : Int} (h : mulOk a b = true) : CMul a b := by
  unfold mulOk at h
  rw [Bool.or_eq_true, decide_eq_true_eq, decide_eq_true_eq] at h
  unfold CMul
  omega

section
variable {X : Cx}
theorem so_add : OpR X (binaryOp .Add) (fun x y => rV X.K oAdd [x, y]) := by
  intro pins s σ H x y v u Q I rx ry h
  obtain ⟨B, Gb, G, σ1, env, W, d1, k1, d2, k2, d, k, S, h1, h2, ap, e, c⟩ := rV.two h
  unfold oAdd at e
  split at e
  · rename_i q
    cases q
    cases e
    obtain rfl := h1.int S
    obtain rfl := h2.int S
    exact op_add pins s σ H _ _ v u Q I rx ry ⟨_, _, rfl, rfl, c.int S⟩
  · rename_i q
    cases q
    split at e
    · cases e
      obtain rfl := h1.str S
      obtain rfl := h2.str S
      exact op_add_str pins s σ H _ _ v u Q I rx ry ⟨_, _, rfl, rfl, by rw [sizeLine_eq]; assumption, c.str S (strOk_app (h1.strOk S) (h2.strOk S))⟩
    · cases e
  · rename_i q
    cases q
    split at e
    · cases e
      obtain ⟨p, xs, rfl, hx, r1⟩ := h1.tuple S
      obtain ⟨p2, ys, rfl, hy, r2⟩ := h2.tuple S
      refine op_catA pins s σ H _ _ v u Q I rx ry ⟨_, _, xs, ys, rfl, rfl, (Sub.of S.sg).sqT hx.sqT, (Sub.of S.sg).sqT hy.sqT, by rw [sizeLine_eq, r1.length, r2.length]; assumption, fun z => ?_, fun _ z => ?_, fun _ _ p hp => c.tup S hp (r1.append r2)⟩
      · subst z
        cases r1
        exact c.im S (.tup hy r2)
      · subst z
        cases r2
        exact c.im S (by rw [List.append_nil]; exact .tup hx r1)
    · cases e
  · rename_i q
    cases q
    split at e
    · cases e
      obtain ⟨p, xs, rfl, hx, r1⟩ := h1.list S
      obtain ⟨p2, ys, rfl, hy, r2⟩ := h2.list S
      exact op_cat pins s σ H _ _ v u Q I rx ry ⟨_, _, xs, ys, rfl, rfl, hx, hy, by rw [sizeLine_eq, r1.length, r2.length]; assumption, fun p hp => c.fr S hp (r1.append r2)⟩
    · cases e
  · cases e
theorem so_sub : OpR X (binaryOp .Sub) (fun x y => rV X.K oSub [x, y]) := by
  intro pins s σ H x y v u Q I rx ry h
  obtain ⟨B, Gb, G, σ1, env, W, d1, k1, d2, k2, d, k, S, h1, h2, ap, e, c⟩ := rV.two h
  unfold oSub at e
  split at e
  · rename_i q
    cases q
    cases e
    obtain rfl := h1.int S
    obtain rfl := h2.int S
    exact op_sub pins s σ H _ _ v u Q I rx ry ⟨_, _, rfl, rfl, c.int S⟩
  · cases e
theorem so_mul : OpR X (binaryOp .Mult) (fun x y => rV X.K oMul [x, y]) := by
  intro pins s σ H x y v u Q I rx ry h
  obtain ⟨B, Gb, G, σ1, env, W, d1, k1, d2, k2, d, k, S, h1, h2, ap, e, c⟩ := rV.two h
  unfold oMul at e
  split at e
  · rename_i q
    cases q
    split at e
    · rename_i hm
      cases e
      obtain rfl := h1.int S
      obtain rfl := h2.int S
      exact op_mul pins s σ H _ _ v u Q I rx ry ⟨_, _, rfl, rfl, CMul_of hm, c.int S⟩
    · cases e
  · rename_i q
    cases q
    split at e
    · rename_i hm
      cases e
      obtain ⟨p, xs, rfl, hx, r1⟩ := h1.list S
      obtain rfl := h2.int S
      refine op_rep pins s σ H _ _ v u Q I rx ry ⟨_, _, xs, rfl, rfl, hx, by omega, by omega, ?_, fun p hp => c.fr S hp (r1.rep _)⟩
      rw [sizeLine_eq, r1.length]
      exact Nat.le_trans (Nat.mul_le_mul hm.2.2 (show _ ≤ 1000 by omega)) (by decide)
    · cases e
  · rename_i q
    cases q
    split at e
    · rename_i hm
      cases e
      obtain ⟨p, xs, rfl, hx, r1⟩ := h1.tuple S
      obtain rfl := h2.int S
      have hxn : xs ≠ [] := fun z => hm.2.2.2 (by
        subst z
        cases r1
        rfl)
      rename_i b0
      rcases Int.lt_trichotomy b0 1 with hb | hb | hb
      · refine op_repT0 pins s σ H _ _ v u Q I rx ry ⟨_, _, xs, rfl, rfl, (Sub.of S.sg).sqT hx.sqT, hxn, hm.1, by omega, fun p hp => ?_⟩
        have e0 : b0.toNat = 0 := by omega
        have := c.tup S hp (r1.rep b0.toNat)
        rw [e0] at this
        exact this
      · subst hb
        refine op_repT1 pins s σ H _ _ v u Q I rx ry ⟨_, xs, rfl, rfl, (Sub.of S.sg).sqT hx.sqT, c.im S ?_⟩
        have e1 : ∀ (zs : List PyData), rep (1 : Int).toNat zs = zs := fun zs => by
          show (List.replicate 1 zs).flatten = zs
          simp
        rw [e1]
        exact .tup hx r1
      · exact op_repT pins s σ H _ _ v u Q I rx ry ⟨_, _, xs, rfl, rfl, (Sub.of S.sg).sqT hx.sqT, hxn, by omega, hm.2.1, by rw [r1.length]; exact hm.2.2.1, fun p hp => c.tup S hp (r1.rep _)⟩
    · cases e
  · cases e
theorem so_div : OpR X (binaryOp .FloorDiv) (fun x y => rV X.K oDiv [x, y]) := by
  intro pins s σ H x y v u Q I rx ry h
  obtain ⟨B, Gb, G, σ1, env, W, d1, k1, d2, k2, d, k, S, h1, h2, ap, e, c⟩ := rV.two h
  unfold oDiv at e
  split at e
  · rename_i q
    cases q
    split at e
    · cases e
      obtain rfl := h1.int S
      obtain rfl := h2.int S
      exact op_fdivN pins s σ H _ _ v u Q I rx ry ⟨_, _, rfl, rfl, by assumption, c.int S⟩
    · cases e
  · cases e
theorem so_mod : OpR X (binaryOp .Mod) (fun x y => rV X.K oMod [x, y]) := by
  intro pins s σ H x y v u Q I rx ry h
  obtain ⟨B, Gb, G, σ1, env, W, d1, k1, d2, k2, d, k, S, h1, h2, ap, e, c⟩ := rV.two h
  unfold oMod at e
  split at e
  · rename_i q
    cases q
    split at e
    · cases e
      obtain rfl := h1.int S
      obtain rfl := h2.int S
      exact op_modN pins s σ H _ _ v u Q I rx ry ⟨_, _, rfl, rfl, by assumption, c.int S⟩
    · cases e
  · cases e
theorem so_pow : OpR X (binaryOp .Pow) (fun x y => rV X.K oPow [x, y]) := by
  intro pins s σ H x y v u Q I rx ry h
  obtain ⟨B, Gb, G, σ1, env, W, d1, k1, d2, k2, d, k, S, h1, h2, ap, e, c⟩ := rV.two h
  unfold oPow at e
  split at e
  · rename_i q
    cases q
    split at e
    · cases e
      obtain rfl := h1.int S
      obtain rfl := h2.int S
      exact op_pow pins s σ H _ _ v u Q I rx ry ⟨_, _, rfl, rfl, by unfold CPow; omega, c.int S⟩
    · cases e
  · cases e
theorem so_neg : UnR X (unaryOp .USub) (fun x => rV X.K oNeg [x]) := by
  intro pins s σ H x v Q I rx h
  obtain ⟨B, Gb, G, σ1, env, W, d1, k1, d, k, S, h1, e, c⟩ := rV.one h
  unfold oNeg at e
  split at e
  · rename_i q
    cases q
    cases e
    obtain rfl := h1.int S
    exact un_neg pins s σ H _ v Q I rx ⟨_, rfl, c.int S⟩
  · cases e
theorem so_lt : OpR X (compareOp .Lt) (fun x y => rV X.K oLt [x, y]) := by
  intro pins s σ H x y v u Q I rx ry h
  obtain ⟨B, Gb, G, σ1, env, W, d1, k1, d2, k2, d, k, S, h1, h2, ap, e, c⟩ := rV.two h
  unfold oLt at e
  split at e
  · rename_i q
    cases q
    cases e
    obtain rfl := h1.int S
    obtain rfl := h2.int S
    exact op_lt pins s σ H _ _ v u Q I rx ry ⟨_, _, rfl, rfl, c.bool S⟩
  · cases e
theorem so_le : OpR X (compareOp .LtE) (fun x y => rV X.K oLe [x, y]) := by
  intro pins s σ H x y v u Q I rx ry h
  obtain ⟨B, Gb, G, σ1, env, W, d1, k1, d2, k2, d, k, S, h1, h2, ap, e, c⟩ := rV.two h
  unfold oLe at e
  split at e
  · rename_i q
    cases q
    cases e
    obtain rfl := h1.int S
    obtain rfl := h2.int S
    exact op_le pins s σ H _ _ v u Q I rx ry ⟨_, _, rfl, rfl, c.bool S⟩
  · cases e
theorem so_gt : OpR X (compareOp .Gt) (fun x y => rV X.K oGt [x, y]) := by
  intro pins s σ H x y v u Q I rx ry h
  obtain ⟨B, Gb, G, σ1, env, W, d1, k1, d2, k2, d, k, S, h1, h2, ap, e, c⟩ := rV.two h
  unfold oGt at e
  split at e
  · rename_i q
    cases q
    cases e
    obtain rfl := h1.int S
    obtain rfl := h2.int S
    exact op_gt pins s σ H _ _ v u Q I rx ry ⟨_, _, rfl, rfl, c.bool S⟩
  · cases e
theorem so_ge : OpR X (compareOp .GtE) (fun x y => rV X.K oGe [x, y]) := by
  intro pins s σ H x y v u Q I rx ry h
  obtain ⟨B, Gb, G, σ1, env, W, d1, k1, d2, k2, d, k, S, h1, h2, ap, e, c⟩ := rV.two h
  unfold oGe at e
  split at e
  · rename_i q
    cases q
    cases e
    obtain rfl := h1.int S
    obtain rfl := h2.int S
    exact op_ge pins s σ H _ _ v u Q I rx ry ⟨_, _, rfl, rfl, c.bool S⟩
  · cases e
theorem flat_shaped {K : PySem.W.Frag} {H : Hp} {v : V} {d : PyData} (h : Rp K H v d) (f : flat d = true) : Dp K H v d ∧ SeqAt.shaped d = true := by
  unfold flat at f
  rw [Bool.and_eq_true, decide_eq_true_eq] at f
  have q := h.dp f.1
  refine ⟨q.1, ?_⟩
  unfold SeqAt.shaped
  rw [q.2, Bool.true_and, decide_eq_true_eq]
  omega
theorem so_eq (hu : X.A.units + 64 < cLine) : OpR X (compareOp .Eq) (fun x y => rV X.K oEq [x, y]) := by
  intro pins s σ H x y v u Q I rx ry h
  obtain ⟨B, Gb, G, σ1, env, W, d1, k1, d2, k2, d, k, S, h1, h2, ap, e, c⟩ := rV.two h
  simp only [oEq] at e
  split at e
  · rename_i f
    cases e
    rw [Bool.and_eq_true] at f
    have q1 := flat_shaped (h1.rp S) f.1
    have q2 := flat_shaped (h2.rp S) f.2
    exact op_eqD hu pins s σ H x y v u Q I rx ry ⟨_, _, q1.1, q2.1, q1.2, q2.2, c.bool S⟩
  · cases e
theorem so_ne (hu : X.A.units + 64 < cLine) : OpR X (compareOp .NotEq) (fun x y => rV X.K oNe [x, y]) := by
  intro pins s σ H x y v u Q I rx ry h
  obtain ⟨B, Gb, G, σ1, env, W, d1, k1, d2, k2, d, k, S, h1, h2, ap, e, c⟩ := rV.two h
  simp only [oNe] at e
  split at e
  · rename_i f
    cases e
    rw [Bool.and_eq_true] at f
    have q1 := flat_shaped (h1.rp S) f.1
    have q2 := flat_shaped (h2.rp S) f.2
    exact op_neD hu pins s σ H x y v u Q I rx ry ⟨_, _, q1.1, q2.1, q1.2, q2.2, c.bool S⟩
  · cases e
theorem VOk.isNon {K : PySem.W.Frag} {B Gb G H : Hp} {σ : L2.St} {env : SEnv} {W : List Int} {v : V} {d : PyData} {k : Kd} (S : Sta K B Gb G H σ env W) (h : VOk K B G H σ env v d k) : decide (v = .non) = PX.isNon d := by
  have r := h.rp S
  cases r <;> simp [PX.isNon]
theorem so_is : OpR X (compareOp .Is) (fun x y => rV X.K oIs [x, y]) := by
  intro pins s σ H x y v u Q I rx ry h
  obtain ⟨B, Gb, G, σ1, env, W, d1, k1, d2, k2, d, k, S, h1, h2, ap, e, c⟩ := rV.two h
  unfold oIs at e
  split at e
  · rename_i q
    cases q
    cases e
    obtain rfl := h2.none S
    exact op_isN pins s σ H _ _ v u Q I rx ry ⟨rfl, by rw [h1.isNon S]; exact c.bool S⟩
  · rename_i q
    cases q
    cases e
    obtain rfl := h1.bool S
    obtain rfl := h2.bool S
    exact op_is_bl pins s σ H _ _ v u Q I rx ry ⟨_, _, rfl, rfl, c.bool S⟩
  · cases e
theorem so_isNot : OpR X (compareOp .IsNot) (fun x y => rV X.K oIsNot [x, y]) := by
  intro pins s σ H x y v u Q I rx ry h
  obtain ⟨B, Gb, G, σ1, env, W, d1, k1, d2, k2, d, k, S, h1, h2, ap, e, c⟩ := rV.two h
  unfold oIsNot at e
  split at e
  · rename_i q
    cases q
    cases e
    obtain rfl := h2.none S
    exact op_notN pins s σ H _ _ v u Q I rx ry ⟨rfl, by rw [h1.isNon S]; exact c.bool S⟩
  · rename_i q
    cases q
    cases e
    obtain rfl := h1.bool S
    obtain rfl := h2.bool S
    exact op_isnot_bl pins s σ H _ _ v u Q I rx ry ⟨_, _, rfl, rfl, c.bool S⟩
  · cases e
end
end PX

namespace PX
open PySem PySem.Spec PyProof.Rows L2

/-! ### what a builtin collects -/
def Coll (X : Cx) (s : Shared) (v : Value) (xs : List V) : Prop := ∀ (A : Around) (E' : Value → Shared → Prop) (Q' : List Value → Shared → Prop), A.handled = none →
  (∀ h' tk us, (∀ b o, s.heap.get? b = some o → h'.get? b = some o) → Vals xs us → Q' us { s with heap := h', toks := tk }) → wpAny (model X.prog X.w) A (collect v) Q' E' s
section
variable {X : Cx} {pins : List (Addr × Obj)} {σ : L2.St} {H : Hp} {s : Shared} {a : Addr} {xs : List V}
theorem coll_list (I : Inv X pins σ H s) (h : SqL X.K H a xs) : Coll X s (.ref a) xs := by
  intro A E' Q' hh hQ
  obtain ⟨its, r, ⟨o, n, ho, hc, hd, hdt⟩, hz⟩ := I.list h
  refine wpAny_collect_seq a (.inl rfl) ho hc hdt (fun h' hk => ?_) (by rw [List.size_toArray, ← r.length]; exact hz)
  exact hQ h' s.toks _ hk (by simpa using r)
theorem coll_tup (I : Inv X pins σ H s) (h : SqT X.K H a xs) : Coll X s (.ref a) xs := by
  intro A E' Q' hh hQ
  obtain ⟨its, r, ⟨o, ho, hc, n, hdt⟩, hz⟩ := I.tuple h
  refine wpAny_collect_seq a (.inr rfl) ho hc hdt (fun h' hk => ?_) (by rw [List.size_toArray, ← r.length]; exact hz)
  exact hQ h' s.toks _ hk (by simpa using r)
theorem coll_dK (I : Inv X pins σ H s) {kvs : List (Key × V)} (h : Rd H a (.dK kvs)) : Coll X s (.ref a) (kvs.map fun p => kV p.1) := by
  intro A E' Q' hh hQ
  obtain ⟨z, lo, vs, rel, dd⟩ := dk_rd I.hok h
  obtain ⟨ep, hat⟩ := dd.dictAt
  refine PySem.W.kdu_collect (PySem.W.kdl_dict (knd := mixKind X.prog X.w) (kvs := vs) (ep := ep) lo) hh hat (by rw [← rel.length]; exact z) fun h' tk acc hk hacc => ?_
  refine hQ h' tk _ hk ?_
  have e : (kvs.map fun p => kV p.1) = vs.map fun p => kV p.1 := by
    have := rel.keys
    have h2 := congrArg (List.map kV) this
    rw [List.map_map, List.map_map] at h2
    exact h2
  rw [e]
  refine keys_at (by rw [Array.length_toList, hacc.1]) fun j v ej => ?_
  obtain ⟨k, x, e1, e2⟩ := hacc.2 j v (by rw [← Array.getElem?_toList]; exact ej)
  exact ⟨k, x, e1, e2⟩

/-! ### sorted -/
def sortD (ds : List PyData) : List PyData := ds.mergeSort (PySem.W.dataLe false id)
def alikeB (ds : List PyData) : Bool := ds.all fun d => ds.all fun e => PySem.W.alike d e
def tupNe : PyData → Bool
  | .tuple (_ :: _) => true
  | _ => false
def notTup : PyData → Bool
  | .none => false
  | .tuple _ => false
  | _ => true
def sortB (ds : List PyData) : Bool := ds.all flat && (alikeB ds && (ds.all tupNe || ds.all notTup))
theorem alike_of {ds : List PyData} (h : alikeB ds = true) : PySem.W.AllAlike ds := fun d hd e he => by
  unfold alikeB at h
  rw [List.all_eq_true] at h
  have := h d hd
  rw [List.all_eq_true] at this
  exact this e he
theorem sortable_of {ds : List PyData} (h : (ds.all tupNe || ds.all notTup) = true) : PySem.W.Sortable ds := by
  rw [Bool.or_eq_true, List.all_eq_true, List.all_eq_true] at h
  rcases h with h | h
  · left
    intro d hd
    have := h d hd
    unfold tupNe at this
    split at this
    · exact ⟨_, _, rfl⟩
    · exact absurd this Bool.false_ne_true
  · right
    intro d hd
    have := h d hd
    unfold notTup at this
    split at this
    · exact absurd this Bool.false_ne_true
    · exact absurd this Bool.false_ne_true
    · rename_i h1 h2
      exact ⟨h1, h2⟩
theorem flat_noD {d : PyData} (h : flat d = true) : noD d = true := by
  unfold flat at h
  rw [Bool.and_eq_true] at h
  exact h.1
theorem flat_depth {d : PyData} (h : flat d = true) : d.depth ≤ 60 := by
  unfold flat at h
  rw [Bool.and_eq_true, decide_eq_true_eq] at h
  exact h.2
theorem flat_all {ds : List PyData} (h : ds.all flat = true) : noDs ds = true := by
  induction ds with
  | nil => rfl
  | cons d ds ih =>
    rw [List.all_cons, Bool.and_eq_true] at h
    rw [noDs, flat_noD h.1, ih h.2]
    rfl
theorem RpL.zip {K : PySem.W.Frag} {G : Hp} : ∀ {xs : List V} {ds : List PyData}, RpL K G xs ds → ∀ p ∈ xs.zip ds, Rp K G p.1 p.2
  | _, _, .nil, p, hp => by simp at hp
  | _, _, .cons a b, p, hp => by
    rw [List.zip_cons_cons, List.mem_cons] at hp
    rcases hp with rfl | hp
    · exact a
    · exact RpL.zip b p hp
theorem RpL.of_zip {K : PySem.W.Frag} {G : Hp} : ∀ (bs : List (V × PyData)), (∀ p ∈ bs, Rp K G p.1 p.2) → RpL K G (bs.map (·.1)) (bs.map (·.2))
  | [], _ => .nil
  | b :: bs, h => .cons (h b List.mem_cons_self) (RpL.of_zip bs fun p hp => h p (List.mem_cons_of_mem _ hp))
theorem each_vals : ∀ {us : List Value} {bs : List (V × PyData)}, PySem.W.EachIs (fun v b => RelV b.1 v) us bs → Vals (bs.map (·.1)) us
  | _, _, .nil => .nil
  | _, _, .cons a b => .cons a (each_vals b)
theorem vals_each : ∀ {us : List Value} {bs : List (V × PyData)}, Vals (bs.map (·.1)) us → PySem.W.EachIs (fun v b => RelV b.1 v) us bs
  | _, [], r => by cases r; exact .nil
  | _, b :: bs, r => by
    rw [List.map_cons] at r
    cases r with
    | cons a t => exact .cons a (vals_each t)
theorem reads_each {h : Heap} : ∀ {us : List Value} {bs : List (V × PyData)} {as : List Addr}, ReadsAll h us (bs.map (·.2)) as → PySem.W.EachIs (fun v b => ∃ as, Reads h v b.2 as) us bs
  | _, [], _, r => by cases r; exact .nil
  | _, b :: bs, _, r => by
    rw [List.map_cons] at r
    cases r with
    | cons a t => exact .cons ⟨_, a⟩ (reads_each t)

theorem sorted_run (I : Inv X pins σ H s) (hc : X.calm = true) (hu : X.A.units + 200 < cLine) {v : Value} {ds : List PyData} {Q : VK} (hx : Coll X s v xs) (hr : RpL X.K H xs ds) (hb : sortB ds = true) (hl : xs.length ≤ sizeLine)
    (hq : ∀ p ys, H p = none → (∀ K G, RpL K G xs ds → RpL K G ys (sortD ds)) → Q (.ref p) (upd H p (.lst ys))) : wpAny (model X.prog X.w) X.A (call (.builtin "sorted") [v]) (EP X pins σ Q) X.xe s := by
  unfold sortB at hb
  rw [Bool.and_eq_true, Bool.and_eq_true] at hb
  obtain ⟨b1, b2, b3⟩ := hb
  have hnd := flat_all b1
  have hlen : xs.length = ds.length := hr.length
  have m1 : (xs.zip ds).map (·.1) = xs := List.map_fst_zip (by omega)
  have m2 : (xs.zip ds).map (·.2) = ds := List.map_snd_zip (by omega)
  refine Calls.call_function_entry PyProof.Rows.kind_sorted PyProof.Rows.plain_sorted PyProof.Rows.entry_sorted (PyProof.Rows.args_sorted1 _) ?_
  unfold Builtin.«sorted»
  refine wpAny_bind (m := checkCount "sorted" 1 1 _) (wpAny_pure ?_)
  refine wpAny_bind (hx _ _ _ (I.ok.hd hc) fun h' tk us hk hv => ?_)
  have I1 : Inv X pins σ H { s with heap := h', toks := tk } := I.kept hk
  have hul : us.length = xs.length := hv.length.symm
  refine wpAny_bind (wpAny_newList ?_ (by rw [hul]; exact hl))
  have hoL : (h'.push (seqObj "list" us.toArray 0)).get? h'.objs.size = some (seqObj "list" us.toArray 0) := Heap.get?_push_size _ rfl
  show wpAny _ _ _ _ _ { s with heap := h'.push (seqObj "list" us.toArray 0), toks := tk }
  have I2 : Inv X pins σ H { s with heap := h'.push (seqObj "list" us.toArray 0), toks := tk } := I1.kept (t' := tk) fun b o e => Heap.get?_push_of_some _ e
  have I3 : L2.Inv X pins σ H { s with heap := PySem.W.sortingHeap (h'.push (seqObj "list" us.toArray 0)) h'.objs.size us, toks := tk } := I1.kept (t' := tk) fun b o e => by
    have hb : b < h'.objs.size := Heap.lt_size e
    exact PySem.W.sortingHeap_old (Nat.ne_of_lt hb) (Heap.get?_push_of_some _ e)
  obtain ⟨as, hra⟩ := (hr.reads I3 hnd hv).1
  have er : PySem.W.EachIs (fun v (b : V × PyData) => ∃ as, Reads (PySem.W.sortingHeap (h'.push (seqObj "list" us.toArray 0)) h'.objs.size us) v b.2 as) us (xs.zip ds) := reads_each (by rw [m2]; exact hra)
  have ev : PySem.W.EachIs (fun v (b : V × PyData) => RelV b.1 v) us (xs.zip ds) := vals_each (by rw [m1]; exact hv)
  have hal : PySem.W.AllAlike ((xs.zip ds).map (·.2)) := by rw [m2]; exact alike_of b2
  have hso : PySem.W.Sortable ((xs.zip ds).map (·.2)) := by rw [m2]; exact sortable_of b3
  refine wpAny_bind (wpAny_holding (wpAny_call_entry PyProof.Rows.slot_list_sort ⟨_, hoL, rfl⟩ PyProof.Rows.entry_list_sort
    (PySem.W.list_sort_vals (κ := PySem.W.dataKind (PySem.W.sortingHeap (h'.push (seqObj "list" us.toArray 0)) h'.objs.size us) ((xs.zip ds).map (·.2))) hoL
      (PySem.W.SortsAt.data (s := { s with heap := PySem.W.sortingHeap (h'.push (seqObj "list" us.toArray 0)) h'.objs.size us, toks := tk }) (PySem.W.each_map (R := fun v d => ∃ as, Reads (PySem.W.sortingHeap (h'.push (seqObj "list" us.toArray 0)) h'.objs.size us) v d as) (fun b : V × PyData => b.2) er) hal hso (fun d hd => ?_)) (by rw [hul]; exact hl) ⟨.none, rfl, ?_⟩) (PyProof.Rows.args_list_sort _)))
  · rw [m2] at hd
    rw [List.all_eq_true] at b1
    have := flat_depth (b1 d hd)
    show X.A.units + 1 + 1 + d.depth < cLine
    omega
  · have eo := PySem.W.sortVals_data (enc := fun b : V × PyData => b.2) false ev er hal
    generalize hout : PySem.W.sortVals (PySem.W.dataKind (PySem.W.sortingHeap (h'.push (seqObj "list" us.toArray 0)) h'.objs.size us) ((xs.zip ds).map (·.2))) false us us = out at eo ⊢
    have ro := each_vals eo
    obtain ⟨e', he'⟩ := PyProof.Rows.sortedHeap_at (vs := us) (out := out.toArray) hoL
    have hol : ((xs.zip ds).mergeSort (PySem.W.dataLe false fun b => b.2)).length = xs.length := by
      rw [List.length_mergeSort, List.length_zip]
      omega
    refine wpAny_pure ⟨_, rfl, .ref h'.objs.size, upd H h'.objs.size (.lst (((xs.zip ds).mergeSort (PySem.W.dataLe false fun b => b.2)).map (·.1))), I1.laid (t' := tk) (fun b u e => ?_) (Nat.le_refl _)
      (show ObjOk X.prog X.w _ _ _ (.lst _) from ⟨by rw [List.length_map, hol]; exact hl, out, e', ro, he'⟩), rfl, hq _ _ (I1.hok.fresh (Nat.le_refl _)) fun K G hg => ?_⟩
    · have hb : b < h'.objs.size := Heap.lt_size e
      rw [PyProof.Rows.sortedHeap_old (Nat.ne_of_lt hb) (by rw [size_push']; exact Nat.lt_succ_of_lt hb)]
      exact Heap.get?_push_of_some _ e
    · have z := RpL.of_zip (K := K) (G := G) ((xs.zip ds).mergeSort (PySem.W.dataLe false fun b => b.2)) fun p hp => hg.zip p ((List.mergeSort_perm _ _).mem_iff.mp hp)
      have e2 : ((xs.zip ds).mergeSort (PySem.W.dataLe false fun b => b.2)).map (·.2) = sortD ds := by
        unfold sortD
        have e3 := PySem.W.sort_maps (r := PySem.W.dataLe false fun b : V × PyData => b.2) (s := PySem.W.dataLe false id) (fun b : V × PyData => b.2) (l := xs.zip ds) fun _ _ _ _ => rfl
        rw [m2] at e3
        exact e3
      rw [e2] at z
      exact z
end

/-! ### the builtins -/
def keysD (es : List (PyData × PyData)) : List PyData := es.map (·.1)
/-- the dicts with keys that are tuples bear a first entry (None, None) -/
def isT : List (PyData × PyData) → Bool
  | (.none, _) :: _ => true
  | _ => false
def intsOf : List PyData → Option (List Int)
  | [] => some []
  | .int i :: r => (intsOf r).map (i :: ·)
  | _ => none
def boolsOf : List PyData → Option (List Bool)
  | [] => some []
  | .bool i :: r => (boolsOf r).map (i :: ·)
  | _ => none
theorem intsOf_eq : ∀ {ds : List PyData} {ns : List Int}, intsOf ds = some ns → ds = ns.map PyData.int
  | [], _, h => by cases h; rfl
  | d :: r, ns, h => by
    cases d <;> simp only [intsOf, reduceCtorEq, Option.map_eq_some_iff] at h
    obtain ⟨ms, h1, rfl⟩ := h
    rw [intsOf_eq h1]
    rfl
theorem boolsOf_eq : ∀ {ds : List PyData} {ns : List Bool}, boolsOf ds = some ns → ds = ns.map PyData.bool
  | [], _, h => by cases h; rfl
  | d :: r, ns, h => by
    cases d <;> simp only [boolsOf, reduceCtorEq, Option.map_eq_some_iff] at h
    obtain ⟨ms, h1, rfl⟩ := h
    rw [boolsOf_eq h1]
    rfl
def oLen : Op
  | [(.list a, _)] => some (.int a.length, .im)
  | [(.tuple a, _)] => some (.int a.length, .im)
  | [(.dict a, _)] => if isT a then none else some (.int a.length, .im)
  | _ => none
def oSum : Op
  | [(.list a, _)] => (intsOf a).map fun ns => (.int ns.sum, .im)
  | [(.tuple a, _)] => (intsOf a).map fun ns => (.int ns.sum, .im)
  | _ => none
def oAll : Op
  | [(.list a, _)] => (boolsOf a).map fun ns => (.bool (ns.all id), .im)
  | _ => none
def oAny : Op
  | [(.list a, _)] => (boolsOf a).map fun ns => (.bool (ns.any id), .im)
  | _ => none
def oAbs : Op
  | [(.int a, _)] => some (.int (if a < 0 then -a else a), .im)
  | _ => none
def oInt : Op
  | [(.int a, _)] => some (.int a, .im)
  | [(.bool a, _)] => some (.int (if a then 1 else 0), .im)
  | _ => none
def oTuple : Op
  | [(.list a, _)] => some (.tuple a, .im)
  | [(.tuple a, _)] => some (.tuple a, .im)
  | _ => none
def oList : Op
  | [(.list a, _)] => some (.list a, .fr)
  | [(.tuple a, _)] => some (.list a, .fr)
  | [(.dict a, _)] => if isT a then none else some (.list (keysD a), .fr)
  | _ => none
def minOk (ds : List PyData) : Bool := ds.all flat && (alikeB ds && ds.all fun d => !isNon d)
def oMin : Op
  | [(.int i, _), (.int j, _)] => some (.int (if j < i then j else i), .im)
  | [(.list (a :: as), _)] => if minOk (a :: as) then some (PySem.W.minD a as, .im) else none
  | [(.tuple (a :: as), _)] => if minOk (a :: as) then some (PySem.W.minD a as, .im) else none
  | _ => none
def oMax : Op
  | [(.int i, _), (.int j, _)] => some (.int (if j > i then j else i), .im)
  | [(.list (a :: as), _)] => if minOk (a :: as) then some (PySem.W.maxD a as, .im) else none
  | [(.tuple (a :: as), _)] => if minOk (a :: as) then some (PySem.W.maxD a as, .im) else none
  | _ => none
def oSorted : Op
  | [(.list a, _)] => if sortB a then some (.list (sortD a), .fr) else none
  | [(.tuple a, _)] => if sortB a then some (.list (sortD a), .fr) else none
  | [(.dict a, _)] => if isT a then none else if sortB (keysD a) then some (.list (sortD (keysD a)), .fr) else none
  | _ => none
end PX

namespace PX
open PySem PySem.Spec PyProof.Rows L2

theorem kV_rp {K : PySem.W.Frag} {G : Hp} {k : Key} (h : keyOk k = true) : Rp K G (kV k) (keyD k) := by
  cases k with
  | inl i => exact .int i
  | inr x => exact .str x h
theorem RpD.keys {K : PySem.W.Frag} {G : Hp} : ∀ {kvs : List (Key × V)} {es : List (PyData × PyData)}, RpD K G kvs es → RpL K G (kvs.map fun p => kV p.1) (keysD es)
  | _, _, .nil => .nil
  | _, _, .cons o a b => .cons (kV_rp o) (RpD.keys b)
theorem RpD.notT {K : PySem.W.Frag} {G : Hp} {kvs : List (Key × V)} {es : List (PyData × PyData)} (h : RpD K G kvs es) : isT es = false := by
  cases h with
  | nil => rfl
  | @cons k v vs d ds o a b => cases k <;> rfl

section
variable {X : Cx} {K : PySem.W.Frag} {B Gb G H : Hp} {σ : L2.St} {env : SEnv} {W : List Int} {v : V} {k : Kd}
theorem VOk.dictD {es : List (PyData × PyData)} (S : Sta K B Gb G H σ env W) (h : VOk K B G H σ env v (.dict es) k) (hn : isT es = false) : ∃ a kvs, v = .ref a ∧ Rd H a (.dK kvs) ∧ RpD K G kvs es := by
  obtain ⟨a, rfl, ⟨kvs, h1, h2⟩ | ⟨ob, xs, ds, rfl, h1, h2, h3⟩⟩ := h.dict S
  · exact ⟨a, kvs, rfl, h1, h2⟩
  · exact absurd hn (by simp [isT, rowE])
theorem VOk.row {es : List (PyData × PyData)} (S : Sta K B Gb G H σ env W) (h : VOk K B G H σ env v (.dict es) k) (hn : isT es = true) : ∃ a ob xs ds, v = .ref a ∧ es = rowE ds ∧ H a = some (.frz ob (.tup xs)) ∧ ob.dict = Option.none ∧ RpL K G xs ds := by
  obtain ⟨a, rfl, ⟨kvs, h1, h2⟩ | ⟨ob, xs, ds, e, h1, h2, h3⟩⟩ := h.dict S
  · rw [h2.notT] at hn; exact absurd hn Bool.false_ne_true
  · exact ⟨a, ob, xs, ds, rfl, e, h1, h2, h3⟩
theorem vals_one {x : V} {us : List Value} (r : Vals [x] us) : ∃ u, us = [u] ∧ RelV x u := by
  cases r with
  | cons a t => cases t; exact ⟨_, rfl, a⟩
/-- length of what stands in the heap -/
theorem len_list {X : Cx} {pins : List (Addr × Obj)} {σ : L2.St} {H : Hp} {s : Shared} {a : Addr} {xs : List V} (I : L2.Inv X pins σ H s) (h : H a = some (.lst xs)) : xs.length ≤ sizeLine := (I.list (.of h)).choose_spec.2.2

theorem so_len : CallR X (.builtin "len") (rV X.K oLen) := by
  intro pins s σ H xs us Q I r h
  have h' := h
  obtain ⟨B, Gb, G, σ1, env, W, ds, d, k, S, p, e, c⟩ := h'
  unfold oLen at e
  split at e
  · match xs, p with
    | [x], p =>
      cases e
      obtain ⟨a, ys, rfl, h1, h2⟩ := p.1.list S
      exact call_len_seq pins s σ H _ us Q I r ⟨a, ys, rfl, .inl (.of h1), by rw [h2.length]; exact c.int S⟩
  · match xs, p with
    | [x], p =>
      cases e
      obtain ⟨a, ys, rfl, h1, h2⟩ := p.1.tuple S
      exact call_len_seq pins s σ H _ us Q I r ⟨a, ys, rfl, .inr ((Sub.of S.sg).sqT h1.sqT), by rw [h2.length]; exact c.int S⟩
  · match xs, p with
    | [x], p =>
      split at e
      · cases e
      · rename_i hn
        cases e
        obtain ⟨a, kvs, rfl, h1, h2⟩ := p.1.dictD S (by simpa using hn)
        obtain ⟨u, rfl, ru⟩ := vals_one r
        cases ru
        exact d_len I h1 fun t s' I' => ⟨.int kvs.length, H, I', ⟨t, rfl⟩, by rw [h2.length]; exact c.int S⟩
  · cases e
def rSumT (K : PySem.W.Frag) : List V → Hp → VK → Prop := fun vs H Q => ∃ (a : Addr) (ns : List Int), vs = [V.ref a] ∧ SqT K H a (ns.map V.int) ∧ Q (.int ns.sum) H
theorem cr_sumT (hc : X.calm = true) : CallR X (.builtin "sum") (rSumT X.K) := by
  intro pins s σ H vs us Q I r h
  obtain ⟨a, ns, rfl, hs, q⟩ := h
  obtain ⟨its, rv, hl, _⟩ := I.tuple hs
  rw [Vals.ref1 r]
  have hi := rv.ints
  obtain ⟨xs, e⟩ := hi.allInts.items
  have hn : numsOf (intItems xs).toList = ns := by rw [← e]; exact hi.numsOf
  rw [nums_intItems] at hn
  rw [e] at hl
  refine PySem.W.ktm_sumG (I.ok.hd hc) hl fun h' tk t' hk => ?_
  rw [preSum_eq, List.take_of_length_le (by simp), hn]
  exact ⟨.int _, H, I.kept hk, ⟨_, rfl⟩, q⟩
theorem so_sum (hc : X.calm = true) : CallR X (.builtin "sum") (rV X.K oSum) := by
  intro pins s σ H xs us Q I r h
  obtain ⟨B, Gb, G, σ1, env, W, ds, d, k, S, p, e, c⟩ := h
  unfold oSum at e
  split at e
  · match xs, p with
    | [x], p =>
      rw [Option.map_eq_some_iff] at e
      obtain ⟨ns, e1, e2⟩ := e
      cases e2
      obtain ⟨a, ys, rfl, h1, h2⟩ := p.1.list S
      rw [intsOf_eq e1] at h2
      have := h2.of_ints
      subst this
      exact cr_sum hc pins s σ H _ us Q I r ⟨a, ns, rfl, .of h1, c.int S⟩
  · match xs, p with
    | [x], p =>
      rw [Option.map_eq_some_iff] at e
      obtain ⟨ns, e1, e2⟩ := e
      cases e2
      obtain ⟨a, ys, rfl, h1, h2⟩ := p.1.tuple S
      rw [intsOf_eq e1] at h2
      have := h2.of_ints
      subst this
      exact cr_sumT hc pins s σ H _ us Q I r ⟨a, ns, rfl, (Sub.of S.sg).sqT h1.sqT, c.int S⟩
  · cases e
theorem so_all (hc : X.calm = true) : CallR X (.builtin "all") (rV X.K oAll) := by
  intro pins s σ H xs us Q I r h
  obtain ⟨B, Gb, G, σ1, env, W, ds, d, k, S, p, e, c⟩ := h
  unfold oAll at e
  split at e
  · match xs, p with
    | [x], p =>
      rw [Option.map_eq_some_iff] at e
      obtain ⟨ns, e1, e2⟩ := e
      cases e2
      obtain ⟨a, ys, rfl, h1, h2⟩ := p.1.list S
      rw [boolsOf_eq e1] at h2
      have := h2.of_bools
      subst this
      exact cr_all hc pins s σ H _ us Q I r ⟨a, ns, rfl, .of h1, c.bool S⟩
  · cases e
theorem so_any (hc : X.calm = true) : CallR X (.builtin "any") (rV X.K oAny) := by
  intro pins s σ H xs us Q I r h
  obtain ⟨B, Gb, G, σ1, env, W, ds, d, k, S, p, e, c⟩ := h
  unfold oAny at e
  split at e
  · match xs, p with
    | [x], p =>
      rw [Option.map_eq_some_iff] at e
      obtain ⟨ns, e1, e2⟩ := e
      cases e2
      obtain ⟨a, ys, rfl, h1, h2⟩ := p.1.list S
      rw [boolsOf_eq e1] at h2
      have := h2.of_bools
      subst this
      exact cr_any hc pins s σ H _ us Q I r ⟨a, ns, rfl, .of h1, c.bool S⟩
  · cases e
theorem so_abs : CallR X (.builtin "abs") (rV X.K oAbs) := by
  intro pins s σ H xs us Q I r h
  obtain ⟨B, Gb, G, σ1, env, W, ds, d, k, S, p, e, c⟩ := h
  unfold oAbs at e
  split at e
  · match xs, p with
    | [x], p =>
      cases e
      obtain rfl := p.1.int S
      exact call_abs pins s σ H _ us Q I r ⟨_, rfl, c.int S⟩
  · cases e
theorem so_int : CallR X (.type "int") (rV X.K oInt) := by
  intro pins s σ H xs us Q I r h
  obtain ⟨B, Gb, G, σ1, env, W, ds, d, k, S, p, e, c⟩ := h
  unfold oInt at e
  split at e
  · match xs, p with
    | [x], p =>
      cases e
      obtain rfl := p.1.int S
      exact call_int1 pins s σ H _ us Q I r (.inl ⟨_, rfl, c.int S⟩)
  · match xs, p with
    | [x], p =>
      cases e
      obtain rfl := p.1.bool S
      exact call_int1 pins s σ H _ us Q I r (.inr ⟨_, rfl, c.int S⟩)
  · cases e
theorem so_tuple : CallR X (.type "tuple") (rV X.K oTuple) := by
  intro pins s σ H xs us Q I r h
  obtain ⟨B, Gb, G, σ1, env, W, ds, d, k, S, p, e, c⟩ := h
  unfold oTuple at e
  split at e
  · match xs, p with
    | [x], p =>
      cases e
      obtain ⟨a, ys, rfl, h1, h2⟩ := p.1.list S
      exact call_tuple_of pins s σ H _ us Q I r ⟨a, ys, rfl, .inl ⟨.of h1, fun l hl => c.tup S hl h2⟩⟩
  · match xs, p with
    | [x], p =>
      cases e
      obtain ⟨a, ys, rfl, h1, h2⟩ := p.1.tuple S
      exact call_tuple_of pins s σ H _ us Q I r ⟨a, ys, rfl, .inr ⟨(Sub.of S.sg).sqT h1.sqT, c.im S (.tup h1 h2)⟩⟩
  · cases e
theorem so_list (hc : X.calm = true) : CallR X (.type "list") (rV X.K oList) := by
  intro pins s σ H xs us Q I r h
  obtain ⟨B, Gb, G, σ1, env, W, ds, d, k, S, p, e, c⟩ := h
  unfold oList at e
  split at e
  · match xs, p with
    | [x], p =>
      cases e
      obtain ⟨a, ys, rfl, h1, h2⟩ := p.1.list S
      exact call_list_of pins s σ H _ us Q I r ⟨a, ys, rfl, .inl (.of h1), fun l hl => c.fr S hl h2⟩
  · match xs, p with
    | [x], p =>
      cases e
      obtain ⟨a, ys, rfl, h1, h2⟩ := p.1.tuple S
      exact call_list_of pins s σ H _ us Q I r ⟨a, ys, rfl, .inr ((Sub.of S.sg).sqT h1.sqT), fun l hl => c.fr S hl h2⟩
  · match xs, p with
    | [x], p =>
      split at e
      · cases e
      · rename_i hn
        cases e
        obtain ⟨a, kvs, rfl, h1, h2⟩ := p.1.dictD S (by simpa using hn)
        exact call_listD hc pins s σ H _ us Q I r ⟨a, kvs, rfl, h1, fun l hl => c.fr S hl h2.keys⟩
  · cases e
theorem so_sorted (hc : X.calm = true) (hu : X.A.units + 200 < cLine) : CallR X (.builtin "sorted") (rV X.K oSorted) := by
  intro pins s σ H xs us Q I r h
  obtain ⟨B, Gb, G, σ1, env, W, ds, d, k, S, p, e, c⟩ := h
  unfold oSorted at e
  split at e
  · match xs, p with
    | [x], p =>
      split at e
      · rename_i hs
        cases e
        obtain ⟨a, ys, rfl, h1, h2⟩ := p.1.list S
        obtain ⟨u, rfl, ru⟩ := vals_one r
        cases ru
        exact sorted_run I hc hu (coll_list I (.of h1)) (RpL.mono (Sub.of S.sg) h2) hs (len_list I h1) fun p' ys' hp hr => c.fr S hp (hr _ _ h2)
      · cases e
  · match xs, p with
    | [x], p =>
      split at e
      · rename_i hs
        cases e
        obtain ⟨a, ys, rfl, h1, h2⟩ := p.1.tuple S
        obtain ⟨u, rfl, ru⟩ := vals_one r
        cases ru
        have h1' := (Sub.of S.sg).sqT h1.sqT
        exact sorted_run I hc hu (coll_tup I h1') (RpL.mono (Sub.of S.sg) h2) hs (I.tuple h1').choose_spec.2.2 fun p' ys' hp hr => c.fr S hp (hr _ _ h2)
      · cases e
  · match xs, p with
    | [x], p =>
      split at e
      · cases e
      · rename_i hn
        split at e
        · rename_i hs
          cases e
          obtain ⟨a, kvs, rfl, h1, h2⟩ := p.1.dictD S (by simpa using hn)
          obtain ⟨u, rfl, ru⟩ := vals_one r
          cases ru
          exact sorted_run I hc hu (coll_dK I h1) (RpL.mono (Sub.of S.sg) h2.keys) hs (by rw [List.length_map]; exact (dk_rd I.hok h1).1) fun p' ys' hp hr => c.fr S hp (hr _ _ h2.keys)
        · cases e
  · cases e

/-! ### min, max -/
theorem readsAll_len {h : Heap} : ∀ {vs : List Value} {ds : List PyData} {as : List Addr}, ReadsAll h vs ds as → vs.length = ds.length
  | _, _, _, .nil => rfl
  | _, _, _, .cons _ b => congrArg (· + 1) (readsAll_len b)
theorem RpL.at {K : PySem.W.Frag} {G : Hp} {xs : List V} {ds : List PyData} (h : RpL K G xs ds) {i : Nat} {x : V} (e : xs[i]? = some x) : ∃ d, d ∈ ds ∧ Rp K G x d := by
  obtain ⟨d, h1, h2⟩ := h.get' e
  exact ⟨d, List.mem_of_getElem? h1, h2⟩
theorem depth_all : ∀ {ds : List PyData}, ds.all flat = true → PyData.depthAll ds ≤ 60
  | [], _ => by simp [PyData.depthAll]
  | d :: ds, h => by
    rw [List.all_cons, Bool.and_eq_true] at h
    have h1 := flat_depth h.1
    have h2 := depth_all h.2
    simp only [PyData.depthAll]
    omega
/-- the item that a builtin hands back is the one with that datum -/
theorem pick_of {pins : List (Addr × Obj)} {s : Shared} {σ : L2.St} {H : Hp} {Q : VK} (I : L2.Inv X pins σ H s) {ys : List V} {its : List Value} {ds : List PyData} {m : PyData} {σ1 : L2.St} (S : Sta X.K B Gb G H σ1 env W)
    (c : ∀ x, Rp X.K G x m → Q x H) (h2 : RpL X.K G ys ds) (r : Vals ys its) (hf : ds.all flat = true) (hm : noD m = true)
    {i : Nat} {u : Value} {h' : Heap} {tk : Nat} {bs : List Addr} (hi : its.toArray[i]? = some u) (hr : Reads h' u m bs) (hk : ∀ b o, s.heap.get? b = some o → h'.get? b = some o) :
    EP X pins σ Q u { s with heap := h', toks := tk } := by
  have I1 : L2.Inv X pins σ H { s with heap := h', toks := tk } := I.kept (t' := tk) hk
  have hi' : its[i]? = some u := by simpa using hi
  have hil : i < its.length := (List.getElem?_eq_some_iff.mp hi').1
  obtain ⟨x, hx⟩ : ∃ x, ys[i]? = some x := by
    have : i < ys.length := by rw [r.length]; exact hil
    exact ⟨_, List.getElem?_eq_getElem this⟩
  obtain ⟨u', e1, ru⟩ := r.get hx
  rw [hi'] at e1
  cases e1
  obtain ⟨d, hd, rd⟩ := h2.at hx
  rw [List.all_eq_true] at hf
  have rr := (Rp.mono (Sub.of S.sg) rd).reads I1 (flat_noD (hf d hd)) ru
  obtain ⟨as, ra⟩ := rr.1
  have e2 : d = m := SeqAt.Reads.unique d m u as bs rr.2 ra hr
  subst e2
  exact ⟨x, H, I1, ru, c x rd⟩
theorem noD_mem : ∀ {ds : List PyData} {m : PyData}, ds.all flat = true → m ∈ ds → noD m = true := fun h hm => by
  rw [List.all_eq_true] at h
  exact flat_noD (h _ hm)
theorem minD_mem : ∀ (as : List PyData) (a : PyData), PySem.W.minD a as ∈ a :: as
  | [], a => by simp [PySem.W.minD]
  | b :: bs, a => by
    have := minD_mem bs (if PySem.W.dataLt b a then b else a)
    unfold PySem.W.minD at *
    rw [List.foldl_cons]
    rcases List.mem_cons.mp this with h | h
    · rw [h]
      split <;> simp
    · exact List.mem_cons_of_mem _ (List.mem_cons_of_mem _ h)
theorem maxD_mem : ∀ (as : List PyData) (a : PyData), PySem.W.maxD a as ∈ a :: as
  | [], a => by simp [PySem.W.maxD]
  | b :: bs, a => by
    have := maxD_mem bs (if PySem.W.dataLt a b then b else a)
    unfold PySem.W.maxD at *
    rw [List.foldl_cons]
    rcases List.mem_cons.mp this with h | h
    · rw [h]
      split <;> simp
    · exact List.mem_cons_of_mem _ (List.mem_cons_of_mem _ h)
theorem minOk_of {ds : List PyData} (h : minOk ds = true) : ds.all flat = true ∧ PySem.W.AlikeAll ds := by
  unfold minOk at h
  rw [Bool.and_eq_true, Bool.and_eq_true] at h
  refine ⟨h.1, alike_of h.2.1, fun x hx e => ?_⟩
  have := h.2.2
  rw [List.all_eq_true] at this
  have := this x hx
  rw [e] at this
  exact absurd this (by simp [PX.isNon])
theorem so_min (hc : X.calm = true) (hu : X.A.units + 200 < cLine) : CallR X (.builtin "min") (rV X.K oMin) := by
  intro pins s σ H xs us Q I r h
  obtain ⟨B, Gb, G, σ1, env, W, ds, d, k, S, p, e, c⟩ := h
  unfold oMin at e
  split at e
  · match xs, p with
    | [x, y], p =>
      cases e
      obtain rfl := p.1.int S
      obtain rfl := p.2.2.1.int S
      exact call_min2 hc pins s σ H _ us Q I r ⟨_, _, rfl, c.int S⟩
  · match xs, p with
    | [x], p =>
      split at e
      · rename_i hs
        cases e
        obtain ⟨k1, k2⟩ := minOk_of hs
        obtain ⟨a, ys, rfl, h1, h2⟩ := p.1.list S
        obtain ⟨u, rfl, ru⟩ := vals_one r
        cases ru
        obtain ⟨its, rv, hl, _⟩ := I.list (.of h1)
        obtain ⟨as, hra⟩ := ((RpL.mono (Sub.of S.sg) h2).reads I (flat_all k1) rv).1
        refine PySem.W.min_list_data (I.ok.hd hc) hl.isList (by simpa using hra) k2 (by have := depth_all k1; omega) fun i u h' tk bs hi hr hk => ?_
        exact pick_of I S (fun x hx => c.im S hx) h2 rv k1 (noD_mem k1 (minD_mem _ _)) hi hr hk
      · cases e
  · match xs, p with
    | [x], p =>
      split at e
      · rename_i hs
        cases e
        obtain ⟨k1, k2⟩ := minOk_of hs
        obtain ⟨a, ys, rfl, h1, h2⟩ := p.1.tuple S
        obtain ⟨u, rfl, ru⟩ := vals_one r
        cases ru
        obtain ⟨its, rv, ⟨o, ho, hcl, n, hd⟩, _⟩ := I.tuple ((Sub.of S.sg).sqT h1.sqT)
        obtain ⟨as, hra⟩ := ((RpL.mono (Sub.of S.sg) h2).reads I (flat_all k1) rv).1
        refine PySem.W.min_tuple_data (vs := its.toArray) (I.ok.hd hc) ⟨o, ho, hcl, n, hd⟩ (by simpa using hra) k2 (by have := depth_all k1; omega) fun i u h' tk bs hi hr hk => ?_
        exact pick_of I S (fun x hx => c.im S hx) h2 rv k1 (noD_mem k1 (minD_mem _ _)) hi hr hk
      · cases e
  · cases e
theorem so_max (hc : X.calm = true) (hu : X.A.units + 200 < cLine) : CallR X (.builtin "max") (rV X.K oMax) := by
  intro pins s σ H xs us Q I r h
  obtain ⟨B, Gb, G, σ1, env, W, ds, d, k, S, p, e, c⟩ := h
  unfold oMax at e
  split at e
  · match xs, p with
    | [x, y], p =>
      cases e
      obtain rfl := p.1.int S
      obtain rfl := p.2.2.1.int S
      exact call_max2 hc pins s σ H _ us Q I r ⟨_, _, rfl, c.int S⟩
  · match xs, p with
    | [x], p =>
      split at e
      · rename_i hs
        cases e
        obtain ⟨k1, k2⟩ := minOk_of hs
        obtain ⟨a, ys, rfl, h1, h2⟩ := p.1.list S
        obtain ⟨u, rfl, ru⟩ := vals_one r
        cases ru
        obtain ⟨its, rv, hl, _⟩ := I.list (.of h1)
        obtain ⟨as, hra⟩ := ((RpL.mono (Sub.of S.sg) h2).reads I (flat_all k1) rv).1
        refine PySem.W.max_list_data (I.ok.hd hc) hl.isList (by simpa using hra) k2 (by have := depth_all k1; omega) fun i u h' tk bs hi hr hk => ?_
        exact pick_of I S (fun x hx => c.im S hx) h2 rv k1 (noD_mem k1 (maxD_mem _ _)) hi hr hk
      · cases e
  · match xs, p with
    | [x], p =>
      split at e
      · rename_i hs
        cases e
        obtain ⟨k1, k2⟩ := minOk_of hs
        obtain ⟨a, ys, rfl, h1, h2⟩ := p.1.tuple S
        obtain ⟨u, rfl, ru⟩ := vals_one r
        cases ru
        obtain ⟨its, rv, ⟨o, ho, hcl, n, hd⟩, _⟩ := I.tuple ((Sub.of S.sg).sqT h1.sqT)
        obtain ⟨as, hra⟩ := ((RpL.mono (Sub.of S.sg) h2).reads I (flat_all k1) rv).1
        refine PySem.W.max_tuple_data (vs := its.toArray) (I.ok.hd hc) ⟨o, ho, hcl, n, hd⟩ (by simpa using hra) k2 (by have := depth_all k1; omega) fun i u h' tk bs hi hr hk => ?_
        exact pick_of I S (fun x hx => c.im S hx) h2 rv k1 (noD_mem k1 (maxD_mem _ _)) hi hr hk
      · cases e
  · cases e
end
end PX

namespace PX
open PySem PySem.Spec PyProof.Rows L2

/-! ### dicts as rows of pairs -/
def dget (es : List (PyData × PyData)) (k : PyData) : Option PyData := (es.find? fun e => PyData.eqv e.1 k).map (·.2)
def dput (es : List (PyData × PyData)) (k v : PyData) : List (PyData × PyData) :=
  if (es.any fun e => PyData.eqv e.1 k) = true then es.map fun e => if PyData.eqv e.1 k = true then (e.1, v) else e else es ++ [(k, v)]
def keyOf : PyData → Option Key
  | .int i => some (.inl i)
  | .str s => some (.inr s)
  | _ => none
def keysOf : List PyData → Option (List Key)
  | [] => some []
  | d :: ds => (keyOf d).bind fun k => (keysOf ds).map (k :: ·)
/-- the key's own datum, where the dict can have it -/
def keyFit (es : List (PyData × PyData)) (k : PyData) : Bool :=
  if isT es then false else (keyOf k).isSome
/-- the entries proper -/
def ents (es : List (PyData × PyData)) : List (PyData × PyData) := if isT es then es.drop 1 else es
theorem keyOf_eq {d : PyData} {k : Key} (h : keyOf d = some k) : d = keyD k := by
  cases d <;> simp only [keyOf, reduceCtorEq, Option.some.injEq] at h <;> subst h <;> rfl
theorem keysOf_eq : ∀ {ds : List PyData} {ks : List Key}, keysOf ds = some ks → ds = ks.map keyD
  | [], _, h => by cases h; rfl
  | d :: ds, ks, h => by
    rw [keysOf, Option.bind_eq_some_iff] at h
    obtain ⟨k, h1, h2⟩ := h
    rw [Option.map_eq_some_iff] at h2
    obtain ⟨r, h2, rfl⟩ := h2
    rw [keyOf_eq h1, keysOf_eq h2]
    rfl
theorem eqv_key (k j : Key) : PyData.eqv (keyD k) (keyD j) = decide (k = j) := by
  cases k <;> cases j <;> simp [keyD, PyData.eqv, Bool.beq_eq_decide_eq]
theorem eqv_keysL : ∀ ks js : List Key, PyData.eqvAll (ks.map keyD) (js.map keyD) = decide (ks = js)
  | [], [] => by simp [PyData.eqvAll]
  | [], _ :: _ => by simp [PyData.eqvAll]
  | _ :: _, [] => by simp [PyData.eqvAll]
  | k :: ks, j :: js => by
    simp only [List.map_cons, PyData.eqvAll, eqv_key, eqv_keysL ks js]
    by_cases h1 : k = j <;> by_cases h2 : ks = js <;> simp [h1, h2]
theorem eqv_keys (ks js : List Key) : PyData.eqv (keyTD ks) (keyTD js) = decide (ks = js) := by
  unfold keyTD
  simp only [PyData.eqv]
  exact eqv_keysL ks js
theorem RpL.of_keys {K : PySem.W.Frag} {G : Hp} : ∀ {v : List V} {ks : List Key}, RpL K G v (ks.map keyD) → v = ks.map kV ∧ ks.all keyOk = true
  | _, [], h => by cases h; exact ⟨rfl, rfl⟩
  | _, k :: ks, h => by
    rw [List.map_cons] at h
    cases h with
    | cons a b =>
      obtain ⟨e, o⟩ := RpL.of_keys b
      subst e
      cases k with
      | inl i => cases a; exact ⟨rfl, by rw [List.all_cons, o]; rfl⟩
      | inr s => cases a with | str _ h => exact ⟨rfl, by rw [List.all_cons, o, Bool.and_true]; exact h⟩
def OptR (K : PySem.W.Frag) (G : Hp) : Option V → Option PyData → Prop
  | some v, some d => Rp K G v d
  | none, none => True
  | _, _ => False
section
variable {K : PySem.W.Frag} {G : Hp}
theorem RpD.get (j : Key) : ∀ {kvs : List (Key × V)} {es : List (PyData × PyData)}, RpD K G kvs es → OptR K G (valV kvs j) (dget es (keyD j))
  | _, _, .nil => trivial
  | _, _, @RpD.cons _ _ k v vs d ds o a b => by
    unfold dget valV
    rw [List.find?_cons, List.find?_cons, eqv_key]
    by_cases h : k = j
    · rw [decide_eq_true h]; exact a
    · rw [decide_eq_false h]; exact RpD.get j b
theorem RpD.any (j : Key) : ∀ {kvs : List (Key × V)} {es : List (PyData × PyData)}, RpD K G kvs es → (kvs.any fun kv => decide (kv.1 = j)) = es.any fun e => PyData.eqv e.1 (keyD j)
  | _, _, .nil => rfl
  | _, _, @RpD.cons _ _ k v vs d ds o a b => by
    rw [List.any_cons, List.any_cons, eqv_key, RpD.any j b]
theorem RpD.repl {j : Key} {x : V} {d' : PyData} (rx : Rp K G x d') : ∀ {kvs : List (Key × V)} {es : List (PyData × PyData)}, RpD K G kvs es →
    RpD K G (kvs.map fun kv => if kv.1 = j then (kv.1, x) else kv) (es.map fun e => if PyData.eqv e.1 (keyD j) = true then (e.1, d') else e)
  | _, _, .nil => .nil
  | _, _, @RpD.cons _ _ k v vs d ds o a b => by
    rw [List.map_cons, List.map_cons, eqv_key]
    by_cases h : k = j
    · rw [if_pos h, decide_eq_true h, if_pos rfl]; exact .cons o rx (RpD.repl rx b)
    · rw [if_neg h, decide_eq_false h, if_neg Bool.false_ne_true]; exact .cons o a (RpD.repl rx b)
theorem RpD.app : ∀ {k1 k2 : List (Key × V)} {e1 e2 : List (PyData × PyData)}, RpD K G k1 e1 → RpD K G k2 e2 → RpD K G (k1 ++ k2) (e1 ++ e2)
  | _, _, _, _, .nil, h => h
  | _, _, _, _, .cons o a b, h => .cons o a (RpD.app b h)
theorem RpD.put {j : Key} {x : V} {d' : PyData} (ok : keyOk j = true) (rx : Rp K G x d') {kvs : List (Key × V)} {es : List (PyData × PyData)} (h : RpD K G kvs es) : RpD K G (putK kvs j x) (dput es (keyD j) d') := by
  unfold putK dput
  rw [h.any j]
  split
  · exact h.repl rx
  · exact h.app (.cons ok rx .nil)
end

section
variable {X : Cx} {K : PySem.W.Frag} {B Gb G H : Hp} {σ : L2.St} {env : SEnv} {W : List Int} {v x y : V} {k k1 k2 : Kd}
/-- what a dict holds at a key -/
theorem dget_of {es : List (PyData × PyData)} {kd : PyData} (S : Sta K B Gb G H σ env W) (hx : VOk K B G H σ env x (.dict es) k1) (hy : VOk K B G H σ env y kd k2) (hf : keyFit es kd = true) :
    ∃ a o, x = .ref a ∧ DGet H a y o ∧ OptR K G o (dget (ents es) kd) := by
  unfold keyFit at hf
  by_cases ht : PX.isT es = true
  · rw [if_pos ht] at hf
    exact absurd hf Bool.false_ne_true
  · have ht' : PX.isT es = false := by simpa using ht
    rw [if_neg ht] at hf
    obtain ⟨a, kvs, rfl, h1, h2⟩ := hx.dictD S ht'
    obtain ⟨j, hj⟩ := Option.isSome_iff_exists.mp hf
    have e := keyOf_eq hj
    subst e
    have hy' : y = kV j := by
      cases j with
      | inl i => exact hy.int S
      | inr s => exact hy.str S
    refine ⟨a, _, rfl, .inl ⟨kvs, j, h1, hy', rfl⟩, ?_⟩
    have : ents es = es := by simp [ents, ht']
    rw [this]
    exact h2.get j
theorem OptR.isSome {o : Option V} {p : Option PyData} (h : OptR K G o p) : o.isSome = p.isSome := by
  cases o <;> cases p <;> first | rfl | exact h.elim

/-! ### in, not in -/
def oIn : Op
  | [(x, _), (.list ds, _)] => if flat x && ds.all flat then some (.bool (ds.any fun z => PyData.eqv z x), .im) else none
  | [(x, _), (.tuple ds, _)] => if flat x && ds.all flat then some (.bool (ds.any fun z => PyData.eqv z x), .im) else none
  | [(x, _), (.dict es, _)] => if keyFit es x then some (.bool (dget (ents es) x).isSome, .im) else none
  | _ => none
def oNotIn : Op
  | [(x, _), (.list ds, _)] => if flat x && ds.all flat then some (.bool (!ds.any fun z => PyData.eqv z x), .im) else none
  | [(x, _), (.tuple ds, _)] => if flat x && ds.all flat then some (.bool (!ds.any fun z => PyData.eqv z x), .im) else none
  | [(x, _), (.dict es, _)] => if keyFit es x then some (.bool (!(dget (ents es) x).isSome), .im) else none
  | _ => none
theorem so_in (hu : X.A.units + 200 < cLine) : OpR X (compareOp .In) (fun x y => rV X.K oIn [x, y]) := by
  intro pins s σ H x y v u Q I rx ry h
  obtain ⟨B, Gb, G, σ1, env, W, d1, k1, d2, k2, d, k, S, h1, h2, ap, e, c⟩ := rV.two h
  unfold oIn at e
  split at e
  · rename_i q
    cases q
    split at e
    · rename_i f
      cases e
      rw [Bool.and_eq_true] at f
      obtain ⟨⟨as, r1⟩, l1⟩ := (h1.rp S).reads I (flat_noD f.1) rx
      have h2' := h2.rp S
      obtain ⟨⟨bs, r2⟩, l2⟩ := h2'.reads I (by simpa only [noD] using flat_all f.2) ry
      exact SeqAt.in_list_reads r2 r1 (by simpa only [PyData.canLay0] using l2) l1 (by have := flat_depth f.1; omega) ⟨.bl _, H, I, rfl, c.bool S⟩
    · cases e
  · rename_i q
    cases q
    split at e
    · rename_i f
      cases e
      rw [Bool.and_eq_true] at f
      obtain ⟨⟨as, r1⟩, l1⟩ := (h1.rp S).reads I (flat_noD f.1) rx
      have h2' := h2.rp S
      obtain ⟨⟨bs, r2⟩, l2⟩ := h2'.reads I (by simpa only [noD] using flat_all f.2) ry
      exact SeqAt.in_tuple_reads r2 r1 (by simpa only [PyData.canLay0] using l2) l1 (by have := flat_depth f.1; omega) ⟨.bl _, H, I, rfl, c.bool S⟩
    · cases e
  · rename_i q
    cases q
    split at e
    · rename_i f
      cases e
      obtain ⟨a, o, rfl, g, r⟩ := dget_of S h2 h1 f
      cases ry
      exact d_in (by omega) I g rx fun s' I' => ⟨.bl o.isSome, H, I', rfl, by rw [r.isSome]; exact c.bool S⟩
    · cases e
  · cases e
theorem so_notIn (hu : X.A.units + 200 < cLine) : OpR X (compareOp .NotIn) (fun x y => rV X.K oNotIn [x, y]) := by
  intro pins s σ H x y v u Q I rx ry h
  obtain ⟨B, Gb, G, σ1, env, W, d1, k1, d2, k2, d, k, S, h1, h2, ap, e, c⟩ := rV.two h
  unfold oNotIn at e
  split at e
  · rename_i q
    cases q
    split at e
    · rename_i f
      cases e
      rw [Bool.and_eq_true] at f
      obtain ⟨⟨as, r1⟩, l1⟩ := (h1.rp S).reads I (flat_noD f.1) rx
      have h2' := h2.rp S
      obtain ⟨⟨bs, r2⟩, l2⟩ := h2'.reads I (by simpa only [noD] using flat_all f.2) ry
      exact SeqAt.notIn_list_reads r2 r1 (by simpa only [PyData.canLay0] using l2) l1 (by have := flat_depth f.1; omega) ⟨.bl _, H, I, rfl, c.bool S⟩
    · cases e
  · rename_i q
    cases q
    split at e
    · rename_i f
      cases e
      rw [Bool.and_eq_true] at f
      obtain ⟨⟨as, r1⟩, l1⟩ := (h1.rp S).reads I (flat_noD f.1) rx
      have h2' := h2.rp S
      obtain ⟨⟨bs, r2⟩, l2⟩ := h2'.reads I (by simpa only [noD] using flat_all f.2) ry
      exact SeqAt.notIn_tuple_reads r2 r1 (by simpa only [PyData.canLay0] using l2) l1 (by have := flat_depth f.1; omega) ⟨.bl _, H, I, rfl, c.bool S⟩
    · cases e
  · rename_i q
    cases q
    split at e
    · rename_i f
      cases e
      obtain ⟨a, o, rfl, g, r⟩ := dget_of S h2 h1 f
      cases ry
      exact d_notIn (by omega) I g rx fun s' I' => ⟨.bl (!o.isSome), H, I', rfl, by rw [r.isSome]; exact c.bool S⟩
    · cases e
  · cases e
end
end PX

namespace PX
open PySem PySem.Spec PyProof.Rows L2

/-! ### a tuple from behind -/
section
variable {prog : Program} {w : World} {A : Around} {E : Value → Shared → Prop} {s : Shared}
theorem sliceApplied_back {sl : Addr} {vl vu vs : Value} {n : Nat} {Q : Int × Int × Nat → Shared → Prop} (hs : s.heap.IsSliceOf sl vl vu vs) (pl : IsPart vl none) (pu : IsPart vu none) (ps : IsPart vs (some (-1)))
    (h : Q ((n : Int) - 1, -1, n) s) : wpAny (model prog w) A (Builtin.Slice.sliceApplied (.ref sl) (pure (n : Int))) Q E s := by
  obtain ⟨os, hos, hcs, hds⟩ := id hs
  unfold Builtin.Slice.sliceApplied Builtin.Slice.sliceFields
  refine wpAny_bind (wpAny_bind (wpAny_field hos hds (x := vl) rfl (wpAny_bind (wpAny_field hos hds (x := vu) rfl (wpAny_bind (wpAny_field hos hds (x := vs) rfl (wpAny_pure ?_)))))))
  refine wpAny_bind (HT.slicePart_ ps ?_)
  show wpAny _ _ (if ((-1 : Int) == 0) = true then _ else _) _ _ s
  rw [if_neg (by decide)]
  refine wpAny_bind (HT.slicePart_ pl (wpAny_bind (HT.slicePart_ pu (wpAny_bind (wpAny_pure ?_)))))
  have e1 : Builtin.Slice.sliceAdjust none none (-1) (n : Int) = ((n : Int) - 1, -1) := by
    unfold Builtin.Slice.sliceAdjust
    simp
  have e2 : Builtin.Slice.slicePlaces ((n : Int) - 1) (-1) (-1) = n := by
    unfold Builtin.Slice.slicePlaces
    simp only [show ¬ ((-1 : Int) > 0) by decide, if_false, Int.neg_neg, Int.ediv_one]
    split <;> omega
  show wpAny _ _ (match Builtin.Slice.sliceAdjust none none (-1) (n : Int) with | (lo, hi) => pure (lo, (-1 : Int), Builtin.Slice.slicePlaces lo hi (-1))) _ _ s
  rw [e1]
  show wpAny _ _ (pure ((n : Int) - 1, (-1 : Int), Builtin.Slice.slicePlaces ((n : Int) - 1) (-1) (-1))) _ _ s
  rw [e2]
  exact wpAny_pure h
theorem fm_congr {α β : Type} {f g : α → Option β} : ∀ {l : List α}, (∀ a ∈ l, f a = g a) → l.filterMap f = l.filterMap g
  | [], _ => rfl
  | a :: l, h => by
    rw [List.filterMap_cons, List.filterMap_cons, h a List.mem_cons_self, fm_congr fun b hb => h b (List.mem_cons_of_mem _ hb)]
theorem pick_back (xs : Array Value) : ((List.range xs.size).filterMap fun (m : Nat) => xs[((xs.size : Int) - 1 + (m : Int) * (-1)).toNat]?) = xs.toList.reverse := by
  have e : ∀ m ∈ List.range xs.size, xs[((xs.size : Int) - 1 + (m : Int) * (-1)).toNat]? = xs[xs.size - 1 - m]? := fun m hm => by
    have : m < xs.size := List.mem_range.mp hm
    have : ((xs.size : Int) - 1 + (m : Int) * (-1)).toNat = xs.size - 1 - m := by omega
    rw [this]
  rw [fm_congr e]
  have h := PySem.W.krv_range xs.size
  have h2 : ((List.range xs.size).map fun k => xs.size - 1 - k).filterMap (fun m => xs[m]?) = xs.toList.reverse := by
    rw [h, List.filterMap_reverse, PySem.W.krv_all]
  rw [List.filterMap_map] at h2
  exact h2
theorem getItem_tuple_back {t sl : Addr} {items : Array Value} {vl vu vs : Value} {Q : Value → Shared → Prop} (ht : IsTup s.heap t items) (hs : s.heap.IsSliceOf sl vl vu vs) (pl : IsPart vl none) (pu : IsPart vu none) (ps : IsPart vs (some (-1)))
    (h : Q (.ref s.heap.objs.size) { s with heap := s.heap.push { cls := .type "tuple", data := .seq items.toList.reverse.toArray } }) (hsz : items.size ≤ sizeLine) : wpAny (model prog w) A (getItem (.ref t) (.ref sl)) Q E s := by
  obtain ⟨os, hos, hcs, hds⟩ := id hs
  have hTs : s.TypeIs (.ref sl) "slice" := ⟨os, hos, hcs⟩
  have hok : sizeOk (.seq items.toList.reverse.toArray) := by
    show items.toList.reverse.toArray.size ≤ sizeLine
    simpa using hsz
  unfold getItem
  try with_reducible refine wpAny_holding ?_
  first | refine wpAny_bind (wpAny_pure ?_) | skip
  refine wpAny_bind (wpAny_sequenceKey ht.typeIs (by decide) ?_)
  refine wpAny_bind (wpAny_callSpecial?_slot (name := Str.ofString "__getitem__") ht.typeIs PyProof.Rows.slot_tuple_getitem
    (wpAny_call_entry PyProof.Rows.slot_tuple_getitem ht.typeIs PyProof.Rows.entry_tuple_getitem ?_ (PyProof.Rows.args_tuple_getitem _ _)))
  show wpAny _ _ (Builtin.Tuple.tupleItemsOf (.ref t) >>= _) _ _ s
  refine wpAny_bind (tupleItemsOf_ ht ?_)
  refine wpAny_bind (wpAny_typeOf hTs ?_)
  rw [if_pos (by decide)]
  refine wpAny_bind (sliceApplied_back hs pl pu ps ?_)
  have hno : ¬ ((((items.size : Int) - 1) == 0 && (-1 : Int) == 1 && items.size == items.size) = true) := by
    rw [show ((-1 : Int) == 1) = false by decide, Bool.and_false, Bool.false_and]
    exact Bool.false_ne_true
  show wpAny _ _ (if (((items.size : Int) - 1) == 0 && (-1 : Int) == 1 && items.size == items.size) = true then _ else _) _ _ s
  rw [if_neg hno, pick_back]
  first
    | exact wpAny_bind (m := Builtin.Tuple.tupleExact _) (wpAny_newObj_type (wpAny_pure ⟨_, rfl, wpAny_pure h⟩) hok)
    | exact wpAny_bind (m := Builtin.Tuple.tupleExact _) (wpAny_newObj_type (wpAny_bind (wpAny_pure (wpAny_pure ⟨_, rfl, wpAny_pure h⟩))) hok)
    | exact wpAny_bind (wpAny_bind (m := Builtin.Tuple.tupleExact _) (wpAny_newObj_type (wpAny_pure (wpAny_pure ⟨_, rfl, wpAny_pure h⟩)) hok))
    | exact wpAny_bind (wpAny_bind (m := Builtin.Tuple.tupleExact _) (wpAny_newObj_type (wpAny_pure ⟨_, rfl, wpAny_pure h⟩) hok))
end
section
variable {X : Cx} {e : Expr} {te : TE} {k : Nat} {p1 p2 p3 pos : Pos}
def tBack (K : PySem.W.Frag) (te : TE) : TE := fun σ H Q => te σ H fun x H1 => (∃ a xs, x = .ref a ∧ SqL K H1 a xs ∧ ∀ p, H1 p = none → Q (.ref p) (upd H1 p (.lst xs.reverse))) ∨
  ∃ a xs, x = .ref a ∧ SqT K H1 a xs ∧ ∀ p, H1 p = none → Q (.ref p) (upd H1 p (.tup xs.reverse))
theorem pe_back (he : PE X e te) : PE X (.Subscript e (.Slice none none (some (.UnaryOp .USub (.Constant (.int 1) k p1) p2)) p3) pos) (tBack X.K te) := by
  refine ⟨fun pins s σ H Q I h => ?_⟩
  refine Subscript_ (thn (he.run pins s σ H _ I h) fun v s1 ⟨x, H1, I1, r1, q1⟩ => ?_)
  have hst : PO X (some (.UnaryOp .USub (.Constant (.int 1) k p1) p2)) (tPart (tUn (rU fun i => .int (-i)) (tC (.int 1)))) := po_some (pe_un un_neg pe_int)
  refine wpAny_Slice (thn (po_none.run pins s1 σ H1 (fun o H2 => o = none ∧ H2 = H1) I1 ⟨rfl, rfl⟩) fun vl s2 ⟨l, H2, I2, pl, el, e2⟩ => ?_)
  subst el e2
  refine thn (po_none.run pins s2 σ H2 (fun o H3 => o = none ∧ H3 = H2) I2 ⟨rfl, rfl⟩) fun vu s3 ⟨u, H3, I3, pu, eu, e3⟩ => ?_
  subst eu e3
  refine thn (hst.run pins s3 σ H3 (fun o H4 => o = some (-1) ∧ H4 = H3) I3 ⟨1, rfl, -1, rfl, rfl, rfl⟩) fun vs s4 ⟨o, H4, I4, ps, eo, e4⟩ => ?_
  subst eo e4
  have I5 : L2.Inv X pins σ H4 { s4 with heap := s4.heap.push { cls := .type "slice", data := .fields #[vl, vu, vs] } } := I4.kept (t' := s4.toks) fun b o q => Heap.get?_push_of_some _ q
  rcases q1 with ⟨a, xs, ex, hx, q⟩ | ⟨a, xs, ex, hx, q⟩
  · subst ex
    cases r1
    obtain ⟨its, r, ht, hz⟩ := I5.list hx
    have hlen := r.length
    show wpAny (model X.prog X.w) X.A (subscriptTail e (.Slice none none (some (.UnaryOp .USub (.Constant (.int 1) k p1) p2)) p3) (.ref a) (.ref s4.heap.objs.size)) (EP X pins σ Q) X.xe { s4 with heap := s4.heap.push { cls := .type "slice", data := .fields #[vl, vu, vs] } }
    refine tail_any (ops := [.ref a, .ref s4.heap.objs.size]) ht.isList.typeIs (PySem.slot_list_getitem.lookup) ?_ (by with_unfolding_all rfl)
    refine wpAny_getItem_list_slice ht.isList (Heap.IsSliceOf.new _ vl vu vs) pl pu ps (by decide) ?_ (by rw [List.size_toArray]; omega)
    rw [PySem.W.krv_pick]
    refine ⟨.ref _, _, I5.laid (t' := s4.toks) (o := .lst xs.reverse) (fun b o q => Heap.get?_push_of_some _ q) (Nat.le_refl _) ?_, rfl, q _ (I5.hok.fresh (Nat.le_refl _))⟩
    exact ⟨by rw [List.length_reverse]; exact hz, _, 0, r.reverse, Heap.get?_push_size _ rfl⟩
  · subst ex
    cases r1
    obtain ⟨its, r, ht, hz⟩ := I5.tuple hx
    have hlen := r.length
    show wpAny (model X.prog X.w) X.A (subscriptTail e (.Slice none none (some (.UnaryOp .USub (.Constant (.int 1) k p1) p2)) p3) (.ref a) (.ref s4.heap.objs.size)) (EP X pins σ Q) X.xe { s4 with heap := s4.heap.push { cls := .type "slice", data := .fields #[vl, vu, vs] } }
    refine tail_any (ops := [.ref a, .ref s4.heap.objs.size]) ht.typeIs (PyProof.Rows.slot_tuple_getitem.lookup) ?_ (by with_unfolding_all rfl)
    refine getItem_tuple_back ht (Heap.IsSliceOf.new _ vl vu vs) pl pu ps ?_ (by rw [List.size_toArray]; omega)
    refine ⟨.ref _, _, I5.laid (t' := s4.toks) (o := .tup xs.reverse) (fun b o q => Heap.get?_push_of_some _ q) (Nat.le_refl _) ?_, rfl, q _ (I5.hok.fresh (Nat.le_refl _))⟩
    exact ⟨by rw [List.length_reverse]; exact hz, its.reverse, r.reverse, IsTup.new _ _⟩
end
end PX

namespace PX
open PySem PySem.Spec PyProof.Rows L2

/-! ### expressions -/
def cCall (op : Op) (fs : List Ex) : Ex := fun env W => (cArgs fs env W).bind fun q => (op q.1).map fun r => (r.1, r.2, q.2)
def cVar (i : Nat) : Ex := fun env W => match env[i]? with
  | some (.pl d) => some (d, .im, W)
  | some (.ow d) => some (d, .pk i, W)
  | some (.lk _ _ d) => some (d, .pk i, W)
  | _ => none
def cK (d : PyData) : Ex := fun _ W => some (d, .im, W)
section
variable {op : Op} {f g h : Ex} {env : SEnv} {W W' : List Int} {d : PyData} {k : Kd}
theorem cCall_one (e : cCall op [f] env W = some (d, k, W')) : ∃ d1 k1, f env W = some (d1, k1, W') ∧ op [(d1, k1)] = some (d, k) := by
  unfold cCall at e
  rw [Option.bind_eq_some_iff] at e
  obtain ⟨⟨ds, W1⟩, e1, e2⟩ := e
  simp only [cArgs, Option.bind_eq_some_iff, Option.map_eq_some_iff] at e1 e2
  obtain ⟨⟨d1, k1, W2⟩, e3, q, e8, e5⟩ := e1
  cases e8
  cases e5
  obtain ⟨r, e6, e7⟩ := e2
  cases e7
  exact ⟨d1, k1, e3, e6⟩
theorem cCall_two (e : cCall op [f, g] env W = some (d, k, W')) : ∃ d1 k1 W1 d2 k2, f env W = some (d1, k1, W1) ∧ g env W1 = some (d2, k2, W') ∧ op [(d1, k1), (d2, k2)] = some (d, k) := by
  unfold cCall at e
  rw [Option.bind_eq_some_iff] at e
  obtain ⟨⟨ds, W1⟩, e1, e2⟩ := e
  simp only [cArgs, Option.bind_eq_some_iff, Option.map_eq_some_iff] at e1 e2
  obtain ⟨⟨d1, k1, W2⟩, e3, q, ⟨⟨d2, k2, W3⟩, e4, q2, e9, e8⟩, e5⟩ := e1
  cases e9
  cases e8
  cases e5
  obtain ⟨r, e6, e7⟩ := e2
  cases e7
  exact ⟨d1, k1, W2, d2, k2, e3, e4, e6⟩
theorem cCall_three (e : cCall op [f, g, h] env W = some (d, k, W')) : ∃ d1 k1 W1 d2 k2 W2 d3 k3, f env W = some (d1, k1, W1) ∧ g env W1 = some (d2, k2, W2) ∧ h env W2 = some (d3, k3, W') ∧ op [(d1, k1), (d2, k2), (d3, k3)] = some (d, k) := by
  unfold cCall at e
  rw [Option.bind_eq_some_iff] at e
  obtain ⟨⟨ds, W1⟩, e1, e2⟩ := e
  simp only [cArgs, Option.bind_eq_some_iff, Option.map_eq_some_iff] at e1 e2
  obtain ⟨⟨d1, k1, W2⟩, e3, q, ⟨⟨d2, k2, W3⟩, e4, q2, ⟨⟨d3, k3, W4⟩, e9, q3, e11, e10⟩, e8⟩, e5⟩ := e1
  cases e11
  cases e10
  cases e8
  cases e5
  obtain ⟨r, e6, e7⟩ := e2
  cases e7
  exact ⟨d1, k1, W2, d2, k2, W3, d3, k3, e3, e4, e9, e6⟩
end

section
variable {X : Cx} {a b c e : Expr} {es : List Expr} {f g h : Ex} {fs : List Ex} {op : Op} {pos : Pos} {x : Str} {p : Pos}
theorem px_var (i : Nat) {x : Str} {pos : Pos} (hN : X.N[i]? = some x := by rfl) (hv : Vis X.env.scope x := by first | exact Or.inl rfl | exact Or.inr (Or.inl rfl) | exact Or.inr (Or.inr rfl)) (hd : (x == ("__debug__" : Str)) = false := by decide)
    (hcd : (x == ("__classdict__" : Str)) = false := by decide) : PX X (.Name x pos) (cVar i) :=
  PE.imp (pe_var hN hv hd hcd) fun σ H Q q => by
    obtain ⟨B, Gb, G, env, W, d, k, W', S, e, c⟩ := q
    unfold cVar at e
    split at e
    · rename_i d' he
      cases e
      obtain ⟨v, h1, h2⟩ := S.pl i _ he
      exact ⟨v, h1, c v G H (Same.refl _) S h2⟩
    · rename_i d' he
      cases e
      obtain ⟨p, o, h1, _⟩ := S.ow i _ he
      exact ⟨_, h1, c _ G H (Same.refl _) S ⟨h1, .inl he⟩⟩
    · rename_i od o d' he
      cases e
      obtain ⟨p, h1, _⟩ := S.lk i _ _ _ he
      exact ⟨_, h1, c _ G H (Same.refl _) S ⟨h1, .inr ⟨_, _, he⟩⟩⟩
    · cases e
theorem px_c {v : V} {d : PyData} (h : PE X e (tC v)) (hr : ∀ G, Rp X.K G v d) : PX X e (cK d) := PE.imp h fun σ H Q q => by
  obtain ⟨B, Gb, G, env, W, d, k, W', S, e, c⟩ := q
  cases e
  exact c v G H (Same.refl _) S (hr G)
theorem px_int {i : Int} {j : Nat} {pos : Pos} : PX X (.Constant (.int i) j pos) (cK (.int i)) := px_c pe_int fun _ => .int i
theorem px_bool {i : Bool} {j : Nat} {pos : Pos} : PX X (.Constant (.bool i) j pos) (cK (.bool i)) := px_c pe_bl fun _ => .bl i
theorem px_none {j : Nat} {pos : Pos} : PX X (.Constant .none j pos) (cK .none) := px_c pe_non fun _ => .non
theorem px_str {x : Str} {j : Nat} {pos : Pos} (h : PyData.strOk x = true := by decide +kernel) : PX X (.Constant (.str x) j pos) (cK (.str x)) := px_c pe_str fun _ => .str x h
theorem px_bin {o : Operator} (ho : OpR X (binaryOp o) (fun x y => rV X.K op [x, y])) (ha : PX X a f) (hb : PX X b g) : PX X (.BinOp a o b pos) (cCall op [f, g]) :=
  PE.imp (pe_op ho ha hb) fun σ H Q q => by
    obtain ⟨B, Gb, G, env, W, d, k, W', S, e, c⟩ := q
    obtain ⟨d1, k1, W1, d2, k2, e1, e2, e3⟩ := cCall_two e
    refine ⟨B, Gb, G, env, W, d1, k1, W1, S, e1, fun v1 G1 H1 s1 S1 h1 => step2 S1 h1 e2 fun v2 G2 H2 s2 S2 h1' h2' ne => ?_⟩
    exact ⟨B, Gb, G2, σ, env, W', [(d1, k1), (d2, k2)], d, k, S2, ⟨h1', fun e q hq eq => by simp at hq; subst hq; exact ne e eq, h2', (fun _ q hq => by simp at hq), trivial⟩, e3, c.sub (s1.trans s2)⟩
theorem px_cmp {o : CmpOp} (ho : OpR X (compareOp o) (fun x y => rV X.K op [x, y])) (ha : PX X a f) (hb : PX X b g) (hm : behindInMarks o b = false) : PX X (.Compare a [o] [b] pos) (cCall op [f, g]) :=
  PE.imp (pe_cmpR ho ha hb hm) fun σ H Q q => by
    obtain ⟨B, Gb, G, env, W, d, k, W', S, e, c⟩ := q
    obtain ⟨d1, k1, W1, d2, k2, e1, e2, e3⟩ := cCall_two e
    refine ⟨B, Gb, G, env, W, d1, k1, W1, S, e1, fun v1 G1 H1 s1 S1 h1 => step2 S1 h1 e2 fun v2 G2 H2 s2 S2 h1' h2' ne => ?_⟩
    exact ⟨B, Gb, G2, σ, env, W', [(d1, k1), (d2, k2)], d, k, S2, ⟨h1', fun e q hq eq => by simp at hq; subst hq; exact ne e eq, h2', (fun _ q hq => by simp at hq), trivial⟩, e3, c.sub (s1.trans s2)⟩
theorem px_un {o : UnaryOp} (ho : UnR X (unaryOp o) (fun x => rV X.K op [x])) (ha : PX X a f) : PX X (.UnaryOp o a pos) (cCall op [f]) :=
  PE.imp (pe_un ho ha) fun σ H Q q => by
    obtain ⟨B, Gb, G, env, W, d, k, W', S, e, c⟩ := q
    obtain ⟨d1, k1, e1, e3⟩ := cCall_one e
    refine ⟨B, Gb, G, env, W, d1, k1, W', S, e1, fun v1 G1 H1 s1 S1 h1 => ?_⟩
    exact ⟨B, Gb, G1, σ, env, W', [(d1, k1)], d, k, S1, ⟨h1, (fun _ q hq => by simp at hq), trivial⟩, e3, c.sub s1⟩
theorem tA_call {t : TE} {r : List V → Hp → VK → Prop} (hr : ∀ vs H Q, rV X.K op vs H Q → r vs H Q) (ht : ∀ σ H Q, tA X.K fs σ H (fun vs H1 => r vs H1 Q) → t σ H Q) : ∀ σ H Q, tE X.K (cCall op fs) σ H Q → t σ H Q := fun σ H Q q => by
  obtain ⟨B, Gb, G, env, W, d, k, W', S, e, c⟩ := q
  unfold cCall at e
  rw [Option.bind_eq_some_iff] at e
  obtain ⟨⟨ds, W1⟩, e1, e2⟩ := e
  rw [Option.map_eq_some_iff] at e2
  obtain ⟨⟨d', k'⟩, e3, e4⟩ := e2
  cases e4
  exact ht σ H Q ⟨B, Gb, G, env, W, ds, W1, S, e1, fun vs G1 H1 s1 S1 p1 => hr _ _ _ ⟨B, Gb, G1, σ, env, W1, ds, _, _, S1, p1, e3, c.sub s1⟩⟩
theorem px_callB {id : String} (hc : CallR X (.builtin id) (rV X.K op)) (hg : Gl X x) (hm : X.mg x = none) (hv : bootBuiltins x = some (.builtin id)) (ha : PXs X (e :: es) fs) (hn : x ≠ "__name__" := by decide) (hdb : (x == ("__debug__" : Str)) = false := by decide)
    (he : starEach (e :: es) X.env = (false, eval e X.env) :: starEach es X.env := by rfl) (hpl : (backTo pos (starEach es X.env)).any (·.1) = false := by rfl) : PX X (.Call (.Name x p) (e :: es) [] pos) (cCall op fs) :=
  PE.imp (pe_callB hc hg hm hv ha hn hdb he hpl) (tA_call (fun _ _ _ h => h) fun _ _ _ h => h)
theorem px_callTy {T : String} (hc : CallR X (.type T) (rV X.K op)) (hg : Gl X x) (hm : X.mg x = none) (hv : bootBuiltins x = some (.type T)) (ha : PXs X (e :: es) fs) (hn : x ≠ "__name__" := by decide) (hdb : (x == ("__debug__" : Str)) = false := by decide)
    (he : starEach (e :: es) X.env = (false, eval e X.env) :: starEach es X.env := by rfl) (hpl : (backTo pos (starEach es X.env)).any (·.1) = false := by rfl) : PX X (.Call (.Name x p) (e :: es) [] pos) (cCall op fs) :=
  PE.imp (pe_callTy hc hg hm hv ha hn hdb he hpl) (tA_call (fun _ _ _ h => h) fun _ _ _ h => h)

/-! ### displays -/
def oTup : Op := fun ds => if ds.all (fun t => esc t.2) && decide (ds.length ≤ 1000) then some (.tuple (ds.map (·.1)), .im) else none
def oLst : Op := fun ds => if ds.all (fun t => esc t.2) && decide (ds.length ≤ 1000) then some (.list (ds.map (·.1)), .fr) else none
theorem Pend.length {K : PySem.W.Frag} {B G H : Hp} {σ : L2.St} {env : SEnv} : ∀ {vs : List V} {ds : List Dk}, Pend K B G H σ env vs ds → vs.length = ds.length
  | [], [], _ => rfl
  | _ :: _, _ :: _, h => congrArg (· + 1) (Pend.length h.2.2)
  | [], _ :: _, h => h.elim
  | _ :: _, [], h => h.elim
theorem px_tup {k : Nat} (ha : PXs X es fs) : PX X (.Tuple es k pos) (cCall oTup fs) := by
  refine PE.imp (pe_tup ha) (tA_call (r := fun xs H1 Q => xs.length ≤ sizeLine ∧ ∀ p, H1 p = none → Q (.ref p) (upd H1 p (.tup xs))) (fun vs H Q h => ?_) fun _ _ _ h => h)
  obtain ⟨B, Gb, G, σ, env, W, ds, d, k, S, p, e, c⟩ := h
  unfold oTup at e
  split at e
  · rename_i hs
    cases e
    rw [Bool.and_eq_true, decide_eq_true_eq] at hs
    obtain ⟨G1, s1, S1, r⟩ := freezeL S p hs.1
    refine ⟨?_, fun q hq => (c.sub s1).tup S1 hq r⟩
    rw [p.length, sizeLine_eq]
    omega
  · cases e
theorem px_lst (ha : PXs X es fs) : PX X (.List es pos) (cCall oLst fs) := by
  refine PE.imp (pe_lst ha) (tA_call (r := fun xs H1 Q => xs.length ≤ sizeLine ∧ ∀ p, H1 p = none → Q (.ref p) (upd H1 p (.lst xs))) (fun vs H Q h => ?_) fun _ _ _ h => h)
  obtain ⟨B, Gb, G, σ, env, W, ds, d, k, S, p, e, c⟩ := h
  unfold oLst at e
  split at e
  · rename_i hs
    cases e
    rw [Bool.and_eq_true, decide_eq_true_eq] at hs
    obtain ⟨G1, s1, S1, r⟩ := freezeL S p hs.1
    refine ⟨?_, fun q hq => (c.sub s1).fr S1 hq r⟩
    rw [p.length, sizeLine_eq]
    omega
  · cases e

/-! ### a call of a def of the text -/
/-- the promise: from data to a datum -/
def spF (K : PySem.W.Frag) (n : Nat) (F : List PyData → Option PyData) : Sp := fun vs H Q _ => vs.length = n ∧ ∃ G ds d, Same G H ∧ RpL K G vs ds ∧ F ds = some d ∧
  ∀ v G1 H1, Same H H1 → Same G G1 → Same G1 H1 → (∀ a o, H a = some o → G1 a ≠ none → G a ≠ none ∨ ∃ xs, o = .tup xs) → Rp K G1 v d → Q v H1
def cFn (F : List PyData → Option PyData) (fs : List Ex) : Ex := fun env W => (cArgs fs env W).bind fun q => if q.1.all (fun t => esc t.2) then (F (q.1.map (·.1))).map fun d => (d, .im, q.2) else none
/-- the state behind a call that keeps all that stood -/
theorem Sta.after {K : PySem.W.Frag} {B Gb G H G1 H1 : Hp} {σ : L2.St} {env : SEnv} {W : List Int} (S : Sta K B Gb G H σ env W) (h : Same H H1) (g : Same G G1) (s1 : Same G1 H1)
    (hn : ∀ a o, H a = some o → G1 a ≠ none → G a ≠ none ∨ ∃ xs, o = .tup xs) : Sta K B Gb G1 H1 σ env W := by
  have free : ∀ p o, H p = some o → (∀ xs, o ≠ .tup xs) → G p = none → G1 p = none := fun p o e ht hg => by
    cases q : G1 p with
    | none => rfl
    | some x =>
      rcases hn p o e (by rw [q]; simp) with z | ⟨xs, z⟩
      · exact absurd hg z
      · exact absurd z (ht xs)
  exact {
    sg := s1
    sb := S.sb.trans h
    sgb := S.sgb.trans g
    gb := fun a o e n => by
      rcases hn a o (S.sb _ _ e) n with z | z
      · exact S.gb a o e z
      · exact .inr z
    len := S.len
    pl := fun i d e => by
      obtain ⟨v, h1, h2⟩ := S.pl i d e
      exact ⟨v, h1, Rp.mono (Sub.of g) h2⟩
    ow := fun i d e => by
      obtain ⟨p, o, h1, h2, h3, h4, h5⟩ := S.ow i d e
      exact ⟨p, o, h1, free p o h4 h5.notTup h2, h3, h _ _ h4, h5.mono (Sub.of g)⟩
    lk := fun i od o d e => by
      obtain ⟨p, h1, h2, h3, h4, h5, h6⟩ := S.lk i od o d e
      exact ⟨p, h1, free p _ h4 (fun _ z => nomatch z) h2, h3, h _ _ h4, h5.mono (Sub.of g), h6⟩
    wd := fun i => fun e => by
      obtain ⟨p, l, ns, k, h1, h2, h3, h4, h5, h6⟩ := S.wd i e
      exact ⟨p, l, ns, k, h1, free p _ h4 (fun _ z => nomatch z) h2, h3, h _ _ h4, g _ _ h5, h6⟩
    sc := fun i ns e => by
      obtain ⟨p, h1, h2⟩ := S.sc i ns e
      exact ⟨p, h1, g.seq h2⟩
    one := S.one
    sep := S.sep }
theorem px_fn {k n : Nat} {F : List PyData → Option PyData} {fa : Addr} {fd : FuncData} {ps : List Str} (hF : FnOk X.prog X.w X.K X.mg X.base CX0 k fa fd ps (spF X.K n F)) (hr : Room k X.A) (hg : Gl X x) (hm : X.mg x = some (.ref fa))
    (hk : PySem.W.keepIn X.K (.ref fa) = true) (hb : Binds X.K fd ps []) (ha : PXs X (e :: es) fs) (hn : (e :: es).length = n) (hdb : (x == ("__debug__" : Str)) = false := by decide)
    (he : starEach (e :: es) X.env = (false, eval e X.env) :: starEach es X.env := by rfl) (hpl : (backTo pos (starEach es X.env)).any (·.1) = false := by rfl) (hl : fs.length = n := by rfl) : PX X (.Call (.Name x p) (e :: es) [] pos) (cFn F fs) := by
  refine PE.imp (pe_call (E := E0) hF hr hg hm hk hb .nil pass0 ha hdb he hpl) fun σ H Q q => ?_
  obtain ⟨B, Gb, G, env, W, d, k, W', S, e, c⟩ := q
  unfold cFn at e
  rw [Option.bind_eq_some_iff] at e
  obtain ⟨⟨ds, W1⟩, e1, e2⟩ := e
  dsimp only at e2
  split at e2
  · rename_i hs
    rw [Option.map_eq_some_iff] at e2
    obtain ⟨d', e3, e4⟩ := e2
    cases e4
    refine ⟨B, Gb, G, env, W, ds, _, S, e1, fun vs G1 H1 s1 S1 p1 => ?_⟩
    obtain ⟨G2, s2, S2, r2⟩ := freezeL S1 p1 hs
    have hlen : ∀ (fs : List Ex) (env : SEnv) (W : List Int) (ds : List Dk) (W1 : List Int), cArgs fs env W = some (ds, W1) → ds.length = fs.length := by
      intro fs
      induction fs with
      | nil => intro env W ds W1 h; cases h; rfl
      | cons f fs ih =>
        intro env W ds W1 h
        rw [cArgs, Option.bind_eq_some_iff] at h
        obtain ⟨r, _, h⟩ := h
        rw [Option.map_eq_some_iff] at h
        obtain ⟨q, h1, h2⟩ := h
        cases h2
        rw [List.length_cons, List.length_cons, ih _ _ _ _ h1]
    rw [List.append_nil]
    refine ⟨by rw [p1.length, hlen _ _ _ _ _ e1, hl], G2, ds.map (·.1), _, S2.sg, r2, e3, fun v G3 H3 t1 t2 t3 t4 t5 => ?_⟩
    exact c v G3 H3 ((s1.trans s2).trans t2) (S2.after t1 t2 t3 t4) t5
  · cases e2
end
end PX

namespace PX
open PySem PySem.Spec PyProof.Rows L2

/-! ### tests -/
abbrev Ct := SEnv → List Int → Option (Bool × List Int)
def tT (K : PySem.W.Frag) (f : Ct) : TT := fun σ H Q => ∃ B Gb G env W b W', Sta K B Gb G H σ env W ∧ f env W = some (b, W') ∧ ∀ G' H', Same G G' → Sta K B Gb G' H' σ env W' → Q b H'
def PTX (X : Cx) (e : Expr) (f : Ct) : Prop := PT X e (tT X.K f)
def PWX (X : Cx) (e : Expr) (f : Ct) : Prop := PW X e (tT X.K f)
def bOf (f : Ex) : Ct := fun env W => match f env W with
  | some (.bool b, _, W') => some (b, W')
  | _ => none
def kAnd (f g : Ct) : Ct := fun env W => (f env W).bind fun r => if r.1 then g env r.2 else some (false, r.2)
def kOr (f g : Ct) : Ct := fun env W => (f env W).bind fun r => if r.1 then some (true, r.2) else g env r.2
def kNot (f : Ct) : Ct := fun env W => (f env W).map fun r => (!r.1, r.2)
def cAnd (f g : Ex) : Ex := fun env W => match f env W with
  | some (.bool b, _, W') => if b then g env W' else some (.bool false, .im, W')
  | _ => none
def cOr (f g : Ex) : Ex := fun env W => match f env W with
  | some (.bool b, _, W') => if b then some (.bool true, .im, W') else g env W'
  | _ => none
def cIf (t : Ct) (f g : Ex) : Ex := fun env W => (t env W).bind fun r => if r.1 then f env r.2 else g env r.2
def cNot (f : Ex) : Ex := fun env W => match f env W with
  | some (.bool b, _, W') => some (.bool (!b), .im, W')
  | _ => none
theorem PW.imp {X : Cx} {e : Expr} {t t' : TT} (h : PW X e t) (i : ∀ σ H Q, t' σ H Q → t σ H Q) : PW X e t' := ⟨fun w pins s σ H Q I q => h.run w pins s σ H Q I (i _ _ _ q)⟩
section
variable {X : Cx} {a b c e : Expr} {rest es : List Expr} {f g h : Ex} {ft gt ht : Ct} {op op' : Op} {pos : Pos}
theorem bOf_some {env : SEnv} {W : List Int} {b : Bool} {W' : List Int} (e : bOf f env W = some (b, W')) : ∃ k, f env W = some (.bool b, k, W') := by
  unfold bOf at e
  split at e
  · rename_i q
    cases e
    exact ⟨_, q⟩
  · cases e
theorem ptx_val (h : PX X e f) (he : ∀ whole, isTrue e X.env whole = (do let v ← whole; standAt e.pos; holding [v] (truthy v)) := by intro _; rfl) : PTX X e (bOf f) :=
  PT.imp (pt_val h he) fun σ H Q q => by
    obtain ⟨B, Gb, G, env, W, b, W', S, e, c⟩ := q
    obtain ⟨k, e1⟩ := bOf_some e
    exact ⟨B, Gb, G, env, W, _, k, W', S, e1, fun v G1 H1 s1 S1 h1 => ⟨b, h1.bool S1, c G1 H1 s1 S1⟩⟩
theorem ptx_not (h : PTX X a ft) : PTX X (.UnaryOp .Not a pos) (kNot ft) := PT.imp (pt_not h) fun σ H Q q => by
  obtain ⟨B, Gb, G, env, W, b, W', S, e, c⟩ := q
  unfold kNot at e
  rw [Option.map_eq_some_iff] at e
  obtain ⟨⟨b1, W1⟩, e1, e2⟩ := e
  cases e2
  exact ⟨B, Gb, G, env, W, b1, _, S, e1, c⟩
theorem pwx_and1 (h : PTX X a ft) : PWX X (.BoolOp .And [a] pos) ft := pw_and1 h
theorem pwx_or1 (h : PTX X a ft) : PWX X (.BoolOp .Or [a] pos) ft := pw_or1 h
theorem pwx_and (ha : PTX X a ft) (hb : PWX X (.BoolOp .And (b :: rest) pos) gt) : PWX X (.BoolOp .And (a :: b :: rest) pos) (kAnd ft gt) := PW.imp (pw_and ha hb) fun σ H Q q => by
  obtain ⟨B, Gb, G, env, W, b, W', S, e, c⟩ := q
  unfold kAnd at e
  rw [Option.bind_eq_some_iff] at e
  obtain ⟨⟨b1, W1⟩, e1, e2⟩ := e
  refine ⟨B, Gb, G, env, W, b1, W1, S, e1, fun G1 H1 s1 S1 => ?_⟩
  dsimp only at e2
  split at e2
  · rename_i hb1
    rw [if_pos hb1]
    exact ⟨B, Gb, G1, env, W1, b, W', S1, e2, fun G2 H2 s2 S2 => c G2 H2 (s1.trans s2) S2⟩
  · rename_i hb1
    rw [if_neg hb1]
    cases e2
    exact c G1 H1 s1 S1
theorem pwx_or (ha : PTX X a ft) (hb : PWX X (.BoolOp .Or (b :: rest) pos) gt) : PWX X (.BoolOp .Or (a :: b :: rest) pos) (kOr ft gt) := PW.imp (pw_or ha hb) fun σ H Q q => by
  obtain ⟨B, Gb, G, env, W, b, W', S, e, c⟩ := q
  unfold kOr at e
  rw [Option.bind_eq_some_iff] at e
  obtain ⟨⟨b1, W1⟩, e1, e2⟩ := e
  refine ⟨B, Gb, G, env, W, b1, W1, S, e1, fun G1 H1 s1 S1 => ?_⟩
  dsimp only at e2
  split at e2
  · rename_i hb1
    rw [if_pos hb1]
    cases e2
    exact c G1 H1 s1 S1
  · rename_i hb1
    rw [if_neg hb1]
    exact ⟨B, Gb, G1, env, W1, b, W', S1, e2, fun G2 H2 s2 S2 => c G2 H2 (s1.trans s2) S2⟩
theorem PWX.pt (h : PWX X e ft) : PTX X e ft := PW.pt h
theorem px_one {o : BoolOp} (h : PX X a f) : PX X (.BoolOp o [a] pos) f := pe_one h
theorem px_and (ha : PX X a f) (hb : PX X (.BoolOp .And (b :: rest) pos) g) : PX X (.BoolOp .And (a :: b :: rest) pos) (cAnd f g) := PE.imp (pe_and ha hb) fun σ H Q q => by
  obtain ⟨B, Gb, G, env, W, d, k, W', S, e, c⟩ := q
  unfold cAnd at e
  split at e
  · rename_i b1 k1 W1 e1
    refine ⟨B, Gb, G, env, W, _, _, _, S, e1, fun v G1 H1 s1 S1 h1 => ⟨b1, h1.bool S1, ?_⟩⟩
    split at e
    · rename_i hb1
      rw [if_pos hb1]
      exact ⟨B, Gb, G1, env, _, d, k, W', S1, e, c.sub s1⟩
    · rename_i hb1
      rw [if_neg hb1]
      cases e
      exact (c.sub s1).bool S1
  · cases e
theorem px_or (ha : PX X a f) (hb : PX X (.BoolOp .Or (b :: rest) pos) g) : PX X (.BoolOp .Or (a :: b :: rest) pos) (cOr f g) := PE.imp (pe_or ha hb) fun σ H Q q => by
  obtain ⟨B, Gb, G, env, W, d, k, W', S, e, c⟩ := q
  unfold cOr at e
  split at e
  · rename_i b1 k1 W1 e1
    refine ⟨B, Gb, G, env, W, _, _, _, S, e1, fun v G1 H1 s1 S1 h1 => ⟨b1, h1.bool S1, ?_⟩⟩
    split at e
    · rename_i hb1
      rw [if_pos hb1]
      cases e
      exact (c.sub s1).bool S1
    · rename_i hb1
      rw [if_neg hb1]
      exact ⟨B, Gb, G1, env, _, d, k, W', S1, e, c.sub s1⟩
  · cases e
theorem px_not (ha : PX X a f) : PX X (.UnaryOp .Not a pos) (cNot f) := PE.imp (pe_not ha) fun σ H Q q => by
  obtain ⟨B, Gb, G, env, W, d, k, W', S, e, c⟩ := q
  unfold cNot at e
  split at e
  · rename_i b1 k1 W1 e1
    cases e
    exact ⟨B, Gb, G, env, W, _, _, _, S, e1, fun v G1 H1 s1 S1 h1 => ⟨b1, h1.bool S1, (c.sub s1).bool S1⟩⟩
  · cases e
theorem px_if (hc : PTX X c ft) (ha : PX X a f) (hb : PX X b g) : PX X (.IfExp c a b pos) (cIf ft f g) := PE.imp (pe_ifExp hc ha hb) fun σ H Q q => by
  obtain ⟨B, Gb, G, env, W, d, k, W', S, e, c⟩ := q
  unfold cIf at e
  rw [Option.bind_eq_some_iff] at e
  obtain ⟨⟨b1, W1⟩, e1, e2⟩ := e
  refine ⟨B, Gb, G, env, W, b1, W1, S, e1, fun G1 H1 s1 S1 => ?_⟩
  dsimp only at e2
  split at e2
  · rename_i hb1
    rw [if_pos hb1]
    exact ⟨B, Gb, G1, env, W1, d, k, W', S1, e2, c.sub s1⟩
  · rename_i hb1
    rw [if_neg hb1]
    exact ⟨B, Gb, G1, env, W1, d, k, W', S1, e2, c.sub s1⟩
/-- a < b < c -/
def cChain (op op' : Op) (f g h : Ex) : Ex := fun env W => (f env W).bind fun r => (g env r.2.2).bind fun q => match q.2.1 with
  | .im => (match op [(r.1, r.2.1), (q.1, .im)] with
    | some (.bool b, .im) => if b then (h env q.2.2).bind fun t => (op' [(q.1, .im), (t.1, t.2.1)]).map fun z => (z.1, z.2, t.2.2) else some (.bool false, .im, q.2.2)
    | _ => none)
  | _ => none
theorem chain_of : ∀ σ H Q, tE X.K (cChain op op' f g h) σ H Q → tChain (fun x y => rV X.K op [x, y]) (fun x y => rV X.K op' [x, y]) (tE X.K f) (tE X.K g) (tE X.K h) σ H Q := fun σ H Q q => by
  obtain ⟨B, Gb, G, env, W, d, k, W', S, e, c⟩ := q
  unfold cChain at e
  rw [Option.bind_eq_some_iff] at e
  obtain ⟨⟨d1, k1, W1⟩, e1, e⟩ := e
  rw [Option.bind_eq_some_iff] at e
  obtain ⟨⟨d2, k2, W2⟩, e2, e⟩ := e
  dsimp only at e e2
  split at e
  · split at e
    · rename_i b1 e3
      refine ⟨B, Gb, G, env, W, d1, k1, W1, S, e1, fun v1 G1 H1 s1 S1 h1 => step2 S1 h1 e2 fun v2 G2 H2 s2 S2 h1' h2' ne => ?_⟩
      refine ⟨B, Gb, G2, σ, env, W2, [(d1, k1), (d2, .im)], _, _, S2, ⟨h1', fun e q hq eq => by simp at hq; subst hq; exact ne e eq, h2', (fun _ q hq => by simp at hq), trivial⟩, e3, fun v3 G3 H3 s3 S3 h3 => ⟨b1, h3.bool S3, ?_⟩⟩
      have h2'' : VOk X.K B G3 H3 σ env v2 d2 .im := Rp.mono (Sub.of s3) h2'
      split at e
      · rename_i hb1
        rw [if_pos hb1]
        rw [Option.bind_eq_some_iff] at e
        obtain ⟨⟨d3, k3, W3⟩, e4, e⟩ := e
        rw [Option.map_eq_some_iff] at e
        obtain ⟨⟨d4, k4⟩, e5, e6⟩ := e
        cases e6
        refine step2 S3 h2'' e4 fun v4 G4 H4 s4 S4 h2''' h4 ne => ?_
        exact ⟨B, Gb, G4, σ, env, W3, [(d2, .im), (d3, k3)], _, _, S4, ⟨h2''', (fun e => nomatch e), h4, (fun _ q hq => by simp at hq), trivial⟩, e5, c.sub (((s1.trans s2).trans s3).trans s4)⟩
      · rename_i hb1
        rw [if_neg hb1]
        cases e
        exact (c.sub ((s1.trans s2).trans s3)).bool S3
    · cases e
  · cases e
theorem px_chain {o o' : CmpOp} (ho : OpR X (compareOp o) (fun x y => rV X.K op [x, y])) (ho' : OpR X (compareOp o') (fun x y => rV X.K op' [x, y])) (ha : PX X a f) (hb : PX X b g) (hc : PX X c h)
    (hm : lastMarks [o, o'] [b, c] = false := by with_unfolding_all rfl) : PX X (.Compare a [o, o'] [b, c] pos) (cChain op op' f g h) := PE.imp (pe_chain ho ho' ha hb hc hm) chain_of
theorem ptx_chain {o o' : CmpOp} (ho : OpR X (compareOp o) (fun x y => rV X.K op [x, y])) (ho' : OpR X (compareOp o') (fun x y => rV X.K op' [x, y])) (ha : PX X a f) (hb : PX X b g) (hc : PX X c h)
    (hm : lastMarks [o, o'] [b, c] = false := by with_unfolding_all rfl) : PTX X (.Compare a [o, o'] [b, c] pos) (bOf (cChain op op' f g h)) := PT.imp (pt_chain ho ho' ha hb hc hm) fun σ H Q q => by
  obtain ⟨B, Gb, G, env, W, b, W', S, e, c⟩ := q
  obtain ⟨k, e1⟩ := bOf_some e
  refine chain_of σ H _ ⟨B, Gb, G, env, W, _, k, W', S, e1, fun v G1 H1 s1 S1 h1 => ?_⟩
  exact ⟨b, h1.bool S1, c G1 H1 s1 S1⟩
end
end PX

namespace PX
open PySem PySem.Spec PyProof.Rows L2

section
variable {X : Cx} {a b c e o : Expr} {rest es : List Expr} {f g h : Ex} {op : Op} {pos : Pos}
theorem ptx_cmp {o : CmpOp} (ho : OpR X (compareOp o) (fun x y => rV X.K op [x, y])) (ha : PX X a f) (hb : PX X b g) (hm : behindInMarks o b = false) : PTX X (.Compare a [o] [b] pos) (bOf (cCall op [f, g])) :=
  PT.imp (pt_cmpR ho ha hb hm) fun σ H Q q => by
    obtain ⟨B, Gb, G, env, W, b, W', S, e, c⟩ := q
    obtain ⟨k, e1⟩ := bOf_some e
    obtain ⟨d1, k1, W1, d2, k2, e1, e2, e3⟩ := cCall_two e1
    refine ⟨B, Gb, G, env, W, d1, k1, W1, S, e1, fun v1 G1 H1 s1 S1 h1 => step2 S1 h1 e2 fun v2 G2 H2 s2 S2 h1' h2' ne => ?_⟩
    exact ⟨B, Gb, G2, σ, env, W', [(d1, k1), (d2, k2)], _, k, S2, ⟨h1', fun e q hq eq => by simp at hq; subst hq; exact ne e eq, h2', (fun _ q hq => by simp at hq), trivial⟩, e3, fun v3 G3 H3 s3 S3 h3 => ⟨b, h3.bool S3, c G3 H3 ((s1.trans s2).trans s3) S3⟩⟩

theorem step3 {K : PySem.W.Frag} {B Gb G H : Hp} {σ : L2.St} {env : SEnv} {W W2 W3 : List Int} {v : V} {d d2 d3 : PyData} {k k2 k3 : Kd} {P : V → V → Hp → Prop} (S : Sta K B Gb G H σ env W) (h1 : VOk K B G H σ env v d k) (hg : g env W = some (d2, k2, W2)) (hh : h env W2 = some (d3, k3, W3))
    (hP : ∀ v2 v3 G' H', Same G G' → Sta K B Gb G' H' σ env W3 → VOk K B G' H' σ env v d k → VOk K B G' H' σ env v2 d2 k2 → VOk K B G' H' σ env v3 d3 k3 → P v2 v3 H') : tE K g σ H (fun y H2 => tE K h σ H2 (fun z H3 => P y z H3)) :=
  ⟨prot H v k B, Gb, G, env, W, d2, k2, W2, S.prot h1, hg, fun v2 G2 H2 s2 S2 h2 => step2 S2 h2 hh fun v3 G3 H3 s3 S3 h2' h3 ne =>
    hP v2 v3 G3 H3 (s2.trans s3) (S3.unprot (prot_same h1)) (VOk.kept S h1 (s2.trans s3) S3) (VOk.base (prot_same h1) h2') (VOk.base (prot_same h1) h3)⟩

/-! ### subscripts -/
def oIx : Op
  | [(.list ds, _), (.int i, _)] => (atI ds i).map fun d => (d, .im)
  | [(.tuple ds, _), (.int i, _)] => (atI ds i).map fun d => (d, .im)
  | [(.dict es, _), (k, _)] => if keyFit es k then (dget (ents es) k).map fun d => (d, .im) else none
  | _ => none
theorem RpL.atI {K : PySem.W.Frag} {G : Hp} {xs : List V} {ds : List PyData} (r : RpL K G xs ds) {i : Int} {d : PyData} (h : L2.atI ds i = some d) : ∃ v, L2.atI xs i = some v ∧ Rp K G v d := by
  unfold L2.atI at *
  rw [Option.bind_eq_some_iff] at h
  obtain ⟨j, h1, h2⟩ := h
  obtain ⟨v, h3, h4⟩ := r.get h2
  exact ⟨v, by rw [r.length, h1]; exact h3, h4⟩
theorem px_ix (hu : X.A.units + 200 < cLine) (ha : PX X a f) (hb : PX X b g) (hs : PlainIx b := by intro _ _; rfl) : PX X (.Subscript a b pos) (cCall oIx [f, g]) := by
  refine ⟨fun pins s σ H Q I q => ?_⟩
  obtain ⟨B, Gb, G, env, W, d, k, W', S, e, c⟩ := q
  obtain ⟨d1, k1, W1, d2, k2, e1, e2, e3⟩ := cCall_two e
  unfold oIx at e3
  split at e3
  · rename_i q
    cases q
    rw [Option.map_eq_some_iff] at e3
    obtain ⟨d', e3, e4⟩ := e3
    cases e4
    refine (pe_ix ix_list ha hb hs).run pins s σ H Q I ⟨B, Gb, G, env, W, _, _, W1, S, e1, fun v1 G1 H1 s1 S1 h1 => step2 S1 h1 e2 fun v2 G2 H2 s2 S2 h1' h2' ne => ?_⟩
    obtain ⟨p, xs, rfl, hx, rx⟩ := h1'.list S2
    obtain rfl := h2'.int S2
    obtain ⟨v, hv, rv⟩ := rx.atI e3
    exact ⟨p, xs, _, v, rfl, rfl, .of hx, hv, (c.sub (s1.trans s2)).im S2 rv⟩
  · rename_i q
    cases q
    rw [Option.map_eq_some_iff] at e3
    obtain ⟨d', e3, e4⟩ := e3
    cases e4
    refine (pe_ix ix_tup ha hb hs).run pins s σ H Q I ⟨B, Gb, G, env, W, _, _, W1, S, e1, fun v1 G1 H1 s1 S1 h1 => step2 S1 h1 e2 fun v2 G2 H2 s2 S2 h1' h2' ne => ?_⟩
    obtain ⟨p, xs, rfl, hx, rx⟩ := h1'.tuple S2
    obtain rfl := h2'.int S2
    obtain ⟨v, hv, rv⟩ := rx.atI e3
    exact ⟨p, xs, _, v, rfl, rfl, (Sub.of S2.sg).sqT hx.sqT, hv, (c.sub (s1.trans s2)).im S2 rv⟩
  · rename_i q
    cases q
    split at e3
    · rename_i hf
      rw [Option.map_eq_some_iff] at e3
      obtain ⟨d', e3, e4⟩ := e3
      cases e4
      refine (pe_dget (by omega) ha hb hs).run pins s σ H Q I ⟨B, Gb, G, env, W, _, _, W1, S, e1, fun v1 G1 H1 s1 S1 h1 => step2 S1 h1 e2 fun v2 G2 H2 s2 S2 h1' h2' ne => ?_⟩
      obtain ⟨a, ov, rfl, hg, r⟩ := dget_of S2 h1' h2' hf
      rw [e3] at r
      cases ov with
      | none => exact r.elim
      | some v => exact ⟨a, v, rfl, hg, (c.sub (s1.trans s2)).im S2 r⟩
    · cases e3
  · cases e3

/-! ### slices -/
def cutD (ds : List PyData) (lo hi : Option Int) : List PyData := (ds.drop (HT.sIx ds.length 0 lo)).take (HT.sIx ds.length ds.length hi - HT.sIx ds.length 0 lo)
def part (o : Option Ex) (env : SEnv) (W : List Int) : Option (Option Int × List Int) := match o with
  | none => some (none, W)
  | some f => match f env W with
    | some (.int i, _, W') => some (some i, W')
    | _ => none
def oSl (d : PyData) (lo hi : Option Int) : Option Dk := match d with
  | .list ds => some (.list (cutD ds lo hi), .fr)
  | .tuple ds => some (.tuple (cutD ds lo hi), .im)
  | _ => none
def cSlice (f : Ex) (lo hi : Option Ex) : Ex := fun env W => (f env W).bind fun r => (part lo env r.2.2).bind fun l => (part hi env l.2).bind fun u => (oSl r.1 l.1 u.1).map fun z => (z.1, z.2, u.2)
def tP (K : PySem.W.Frag) (f : Option Ex) : TO := fun σ H Q => ∃ B Gb G env W i W', Sta K B Gb G H σ env W ∧ part f env W = some (i, W') ∧ ∀ G' H', Same G G' → Sta K B Gb G' H' σ env W' → Q i H'
def POX (X : Cx) (e : Option Expr) (f : Option Ex) : Prop := PO X e (tP X.K f)
theorem PO.imp {e : Option Expr} {t t' : TO} (h : PO X e t) (i : ∀ σ H Q, t' σ H Q → t σ H Q) : PO X e t' := ⟨fun pins s σ H Q I q => h.run pins s σ H Q I (i _ _ _ q)⟩
theorem pox_none : POX X none none := PO.imp po_none fun σ H Q q => by
  obtain ⟨B, Gb, G, env, W, i, W', S, e, c⟩ := q
  cases e
  exact c G H (Same.refl _) S
theorem pox_some (h : PX X e f) : POX X (some e) (some f) := PO.imp (po_some h) fun σ H Q q => by
  obtain ⟨B, Gb, G, env, W, i, W', S, e, c⟩ := q
  unfold part at e
  dsimp only at e
  split at e
  · rename_i i1 k1 W1 e1
    cases e
    exact ⟨B, Gb, G, env, W, _, _, _, S, e1, fun v G1 H1 s1 S1 h1 => ⟨i1, h1.int S1, c G1 H1 s1 S1⟩⟩
  · cases e
theorem cutV_eq (xs : List V) (lo hi : Option Int) (n : Nat) (h : xs.length = n) : cutV xs lo hi = (xs.drop (HT.sIx n 0 lo)).take (HT.sIx n n hi - HT.sIx n 0 lo) := by
  subst h
  rfl
theorem RpL.cut {K : PySem.W.Frag} {G : Hp} {xs : List V} {ds : List PyData} (r : RpL K G xs ds) (lo hi : Option Int) : RpL K G (cutV xs lo hi) (cutD ds lo hi) := by
  rw [cutV_eq xs lo hi _ r.length]
  exact (r.drop _).take _
theorem cut_whole {ds : List PyData} {lo hi : Option Int} (h : HT.sIx ds.length 0 lo = 0 ∧ HT.sIx ds.length ds.length hi = ds.length) : cutD ds lo hi = ds := by
  unfold cutD
  rw [h.1, h.2, List.drop_zero, Nat.sub_zero, List.take_length]
theorem part_kept {K : PySem.W.Frag} {B Gb G H : Hp} {σ : L2.St} {env : SEnv} {W W' : List Int} {v : V} {d : PyData} {k : Kd} {o : Option Ex} {i : Option Int} {P : Option Int → Hp → Prop} (S : Sta K B Gb G H σ env W) (h : VOk K B G H σ env v d k)
    (e : part o env W = some (i, W')) (hP : ∀ G' H', Same G G' → Sta K B Gb G' H' σ env W' → VOk K B G' H' σ env v d k → P i H') : tP K o σ H P :=
  ⟨prot H v k B, Gb, G, env, W, i, W', S.prot h, e, fun G' H' sg S' => hP G' H' sg (S'.unprot (prot_same h)) (VOk.kept S h sg S')⟩
theorem px_slice {lo hi : Option Expr} {fl fh : Option Ex} {p2 : Pos} (ha : PX X a f) (hl : POX X lo fl) (hh : POX X hi fh) : PX X (.Subscript a (.Slice lo hi none p2) pos) (cSlice f fl fh) :=
  PE.imp (pe_slice (SlR.or sl_list sl_tupA) ha hl hh) fun σ H Q q => by
    obtain ⟨B, Gb, G, env, W, d, k, W', S, e, c⟩ := q
    unfold cSlice at e
    rw [Option.bind_eq_some_iff] at e
    obtain ⟨⟨d1, k1, W1⟩, e1, e⟩ := e
    rw [Option.bind_eq_some_iff] at e
    obtain ⟨⟨l, W2⟩, e2, e⟩ := e
    rw [Option.bind_eq_some_iff] at e
    obtain ⟨⟨u, W3⟩, e3, e⟩ := e
    rw [Option.map_eq_some_iff] at e
    obtain ⟨⟨d4, k4⟩, e4, e5⟩ := e
    cases e5
    refine ⟨B, Gb, G, env, W, d1, k1, W1, S, e1, fun v1 G1 H1 s1 S1 h1 => part_kept S1 h1 e2 fun G2 H2 s2 S2 h2 => part_kept S2 h2 e3 fun G3 H3 s3 S3 h3 => ?_⟩
    dsimp only at e4
    unfold oSl at e4
    split at e4
    · cases e4
      obtain ⟨p, xs, rfl, hx, rx⟩ := h3.list S3
      exact .inl ⟨p, xs, rfl, .of hx, fun q hq => (c.sub ((s1.trans s2).trans s3)).fr S3 hq (rx.cut _ _)⟩
    · cases e4
      obtain ⟨p, xs, rfl, hx, rx⟩ := h3.tuple S3
      refine .inr ⟨p, xs, rfl, (Sub.of S3.sg).sqT hx.sqT, fun hw => ?_, fun _ q hq => (c.sub ((s1.trans s2).trans s3)).tup S3 hq (rx.cut _ _)⟩
      rw [rx.length] at hw
      have c' := c.sub ((s1.trans s2).trans s3)
      rw [cut_whole hw] at c'
      exact c'.im S3 (.tup hx rx)
    · cases e4
def oBack : Op
  | [(.list ds, _)] => some (.list ds.reverse, .fr)
  | [(.tuple ds, _)] => some (.tuple ds.reverse, .im)
  | _ => none
theorem px_back {k : Nat} {p1 p2 p3 : Pos} (ha : PX X a f) : PX X (.Subscript a (.Slice none none (some (.UnaryOp .USub (.Constant (.int 1) k p1) p2)) p3) pos) (cCall oBack [f]) :=
  PE.imp (pe_back ha) fun σ H Q q => by
    obtain ⟨B, Gb, G, env, W, d, k, W', S, e, c⟩ := q
    obtain ⟨d1, k1, e1, e2⟩ := cCall_one e
    refine ⟨B, Gb, G, env, W, d1, k1, W', S, e1, fun v1 G1 H1 s1 S1 h1 => ?_⟩
    unfold oBack at e2
    split at e2
    · rename_i q
      cases q
      cases e2
      obtain ⟨p, xs, rfl, hx, rx⟩ := h1.list S1
      exact .inl ⟨p, xs, rfl, .of hx, fun q hq => (c.sub s1).fr S1 hq rx.reverse⟩
    · rename_i q
      cases q
      cases e2
      obtain ⟨p, xs, rfl, hx, rx⟩ := h1.tuple S1
      exact .inr ⟨p, xs, rfl, (Sub.of S1.sg).sqT hx.sqT, fun q hq => (c.sub s1).tup S1 hq rx.reverse⟩
    · cases e2
/-! ### d.get -/
def oGet1 : Op
  | [(.dict es, _), (k, _)] => if keyFit es k then some ((dget (ents es) k).getD .none, .im) else none
  | _ => none
def oGet2 : Op
  | [(.dict es, _), (k, _), (x, kx)] => if keyFit es k then (match dget (ents es) k with | some d => some (d, .im) | none => some (x, kx)) else none
  | _ => none
theorem px_get1 (hu : X.A.units + 200 < cLine) {apos cpos : Pos} (ha : PX X a f) (hb : PX X b g) (m : M1 X a "get" apos b cpos := by exact ⟨rfl, rfl, rfl, rfl⟩) : PX X (.Call (.Attribute a "get" apos) [b] [] cpos) (cCall oGet1 [f, g]) :=
  PE.imp (pe_dget1 (by omega) ha hb m) fun σ H Q q => by
    obtain ⟨B, Gb, G, env, W, d, k, W', S, e, c⟩ := q
    obtain ⟨d1, k1, W1, d2, k2, e1, e2, e3⟩ := cCall_two e
    unfold oGet1 at e3
    split at e3
    · rename_i q
      cases q
      split at e3
      · rename_i hf
        cases e3
        refine ⟨B, Gb, G, env, W, _, _, W1, S, e1, fun v1 G1 H1 s1 S1 h1 => ?_⟩
        obtain ⟨x, ex, hd⟩ := h1.dict S1
        refine ⟨x, ex, hd.elim (fun ⟨kvs, z, _⟩ => .inl ⟨kvs, z⟩) (fun ⟨ob, xs, ds, z, _⟩ => absurd hf (by rw [z]; simp [keyFit, isT, rowE])), step2 S1 h1 e2 fun v2 G2 H2 s2 S2 h1' h2' ne => ?_⟩
        obtain ⟨y, ov, ey, hg, r⟩ := dget_of S2 h1' h2' hf
        rw [ex] at ey
        cases ey
        refine ⟨ov, hg, (c.sub (s1.trans s2)).im S2 ?_⟩
        generalize dget (ents _) _ = od at r ⊢
        cases ov <;> cases od <;> first | exact r.elim | exact .non | exact r
      · cases e3
    · cases e3
theorem px_get2 (hu : X.A.units + 200 < cLine) {apos cpos : Pos} (ha : PX X a f) (hb : PX X b g) (hc : PX X c h) (m : M2 X a "get" apos b c cpos := by exact ⟨rfl, rfl, rfl, rfl⟩) : PX X (.Call (.Attribute a "get" apos) [b, c] [] cpos) (cCall oGet2 [f, g, h]) :=
  PE.imp (pe_dget2 (by omega) ha hb hc m) fun σ H Q q => by
    obtain ⟨B, Gb, G, env, W, d, k, W', S, e, c⟩ := q
    obtain ⟨d1, k1, W1, d2, k2, W2, d3, k3, e1, e2, e3, e4⟩ := cCall_three e
    unfold oGet2 at e4
    split at e4
    · rename_i q
      cases q
      split at e4
      · rename_i hf
        refine ⟨B, Gb, G, env, W, _, _, W1, S, e1, fun v1 G1 H1 s1 S1 h1 => ?_⟩
        obtain ⟨x, ex, hd⟩ := h1.dict S1
        refine ⟨x, ex, hd.elim (fun ⟨kvs, z, _⟩ => .inl ⟨kvs, z⟩) (fun ⟨ob, xs, ds, z, _⟩ => absurd hf (by rw [z]; simp [keyFit, isT, rowE])), step3 S1 h1 e2 e3 fun v2 v3 G2 H2 s2 S2 h1' h2' h3' => ?_⟩
        obtain ⟨y, ov, ey, hg, r⟩ := dget_of S2 h1' h2' hf
        rw [ex] at ey
        cases ey
        refine ⟨ov, hg, ?_⟩
        have c' := c.sub (s1.trans s2)
        cases hd : dget (ents _) _ with
        | none =>
          rw [hd] at r e4
          cases e4
          cases ov with
          | none => exact c' v3 G2 H2 (Same.refl _) S2 h3'
          | some v => exact r.elim
        | some d' =>
          rw [hd] at r e4
          cases e4
          cases ov with
          | none => exact r.elim
          | some v => exact c'.im S2 r
      · cases e4
    · cases e4
end
end PX

namespace PX
open PySem PySem.Spec PyProof.Rows L2

/-! ### changes of the slots -/
def SlFit (K : PySem.W.Frag) (B G H : Hp) (v : V) : Sl → Prop
  | .no => True
  | .pl d => Rp K G v d
  | .ow d => ∃ p o, v = .ref p ∧ G p = none ∧ B p = none ∧ H p = some o ∧ RpO K G o d
  | _ => False
section
variable {K : PySem.W.Frag} {B Gb G H : Hp} {σ : L2.St} {env : SEnv} {W : List Int} {v : V} {d : PyData}
theorem get_set {α : Type} {l : List α} {i j : Nat} {a b : α} (h : (l.set i a)[j]? = some b) : (j = i ∧ b = a) ∨ (j ≠ i ∧ l[j]? = some b) := by
  by_cases e : j = i
  · subst e
    by_cases hl : j < l.length
    · rw [List.getElem?_set_self hl] at h
      cases h
      exact .inl ⟨rfl, rfl⟩
    · rw [List.getElem?_eq_none (by simpa using hl)] at h
      cases h
  · rw [List.getElem?_set_ne (Ne.symm e)] at h
    exact .inr ⟨e, h⟩
theorem Own.set {i j : Nat} {s : Sl} {p : Addr} (hl : env.length = σ.length) (h : Own (env.set i s) (σ.set i (some v)) j p) : (j = i ∧ s.own = true ∧ v = .ref p) ∨ (j ≠ i ∧ Own env σ j p) := by
  obtain ⟨⟨t, e, o⟩, q⟩ := h
  rcases get_set e with ⟨rfl, rfl⟩ | ⟨ne, e⟩
  · rcases get_set q with ⟨_, q⟩ | ⟨z, _⟩
    · cases q; exact .inl ⟨rfl, o, rfl⟩
    · exact absurd rfl z
  · rcases get_set q with ⟨z, _⟩ | ⟨_, q⟩
    · exact absurd z ne
    · exact .inr ⟨ne, ⟨t, e, o⟩, q⟩
theorem set_at {α : Type} {l : List α} {i : Nat} {a : α} {n : Nat} (h : i < n) (hl : l.length = n) : (l.set i a)[i]? = some a := List.getElem?_set_self (by omega)
theorem Sta.setSl (S : Sta K B Gb G H σ env W) (i : Nat) (s : Sl) (v : V) (hs : SlFit K B G H v s) (hsep : s.own = true → ∀ p, v = .ref p → ∀ j, j ≠ i → ¬ Own env σ j p) :
    Sta K B Gb G H (σ.set i (some v)) (env.set i s) W := by
  have lt_of : ∀ {t : Sl}, (env.set i s)[i]? = some t → i < σ.length := fun {t} e => by
    have := (List.getElem?_eq_some_iff.mp e).1
    rw [List.length_set, S.len] at this
    exact this
  have up : ∀ {j : Nat} {x : Option V}, j ≠ i → σ[j]? = some x → (σ.set i (some v))[j]? = some x := fun ne e => by rw [List.getElem?_set_ne (Ne.symm ne)]; exact e
  exact {
    sg := S.sg
    sb := S.sb
    sgb := S.sgb
    gb := S.gb
    len := by rw [List.length_set, List.length_set]; exact S.len
    pl := fun j d e => by
      rcases get_set e with ⟨rfl, rfl⟩ | ⟨ne, e⟩
      · exact ⟨v, List.getElem?_set_self (lt_of e), hs⟩
      · obtain ⟨x, h1, h2⟩ := S.pl j d e
        exact ⟨x, up ne h1, h2⟩
    ow := fun j d e => by
      rcases get_set e with ⟨rfl, rfl⟩ | ⟨ne, e⟩
      · obtain ⟨p, o, rfl, h1, h2, h3, h4⟩ := hs
        exact ⟨p, o, List.getElem?_set_self (lt_of e), h1, h2, h3, h4⟩
      · obtain ⟨p, o, h0, h1⟩ := S.ow j d e
        exact ⟨p, o, up ne h0, h1⟩
    lk := fun j od o d e => by
      rcases get_set e with ⟨rfl, rfl⟩ | ⟨ne, e⟩
      · exact hs.elim
      · obtain ⟨p, h0, h1⟩ := S.lk j od o d e
        exact ⟨p, up ne h0, h1⟩
    wd := fun j => fun e => by
      rcases get_set e with ⟨rfl, rfl⟩ | ⟨ne, e⟩
      · exact hs.elim
      · obtain ⟨p, l, ns, k, h0, h1⟩ := S.wd j e
        exact ⟨p, l, ns, k, up ne h0, h1⟩
    sc := fun j ns e => by
      rcases get_set e with ⟨rfl, rfl⟩ | ⟨ne, e⟩
      · exact hs.elim
      · obtain ⟨p, h0, h1⟩ := S.sc j ns e
        exact ⟨p, up ne h0, h1⟩
    one := fun j k => fun e1 e2 => by
      rcases get_set e1 with ⟨rfl, z⟩ | ⟨_, e1⟩
      · subst z; exact hs.elim
      · rcases get_set e2 with ⟨rfl, z⟩ | ⟨_, e2⟩
        · subst z; exact hs.elim
        · exact S.one j k e1 e2
    sep := fun j k p h1 h2 => by
      rcases h1.set S.len with ⟨e0, o1, e1⟩ | ⟨n1, h1'⟩
      · rcases h2.set S.len with ⟨e0', _, _⟩ | ⟨n2, h2'⟩
        · rw [e0, e0']
        · subst e0
          exact absurd h2' (hsep o1 p e1 k n2)
      · rcases h2.set S.len with ⟨e0, o2, e2⟩ | ⟨n2, h2'⟩
        · subst e0
          exact absurd h1' (hsep o2 p e2 j n1)
        · exact S.sep j k p h1' h2' }
/-- a slot forgotten -/
theorem Own.wiped {i j : Nat} {s : Sl} {p : Addr} (hs : s.own = false) (h : Own (env.set i s) σ j p) : Own env σ j p := by
  obtain ⟨⟨t, e, o⟩, q⟩ := h
  rcases get_set e with ⟨rfl, rfl⟩ | ⟨ne, e⟩
  · rw [hs] at o; exact absurd o Bool.false_ne_true
  · exact ⟨⟨t, e, o⟩, q⟩
theorem Sta.wipe1 (S : Sta K B Gb G H σ env W) (i : Nat) : Sta K B Gb G H σ (env.set i .no) W where
  sg := S.sg
  sb := S.sb
  sgb := S.sgb
  gb := S.gb
  len := by rw [List.length_set]; exact S.len
  pl := fun j d e => by
    rcases get_set e with ⟨_, z⟩ | ⟨ne, e⟩
    · cases z
    · exact S.pl j d e
  ow := fun j d e => by
    rcases get_set e with ⟨_, z⟩ | ⟨ne, e⟩
    · cases z
    · exact S.ow j d e
  lk := fun j od o d e => by
    rcases get_set e with ⟨_, z⟩ | ⟨ne, e⟩
    · cases z
    · exact S.lk j od o d e
  wd := fun j => fun e => by
    rcases get_set e with ⟨_, z⟩ | ⟨ne, e⟩
    · cases z
    · exact S.wd j e
  sc := fun j ns e => by
    rcases get_set e with ⟨_, z⟩ | ⟨ne, e⟩
    · cases z
    · exact S.sc j ns e
  one := fun j k => fun e1 e2 => by
    rcases get_set e1 with ⟨_, z⟩ | ⟨_, e1⟩
    · cases z
    · rcases get_set e2 with ⟨_, z⟩ | ⟨_, e2⟩
      · cases z
      · exact S.one j k e1 e2
  sep := fun j k p h1 h2 => S.sep j k p (h1.wiped rfl) (h2.wiped rfl)
def wipeE (env : SEnv) : List Nat → SEnv
  | [] => env
  | i :: is => wipeE (env.set i .no) is
theorem Sta.wipeE : ∀ (is : List Nat) {env : SEnv}, Sta K B Gb G H σ env W → Sta K B Gb G H σ (PX.wipeE env is) W
  | [], _, S => S
  | i :: is, _, S => Sta.wipeE is (S.wipe1 i)
/-- an owned thing is changed no more -/
theorem Sta.freezeSl (S : Sta K B Gb G H σ env W) {i : Nat} (e : env[i]? = some (.ow d)) : ∃ G' v, Same G G' ∧ Sta K B Gb G' H σ (env.set i (.pl d)) W ∧ σ[i]? = some (some v) ∧ Rp K G' v d := by
  obtain ⟨p, o, h1, h2, h3, h4, h5⟩ := S.ow i d e
  have S1 := S.wipe1 i
  have no : ∀ j, ¬ Own (env.set i .no) σ j p := fun j ho => by
    have h := ho.wiped rfl
    have : j = i := S.sep j i p h ⟨⟨_, e, rfl⟩, h1⟩
    subst this
    obtain ⟨⟨t, e', o'⟩, _⟩ := ho
    rcases get_set e' with ⟨_, z⟩ | ⟨ne, _⟩
    · cases z; exact absurd o' Bool.false_ne_true
    · exact ne rfl
  have S2 := S1.freeze h4 h2 (.inl h3) no
  have r : Rp K (upd G p o) (.ref p) d := (h5.mono (Sub.of (same_upd h2))).rp upd_same
  refine ⟨upd G p o, .ref p, same_upd h2, ?_, h1, r⟩
  have hl : i < σ.length := (List.getElem?_eq_some_iff.mp h1).1
  have S3 := S2.setSl i (.pl d) (.ref p) r (fun z => absurd z Bool.false_ne_true)
  have e1 : σ.set i (some (.ref p)) = σ := by
    refine List.ext_getElem? fun j => ?_
    by_cases ne : j = i
    · subst ne; rw [List.getElem?_set_self hl, h1]
    · rw [List.getElem?_set_ne (Ne.symm ne)]
  rw [e1, List.set_set] at S3
  exact S3
/-- an owned thing is changed -/
theorem Sta.change (S : Sta K B Gb G H σ env W) {i : Nat} {p : Addr} {o : HO} {d' : PyData} (e : env[i]? = some (.ow d)) (hp : σ[i]? = some (some (V.ref p))) (r : RpO K G o d') :
    Sta K B Gb G (upd H p o) σ (env.set i (.ow d')) W := by
  obtain ⟨p', o', h1, h2, h3, h4, h5⟩ := S.ow i d e
  rw [hp] at h1
  cases h1
  have me : Own env σ i p := ⟨⟨_, e, rfl⟩, hp⟩
  have keep : ∀ (X : Hp), X p = none → Same X H → Same X (upd H p o) := fun X hx s a u q => by
    rw [upd_ne (ne_of_none q hx)]
    exact s _ _ q
  have ow' : ∀ {j q}, Own (env.set i (.ow d')) σ j q → Own env σ j q := fun {j q} ⟨⟨t, e1, o1⟩, q1⟩ => by
    rcases get_set e1 with ⟨rfl, rfl⟩ | ⟨ne, e1⟩
    · exact ⟨⟨_, e, rfl⟩, q1⟩
    · exact ⟨⟨t, e1, o1⟩, q1⟩
  have other : ∀ {j q}, j ≠ i → Own env σ j q → q ≠ p := fun ne h z => ne (S.sep _ i p (z ▸ h) me)
  exact {
    sg := keep G h2 S.sg
    sb := keep B h3 S.sb
    sgb := S.sgb
    gb := S.gb
    len := by rw [List.length_set]; exact S.len
    pl := fun j d e => by
      rcases get_set e with ⟨_, z⟩ | ⟨ne, e⟩
      · cases z
      · exact S.pl j d e
    ow := fun j d e' => by
      rcases get_set e' with ⟨rfl, z⟩ | ⟨ne, e'⟩
      · cases z
        exact ⟨p, o, hp, h2, h3, upd_same, r⟩
      · obtain ⟨q, u, a1, a2, a3, a4, a5⟩ := S.ow j d e'
        exact ⟨q, u, a1, a2, a3, by rw [upd_ne (other ne ⟨⟨_, e', rfl⟩, a1⟩)]; exact a4, a5⟩
    lk := fun j od o d e' => by
      rcases get_set e' with ⟨rfl, z⟩ | ⟨ne, e'⟩
      · cases z
      · obtain ⟨q, a1, a2, a3, a4, a5⟩ := S.lk j od o d e'
        exact ⟨q, a1, a2, a3, by rw [upd_ne (other ne ⟨⟨_, e', rfl⟩, a1⟩)]; exact a4, a5⟩
    wd := fun j => fun e' => by
      rcases get_set e' with ⟨rfl, z⟩ | ⟨ne, e'⟩
      · cases z
      · obtain ⟨q, l, ns, k, a1, a2, a3, a4, a5⟩ := S.wd j e'
        exact ⟨q, l, ns, k, a1, a2, a3, by rw [upd_ne (other ne ⟨⟨_, e', rfl⟩, a1⟩)]; exact a4, a5⟩
    sc := fun j ns e => by
      rcases get_set e with ⟨_, z⟩ | ⟨ne, e⟩
      · cases z
      · exact S.sc j ns e
    one := fun j k => fun e1 e2 => by
      rcases get_set e1 with ⟨_, z⟩ | ⟨_, e1⟩
      · cases z
      · rcases get_set e2 with ⟨_, z⟩ | ⟨_, e2⟩
        · cases z
        · exact S.one j k e1 e2
    sep := fun j k q h1 h2 => S.sep j k q (ow' h1) (ow' h2) }
end

/-! ### statements -/
inductive Ou where
  | nx (env : SEnv) (W : List Int) | rt (d : PyData) (W : List Int) | bk (env : SEnv) (W : List Int) | ct (env : SEnv) (W : List Int)
abbrev Sx := SEnv → List Int → Option Ou
/-- a value handed back -/
structure Fin (K : PySem.W.Frag) (B Gb G H : Hp) (v : V) (d : PyData) : Prop where
  sg : Same G H
  sb : Same B H
  sgb : Same Gb G
  gb : ∀ a o, B a = some o → G a ≠ none → Gb a ≠ none ∨ ∃ xs, o = .tup xs
  rp : Rp K G v d
def Nx (K : PySem.W.Frag) (B Gb G : Hp) (env : SEnv) (W : List Int) (P : L2.St → Hp → Prop) : Prop := ∀ σ G' H', Same G G' → Sta K B Gb G' H' σ env W → P σ H'
def post (K : PySem.W.Frag) (B Gb G : Hp) (D : Ends) : Ou → Prop
  | .nx env W => Nx K B Gb G env W D.nx
  | .bk env W => Nx K B Gb G env W D.bk
  | .ct env W => Nx K B Gb G env W D.ct
  | .rt d _ => ∀ v G' H', Same G G' → Fin K B Gb G' H' v d → D.rt v H'
def tS (K : PySem.W.Frag) (g : Sx) : TS := fun D σ H => ∃ B Gb G env W o, Sta K B Gb G H σ env W ∧ g env W = some o ∧ post K B Gb G D o
def PSX (X : Cx) (st : Stmt) (g : Sx) : Prop := PS X st (tS X.K g)
def PSsX (X : Cx) (st : List Stmt) (g : Sx) : Prop := PSs X st (tS X.K g)
theorem Nx.sub {K : PySem.W.Frag} {B Gb G G1 : Hp} {env : SEnv} {W : List Int} {P : L2.St → Hp → Prop} (h : Nx K B Gb G env W P) (s : Same G G1) : Nx K B Gb G1 env W P := fun σ G' H' s' S => h σ G' H' (s.trans s') S
theorem post.sub {K : PySem.W.Frag} {B Gb G G1 : Hp} {D : Ends} {o : Ou} (h : post K B Gb G D o) (s : Same G G1) : post K B Gb G1 D o := by
  cases o with
  | nx env W => exact Nx.sub h s
  | bk env W => exact Nx.sub h s
  | ct env W => exact Nx.sub h s
  | rt d W => exact fun v G' H' s' f => h v G' H' (s.trans s') f
def sNil : Sx := fun env W => some (.nx env W)
def sSeq (f g : Sx) : Sx := fun env W => match f env W with
  | some (.nx e' W') => g e' W'
  | r => r
def sIf (t : Ct) (f g : Sx) : Sx := fun env W => (t env W).bind fun r => if r.1 then f env r.2 else g env r.2
def sRet (f : Ex) : Sx := fun env W => (f env W).map fun r => .rt r.1 r.2.2
def sRetN : Sx := fun env W => some (.rt .none W)
def sBk : Sx := fun env W => some (.bk env W)
def sWipe (is : List Nat) (g : Sx) : Sx := fun env W => g (wipeE env is) W
/-- the slot's thing is changed no more -/
def sFrz (i : Nat) (g : Sx) : Sx := fun env W => match env[i]? with
  | some (.ow d) => g (env.set i (.pl d)) W
  | _ => g env W
/-- x = e -/
def sSet (i : Nat) (own : Bool) (f : Ex) : Sx := fun env W => (f env W).bind fun r => match r.2.1 with
  | .fr => some (.nx (env.set i (if own then .ow r.1 else .pl r.1)) r.2.2)
  | .im => some (.nx (env.set i (.pl r.1)) r.2.2)
  | .pk j => match env[j]? with
    | some (.ow _) => some (.nx ((env.set j (.pl r.1)).set i (.pl r.1)) r.2.2)
    | _ => none
section
variable {X : Cx} {st : Stmt} {rest : List Stmt} {e a b c : Expr} {f : Ex} {g h : Sx} {t : Ct} {pos : Pos}
theorem pssx_nil : PSsX X [] sNil := PSs.imp pss_nil fun D σ H q => by
  obtain ⟨B, Gb, G, env, W, o, S, e, p⟩ := q
  cases e
  exact p σ G H (Same.refl _) S
theorem pssx_cons (h1 : PSX X st g) (h2 : PSsX X rest h) : PSsX X (st :: rest) (sSeq g h) := PSs.imp (pss_cons h1 h2) fun D σ H q => by
  obtain ⟨B, Gb, G, env, W, o, S, e, p⟩ := q
  unfold sSeq at e
  split at e
  · rename_i e' W' e1
    refine ⟨B, Gb, G, env, W, _, S, e1, fun σ1 G1 H1 s1 S1 => ?_⟩
    exact ⟨B, Gb, G1, e', W', o, S1, e, p.sub s1⟩
  · rename_i r hn
    cases o with
    | nx env' W' => exact absurd e (hn env' W')
    | bk env' W' => exact ⟨B, Gb, G, env, W, _, S, e, p⟩
    | ct env' W' => exact ⟨B, Gb, G, env, W, _, S, e, p⟩
    | rt d W' => exact ⟨B, Gb, G, env, W, _, S, e, p⟩
theorem pssx_one (h1 : PSX X st g) : PSsX X [st] g := PSs.imp (pss_one h1) fun D σ H q => q
theorem pssx_wipe (is : List Nat) (h1 : PSsX X rest g) : PSsX X rest (sWipe is g) := PSs.imp h1 fun D σ H q => by
  obtain ⟨B, Gb, G, env, W, o, S, e, p⟩ := q
  exact ⟨B, Gb, G, _, W, o, Sta.wipeE is S, e, p⟩
theorem pssx_frz (i : Nat) (h1 : PSsX X rest g) : PSsX X rest (sFrz i g) := PSs.imp h1 fun D σ H q => by
  obtain ⟨B, Gb, G, env, W, o, S, e, p⟩ := q
  unfold sFrz at e
  split at e
  · rename_i d ed
    obtain ⟨G1, v, s1, S1, _⟩ := S.freezeSl ed
    exact ⟨B, Gb, G1, _, W, o, S1, e, p.sub s1⟩
  · exact ⟨B, Gb, G, _, W, o, S, e, p⟩
theorem psx_if {u v : List Stmt} (hc : PTX X c t) (ha : PSsX X u g) (hb : PSsX X v h) : PSX X (.If c u v pos) (sIf t g h) := PS.imp (ps_if hc ha hb) fun D σ H q => by
  obtain ⟨B, Gb, G, env, W, o, S, e, p⟩ := q
  unfold sIf at e
  rw [Option.bind_eq_some_iff] at e
  obtain ⟨⟨b1, W1⟩, e1, e2⟩ := e
  refine ⟨B, Gb, G, env, W, b1, W1, S, e1, fun G1 H1 s1 S1 => ?_⟩
  dsimp only at e2
  split at e2
  · rename_i hb1
    rw [if_pos hb1]
    exact ⟨B, Gb, G1, env, W1, o, S1, e2, p.sub s1⟩
  · rename_i hb1
    rw [if_neg hb1]
    exact ⟨B, Gb, G1, env, W1, o, S1, e2, p.sub s1⟩
theorem Sta.fin {K : PySem.W.Frag} {B Gb G H : Hp} {σ : L2.St} {env : SEnv} {W : List Int} {v : V} {d : PyData} {k : Kd} (S : Sta K B Gb G H σ env W) (h : VOk K B G H σ env v d k) (hk : ∀ i, k = .pk i → ∃ d, env[i]? = some (.ow d)) : ∃ G', Same G G' ∧ Fin K B Gb G' H v d := by
  cases k with
  | im => exact ⟨G, Same.refl _, ⟨S.sg, S.sb, S.sgb, S.gb, h⟩⟩
  | fr =>
    obtain ⟨G1, s1, S1, r, _⟩ := freeze1 S h rfl
    exact ⟨G1, s1, ⟨S1.sg, S1.sb, S1.sgb, S1.gb, r⟩⟩
  | pk i =>
    obtain ⟨d', e⟩ := hk i rfl
    obtain ⟨h1, h2⟩ := h
    have e2 : d' = d := by
      rcases h2 with h2 | ⟨_, _, h2⟩
      · rw [e] at h2; cases h2; rfl
      · rw [e] at h2; cases h2
    subst e2
    obtain ⟨G1, v', s1, S1, hv, r⟩ := S.freezeSl e
    rw [h1] at hv
    cases hv
    exact ⟨G1, s1, ⟨S1.sg, S1.sb, S1.sgb, S1.gb, r⟩⟩
def sRetK (f : Ex) : Sx := fun env W => (f env W).bind fun r => match r.2.1 with
  | .pk i => (match env[i]? with | some (.ow _) => some (.rt r.1 r.2.2) | _ => none)
  | _ => some (.rt r.1 r.2.2)
theorem psx_ret (h : PX X e f) : PSX X (.Return (some e) pos) (sRetK f) := PS.imp (ps_ret h) fun D σ H q => by
  obtain ⟨B, Gb, G, env, W, o, S, e, p⟩ := q
  unfold sRetK at e
  rw [Option.bind_eq_some_iff] at e
  obtain ⟨⟨d, k, W1⟩, e1, e2⟩ := e
  dsimp only at e2
  refine ⟨B, Gb, G, env, W, d, k, W1, S, e1, fun v G1 H1 s1 S1 h1 => ?_⟩
  have fin : (∀ i, k = .pk i → ∃ d, env[i]? = some (.ow d)) → o = .rt d W1 → D.rt v H1 := fun hk eo => by
    subst eo
    obtain ⟨G2, s2, F⟩ := S1.fin h1 hk
    exact p v G2 H1 (s1.trans s2) F
  split at e2
  · rename_i i
    split at e2
    · rename_i d' ed
      cases e2
      exact fin (fun j ej => by cases ej; exact ⟨_, ed⟩) rfl
    · cases e2
  · rename_i hn
    cases e2
    exact fin (fun j ej => absurd ej (hn j)) rfl
theorem psx_retN : PSX X (.Return none pos) sRetN := PS.imp ps_retN fun D σ H q => by
  obtain ⟨B, Gb, G, env, W, o, S, e, p⟩ := q
  cases e
  exact p .non G H (Same.refl _) ⟨S.sg, S.sb, S.sgb, S.gb, .non⟩
theorem psx_bk : PSX X (.Break pos) sBk := PS.imp ps_break fun D σ H q => by
  obtain ⟨B, Gb, G, env, W, o, S, e, p⟩ := q
  cases e
  exact p σ G H (Same.refl _) S
theorem psx_set {i : Nat} {own : Bool} {x : Str} {pos' : Pos} (hN : X.N.Nodup) (he : PX X e f) (hi : X.N[i]? = some x := by rfl) (hx : Loc X.env.scope x := by first | exact .inl rfl | exact .inr rfl) (hs : swapsWith e (some (.Name x pos')) pos.line X.env = pure false := by rfl)
    (hf : X.fn x = true ∨ X.env.scope.names.lookup x = some .local := by first | exact .inl rfl | exact .inr rfl) : PSX X (.Assign [.Name x pos'] e pos) (sSet i own f) := PS.imp (ps_set hN hi hx he hs hf) fun D σ H q => by
  obtain ⟨B, Gb, G, env, W, o, S, e, p⟩ := q
  unfold sSet at e
  rw [Option.bind_eq_some_iff] at e
  obtain ⟨⟨d, k, W1⟩, e1, e2⟩ := e
  dsimp only at e2
  refine ⟨B, Gb, G, env, W, d, k, W1, S, e1, fun v G1 H1 s1 S1 h1 => ?_⟩
  show D.nx (σ.set i (some v)) H1
  split at e2
  · cases e2
    cases own with
    | true =>
      obtain ⟨q, o, rfl, a1, a2, a3, a4, a5⟩ := h1
      exact p _ G1 H1 s1 (S1.setSl i (.ow d) (.ref q) ⟨q, o, rfl, a1, a2, a3, a4⟩ fun _ q' e' j _ => by cases e'; exact a5 j)
    | false =>
      obtain ⟨G2, s2, S2, r, _⟩ := freeze1 S1 h1 rfl
      exact p _ G2 H1 (s1.trans s2) (S2.setSl i (.pl d) v r fun z => absurd z Bool.false_ne_true)
  · cases e2
    exact p _ G1 H1 s1 (S1.setSl i (.pl d) v h1 fun z => absurd z Bool.false_ne_true)
  · rename_i j
    split at e2
    · rename_i d' ed
      cases e2
      obtain ⟨h1, h2⟩ := h1
      have e2 : d' = d := by
        rcases h2 with h2 | ⟨_, _, h2⟩
        · rw [ed] at h2; cases h2; rfl
        · rw [ed] at h2; cases h2
      subst e2
      obtain ⟨G2, v', s2, S2, hv, r⟩ := S1.freezeSl ed
      rw [h1] at hv
      cases hv
      exact p _ G2 H1 (s1.trans s2) (S2.setSl i (.pl d') v r fun z => absurd z Bool.false_ne_true)
    · cases e2
end
end PX

namespace PX
open PySem PySem.Spec PyProof.Rows L2

/-! ### targets -/
abbrev Tg := PyData → SEnv → Option SEnv
/-- the slots outside vs stay -/
def tG (K : PySem.W.Frag) (t : Tg) (vs : List Nat) : TG := fun v σ H Q => ∃ B Gb G env W d env', Sta K B Gb G H σ env W ∧ Rp K G v d ∧ t d env = some env' ∧ ∀ σ', wipe σ' vs = wipe σ vs → Sta K B Gb G H σ' env' W → Q σ' H
def tGs (K : PySem.W.Frag) (t : List PyData → SEnv → Option SEnv) (vs : List Nat) : TGs := fun xs σ H Q => ∃ B Gb G env W ds env', Sta K B Gb G H σ env W ∧ RpL K G xs ds ∧ t ds env = some env' ∧ ∀ σ', wipe σ' vs = wipe σ vs → Sta K B Gb G H σ' env' W → Q σ' H
theorem wipeE_at (env : SEnv) : ∀ (vs : List Nat) (j : Nat), (wipeE env vs)[j]? = if j ∈ vs then env[j]?.map (fun _ => Sl.no) else env[j]?
  | [], j => by simp [wipeE]
  | v :: vs, j => by
    rw [wipeE, wipeE_at (env.set v .no) vs j, List.getElem?_set]
    by_cases h : v = j
    · subst h
      by_cases hl : v < env.length
      · simp [hl]
      · simp [hl]
    · have h2 : ¬ j = v := fun e => h e.symm
      simp [h, h2]
theorem wipeE_set {env : SEnv} {i : Nat} {s : Sl} {vs : List Nat} (h : i ∈ vs) : wipeE (env.set i s) vs = wipeE env vs := by
  refine List.ext_getElem? fun j => ?_
  rw [wipeE_at, wipeE_at]
  by_cases hj : j ∈ vs
  · rw [if_pos hj, if_pos hj, List.getElem?_set]
    by_cases e : i = j
    · subst e
      by_cases hl : i < env.length
      · simp [hl]
      · simp [hl]
    · simp [e]
  · rw [if_neg hj, if_neg hj, List.getElem?_set_ne (fun e : i = j => hj (e ▸ h))]
theorem wipe_at (σ : L2.St) : ∀ (vs : List Nat) (j : Nat), (wipe σ vs)[j]? = if j ∈ vs then σ[j]?.map (fun _ => none) else σ[j]?
  | [], j => by simp [wipe]
  | v :: vs, j => by
    rw [wipe, List.getElem?_set, wipe_length, wipe_at σ vs j]
    by_cases h : v = j
    · subst h
      by_cases hl : v < σ.length
      · simp [hl]
      · simp [hl]
    · have h2 : ¬ j = v := fun e => h e.symm
      simp [h, h2]
theorem wipe_set {σ : L2.St} {i : Nat} {s : Option V} {vs : List Nat} (h : i ∈ vs) : wipe (σ.set i s) vs = wipe σ vs := by
  refine List.ext_getElem? fun j => ?_
  rw [wipe_at, wipe_at]
  by_cases hj : j ∈ vs
  · rw [if_pos hj, if_pos hj, List.getElem?_set]
    by_cases e : i = j
    · subst e
      by_cases hl : i < σ.length
      · simp [hl]
      · simp [hl]
    · simp [e]
  · rw [if_neg hj, if_neg hj, List.getElem?_set_ne (fun e : i = j => hj (e ▸ h))]
structure PGX (X : Cx) (e : Expr) (t : Tg) (vs : List Nat) : Prop where
  pg : PG X e (tG X.K t vs)
  ok : ∀ d env env', t d env = some env' → wipeE env' vs = wipeE env vs
structure PGsX (X : Cx) (es : List Expr) (t : List PyData → SEnv → Option SEnv) (vs : List Nat) : Prop where
  pg : PGs X es (tGs X.K t vs)
  ok : ∀ d env env', t d env = some env' → wipeE env' vs = wipeE env vs
def gN (i : Nat) : Tg := fun d env => some (env.set i (.pl d))
def gsNil : List PyData → SEnv → Option SEnv
  | [], env => some env
  | _, _ => none
def gsCons (t : Tg) (u : List PyData → SEnv → Option SEnv) : List PyData → SEnv → Option SEnv
  | d :: ds, env => (t d env).bind fun e => u ds e
  | _, _ => none
def gT (n : Nat) (u : List PyData → SEnv → Option SEnv) : Tg := fun d env => match d with
  | .tuple ds => if ds.length = n then u ds env else none
  | _ => none
theorem PG.imp {X : Cx} {e : Expr} {t t' : TG} (h : PG X e t) (i : ∀ v σ H Q, t' v σ H Q → t v σ H Q) : PG X e t' := ⟨fun pins s σ H v u Q I r q => h.run pins s σ H v u Q I r (i _ _ _ _ q)⟩
theorem PGs.imp {X : Cx} {e : List Expr} {t t' : TGs} (h : PGs X e t) (i : ∀ v σ H Q, t' v σ H Q → t v σ H Q) : PGs X e t' := ⟨fun pins s σ H v u Q I r q => h.run pins s σ H v u Q I r (i _ _ _ _ q)⟩
section
variable {X : Cx} {e a b c : Expr} {es : List Expr} {t : Tg} {u : List PyData → SEnv → Option SEnv} {pos : Pos} {f g h : Ex}
theorem pgx_name (i : Nat) {x : Str} {pos : Pos} {vs : List Nat} (hN : X.N.Nodup) (hi : X.N[i]? = some x := by rfl) (hx : Loc X.env.scope x := by first | exact .inl rfl | exact .inr rfl) (hf : X.fn x = true ∨ X.env.scope.names.lookup x = some .local := by first | exact .inl rfl | exact .inr rfl) (hv : i ∈ vs := by decide) : PGX X (.Name x pos) (gN i) vs where
  pg := PG.imp (pg_name hN hi hx hf) fun v σ H Q q => by
    obtain ⟨B, Gb, G, env, W, d, env', S, r, e, c⟩ := q
    cases e
    exact c _ (wipe_set hv) (S.setSl i (.pl d) v r fun z => absurd z Bool.false_ne_true)
  ok := fun d env env' e => by
    cases e
    exact wipeE_set hv
theorem pgsx_nil {vs : List Nat} : PGsX X [] gsNil vs where
  pg := PGs.imp pgs_nil fun xs σ H Q q => by
    obtain ⟨B, Gb, G, env, W, ds, env', S, r, e, c⟩ := q
    cases r with
    | nil =>
      cases e
      exact ⟨rfl, c σ rfl S⟩
    | cons a b => cases e
  ok := fun d env env' e => by
    cases d with
    | nil => cases e; rfl
    | cons a b => cases e
theorem pgsx_cons {vs : List Nat} (h1 : PGX X e t vs) (h2 : PGsX X es u vs) (hs : (assignEach (e :: es) X.env).map (·.2) = assign e X.env :: (assignEach es X.env).map (·.2) := by rfl) : PGsX X (e :: es) (gsCons t u) vs where
  pg := PGs.imp (pgs_cons h1.pg h2.pg hs) fun xs σ H Q q => by
    obtain ⟨B, Gb, G, env, W, ds, env', S, r, e, c⟩ := q
    cases r with
    | nil => cases e
    | cons a b =>
      rw [gsCons, Option.bind_eq_some_iff] at e
      obtain ⟨e1, e2, e3⟩ := e
      exact ⟨_, _, rfl, B, Gb, G, env, W, _, e1, S, a, e2, fun σ1 w1 S1 => ⟨B, Gb, G, e1, W, _, env', S1, b, e3, fun σ2 w2 S2 => c σ2 (w2.trans w1) S2⟩⟩
  ok := fun d env env' e => by
    cases d with
    | nil => cases e
    | cons a b =>
      rw [gsCons, Option.bind_eq_some_iff] at e
      obtain ⟨e1, e2, e3⟩ := e
      exact (h2.ok _ _ _ e3).trans (h1.ok _ _ _ e2)
theorem pgx_tup {k n : Nat} {vs : List Nat} (hc : X.calm = true) (h : PGsX X es u vs) (hn : (assignEach es X.env).length = n := by rfl) (hst : (assignEach es X.env).findIdx? (·.1) = none := by rfl) : PGX X (.Tuple es k pos) (gT n u) vs where
  pg := PG.imp (pg_tup hc h.pg hn hst) fun v σ H Q q => by
    obtain ⟨B, Gb, G, env, W, d, env', S, r, e, c⟩ := q
    unfold gT at e
    split at e
    · split at e
      · rename_i hl
        cases r with
        | tup a b => exact ⟨_, _, rfl, (Sub.of S.sg).sqT a.sqT, b.length.trans hl, B, Gb, G, env, W, _, env', S, b, e, c⟩
      · cases e
    · cases e
  ok := fun d env env' e => by
    unfold gT at e
    split at e
    · split at e
      · exact h.ok _ _ _ e
      · cases e
    · cases e
/-- target = e, e a datum that is no thing of this def's own -/
def sAsg (f : Ex) (t : Tg) : Sx := fun env W => (f env W).bind fun r => match r.2.1 with
  | .pk _ => none
  | _ => (t r.1 env).map fun e => .nx e r.2.2
theorem psx_asg {vs : List Nat} (he : PX X e f) (hg : PGX X a t vs) (hs : swapsWithSole [a] e pos.line X.env = pure false := by rfl) (hw : swappedStores [a] e X.env = pure none := by rfl)
    (h1 : (assignEach [a] X.env).map (·.2) = [assign a X.env] := by rfl) : PSX X (.Assign [a] e pos) (sAsg f t) := PS.imp (ps_asg he hg.pg hs hw h1) fun D σ H q => by
  obtain ⟨B, Gb, G, env, W, o, S, e, p⟩ := q
  unfold sAsg at e
  rw [Option.bind_eq_some_iff] at e
  obtain ⟨⟨d, k, W1⟩, e1, e2⟩ := e
  dsimp only at e2
  have fin : esc k = true → (t d env).map (fun e => Ou.nx e W1) = some o → tE X.K f σ H (fun x H1 => tG X.K t vs x σ H1 D.nx) := fun hk e3 => by
    rw [Option.map_eq_some_iff] at e3
    obtain ⟨env', e4, e5⟩ := e3
    cases e5
    refine ⟨B, Gb, G, env, W, d, k, W1, S, e1, fun v G1 H1 s1 S1 h1 => ?_⟩
    obtain ⟨G2, s2, S2, r, _⟩ := freeze1 S1 h1 hk
    exact ⟨B, Gb, G2, env, W1, d, env', S2, r, e4, fun σ' _ S3 => p σ' G2 H1 (s1.trans s2) S3⟩
  split at e2
  · cases e2
  · rename_i hn
    refine fin ?_ e2
    cases k with
    | pk i => exact absurd rfl (hn i)
    | im => rfl
    | fr => rfl
/-- a, b = e, f: two names -/
def slOf (own : Bool) (d : PyData) : Kd → Option Sl
  | .im => some (.pl d)
  | .fr => some (if own then .ow d else .pl d)
  | .pk _ => none
def sPar (i : Nat) (oi : Bool) (j : Nat) (oj : Bool) (f g : Ex) : Sx := fun env W => (f env W).bind fun r => (g env r.2.2).bind fun q => (slOf oi r.1 r.2.1).bind fun s => (slOf oj q.1 q.2.1).map fun z =>
  .nx ((env.set i s).set j z) q.2.2
theorem slOf_fit {K : PySem.W.Frag} {B Gb G H : Hp} {σ : L2.St} {env : SEnv} {W : List Int} {v : V} {d : PyData} {k : Kd} {own : Bool} {s : Sl} (S : Sta K B Gb G H σ env W) (h : VOk K B G H σ env v d k) (e : slOf own d k = some s) :
    ∃ G', Same G G' ∧ Sta K B Gb G' H σ env W ∧ SlFit K B G' H v s ∧ (s.own = true → ∀ p, v = .ref p → ∀ j, ¬ Own env σ j p) ∧ (∀ v' d' k', VOk K B G H σ env v' d' k' → (k = .fr → k' = .fr → v' ≠ v) → VOk K B G' H σ env v' d' k') ∧ (s.own = true → k = .fr) := by
  cases k with
  | im => cases e; exact ⟨G, Same.refl _, S, h, fun z => absurd z Bool.false_ne_true, fun _ _ _ h _ => h, fun z => absurd z Bool.false_ne_true⟩
  | pk i => cases e
  | fr =>
    cases own with
    | true =>
      cases e
      obtain ⟨p, o, rfl, a1, a2, a3, a4, a5⟩ := h
      exact ⟨G, Same.refl _, S, ⟨p, o, rfl, a1, a2, a3, a4⟩, fun _ q e j => by cases e; exact a5 j, fun _ _ _ h _ => h, fun _ => rfl⟩
    | false =>
      cases e
      obtain ⟨G1, s1, S1, r, f1⟩ := freeze1 S h rfl
      exact ⟨G1, s1, S1, r, fun z => absurd z Bool.false_ne_true, f1, fun z => absurd z Bool.false_ne_true⟩
theorem SlFit.mono {K : PySem.W.Frag} {B G G' H : Hp} {v : V} {s : Sl} (h : SlFit K B G H v s) (g : Same G G') (hn : ∀ p, v = .ref p → s.own = true → G' p = none) : SlFit K B G' H v s := by
  cases s with
  | no => trivial
  | pl d => exact Rp.mono (Sub.of g) h
  | ow d =>
    obtain ⟨p, o, rfl, h1, h2, h3, h4⟩ := h
    exact ⟨p, o, rfl, hn p rfl rfl, h2, h3, h4.mono (Sub.of g)⟩
  | lk od o d => exact (show False from h).elim
  | wd => exact h
  | sc ns => exact h
theorem psx_par {i j : Nat} {oi oj : Bool} {x y : Str} {px py pt : Pos} {kt k2 : Nat} {pt2 : Pos} (hc : X.calm = true) (hN : X.N.Nodup) (ha : PX X a f) (hb : PX X b g) (hij : i ≠ j := by decide) (hi : X.N[i]? = some x := by rfl) (hj : X.N[j]? = some y := by rfl)
    (hx : X.env.scope.names.lookup x = some .local := by rfl) (hy : X.env.scope.names.lookup y = some .local := by rfl) (hs2 : starEach [a, b] X.env = (false, eval a X.env) :: starEach [b] X.env := by rfl) (hs1 : starEach [b] X.env = (false, eval b X.env) :: starEach [] X.env := by rfl)
    (hw : swappedStores [.Tuple [.Name x px, .Name y py] kt pt] (.Tuple [a, b] k2 pt2) X.env = pure (some [x, y]) := by rfl) (hss : swapsWithSole [.Tuple [.Name x px, .Name y py] kt pt] (.Tuple [a, b] k2 pt2) pos.line X.env = pure false := by rfl) :
    PSX X (.Assign [.Tuple [.Name x px, .Name y py] kt pt] (.Tuple [a, b] k2 pt2) pos) (sPar i oi j oj f g) := PS.imp (ps_par hc hN hi hj hij hx hy (pxs_cons ha (pxs_cons hb pxs_nil hs1) hs2) hw hss) fun D σ H q => by
  obtain ⟨B, Gb, G, env, W, o, S, e, p⟩ := q
  unfold sPar at e
  rw [Option.bind_eq_some_iff] at e
  obtain ⟨⟨d1, k1, W1⟩, e1, e⟩ := e
  rw [Option.bind_eq_some_iff] at e
  obtain ⟨⟨d2, k2, W2⟩, e2, e⟩ := e
  rw [Option.bind_eq_some_iff] at e
  obtain ⟨s1, e3, e⟩ := e
  rw [Option.map_eq_some_iff] at e
  obtain ⟨s2, e4, e⟩ := e
  cases e
  dsimp only at e2 e3 e4
  refine ⟨B, Gb, G, env, W, [(d1, k1), (d2, k2)], W2, S, ?_, fun vs G1 H1 t1 S1 p1 => ?_⟩
  · simp only [cArgs, e1, e2, Option.bind_some, Option.map_some]
  · match vs, p1 with
    | [v1, v2], p1 =>
      obtain ⟨h1, ap, h2, _⟩ := p1
      have ap' : k1 = .fr → k2 = .fr → v2 ≠ v1 := fun z1 z2 => ap z1 (v2, k2) (by simp) z2
      refine ⟨v1, v2, rfl, ?_⟩
      obtain ⟨G2, t2, S2, f2, o2, m2, w2⟩ := slOf_fit S1 h1 e3
      have h2' := m2 _ _ _ h2 ap'
      obtain ⟨G3, t3, S3, f3, o3, m3, w3⟩ := slOf_fit S2 h2' e4
      have f2' : SlFit X.K B G3 H1 v1 s1 := f2.mono t3 fun q ev os => by
        -- an owned new thing stays unfrozen
        have hv := m2 _ _ _ h1
        have k1fr := w2 os
        subst k1fr
        obtain ⟨q', o', ev', a1, a2, a3, a4, a5⟩ := h1
        rw [ev] at ev'
        cases ev'
        have hg2 : G2 q = none := by
          cases s1 with
          | ow d =>
            obtain ⟨q2, _, ev2, b1, _⟩ := f2
            rw [ev] at ev2; cases ev2
            exact b1
          | no => exact absurd os Bool.false_ne_true
          | pl d => exact absurd os Bool.false_ne_true
          | lk od o d => exact (show False from f2).elim
          | wd => exact f2.elim
          | sc ns => exact absurd os Bool.false_ne_true
        have := m3 (.ref q) d1 .fr ⟨q, o', rfl, hg2, a2, a3, a4.mono (Sub.of t2), a5⟩ fun z1 z2 z3 => ap' rfl z1 (by rw [ev]; exact z3.symm)
        obtain ⟨_, _, ev3, b1, _⟩ := this
        cases ev3
        exact b1
      have S4 := S3.setSl i s1 v1 f2' fun os q ev j' _ => o2 os q ev j'
      have f3' : SlFit X.K B G3 H1 v2 s2 := f3
      have S5 := S4.setSl j s2 v2 f3' fun os q ev j' nj => fun ho => by
        rcases ho.set S3.len with ⟨e0, os1, ev1⟩ | ⟨_, ho⟩
        · have z1 := w2 os1
          have z2 := w3 os
          exact ap' z1 z2 (by rw [ev, ev1])
        · exact o3 os q ev j' ho
      exact p _ G3 H1 ((t1.trans t2).trans t3) S5
end
end PX

namespace PX
open PySem PySem.Spec PyProof.Rows L2

/-! ### stores into a thing of this def's own -/
def dputE (es : List (PyData × PyData)) (k v : PyData) : List (PyData × PyData) := match isT es, es with
  | true, e :: r => e :: dput r k v
  | _, _ => dput es k v
def sDPut (i : Nat) (fk fv : Ex) : Sx := fun env W => (fv env W).bind fun v => match env[i]? with
  | some (.ow (.dict es)) => (fk env v.2.2).bind fun k => match k.2.1 with
    | .im => if esc v.2.1 = true ∧ keyFit es k.1 = true ∧ es.length < 16777216 then some (.nx (env.set i (.ow (.dict (dputE es k.1 v.1)))) k.2.2) else none
    | _ => none
  | _ => none
theorem keyOf_ok {K : PySem.W.Frag} {G : Hp} {v : V} {j : Key} (h : Rp K G v (keyD j)) : keyOk j = true ∧ v = kV j := by
  cases j with
  | inl i => cases h; exact ⟨rfl, rfl⟩
  | inr s => cases h; exact ⟨by assumption, rfl⟩
/-- the put, by values -/
theorem dput_of {K : PySem.W.Frag} {G H : Hp} {a : Addr} {o : HO} {es : List (PyData × PyData)} {y v : V} {kd vd : PyData} (sg : Same G H) (ha : H a = some o) (ro : RpO K G o (.dict es)) (ry : Rp K G y kd) (rv : Rp K G v vd) (hf : keyFit es kd = true) (hl : es.length < 16777216) :
    ∃ o', DPut H a y v (upd H a o') ∧ RpO K G o' (.dict (dputE es kd vd)) := by
  unfold keyFit at hf
  cases o with
  | dK kvs =>
    have ro' : RpD K G kvs es := ro
    have ht := ro'.notT
    rw [if_neg (by rw [ht]; exact Bool.false_ne_true)] at hf
    obtain ⟨j, hj⟩ := Option.isSome_iff_exists.mp hf
    have e := keyOf_eq hj
    subst e
    obtain ⟨ok, rfl⟩ := keyOf_ok ry
    refine ⟨.dK (putK kvs j v), .inl ⟨kvs, j, ha, rfl, by rw [sizeLine_eq, ro'.length]; exact hl, rfl⟩, ?_⟩
    have e2 : dputE es (keyD j) vd = dput es (keyD j) vd := by
      unfold dputE
      rw [ht]
    rw [e2]
    exact ro'.put ok rv
  | _ => exact ro.elim
section
variable {X : Cx} {e a b c : Expr} {es : List Expr} {pos : Pos} {f fk fv g h : Ex}
theorem psx_dput {o : Expr} {i : Nat} {pos' : Pos} (hu : X.A.units + 200 < cLine) (ho : PX X o (cVar i)) (hi : PX X a fk) (hv : PX X b fv) (hs : swapsWith b (some (.Subscript o a pos')) pos.line X.env = pure false := by rfl) :
    PSX X (.Assign [.Subscript o a pos'] b pos) (sDPut i fk fv) := PS.imp (ps_dput (by omega) ho hi hv hs) fun D σ H q => by
  obtain ⟨B, Gb, G, env, W, o, S, e, p⟩ := q
  unfold sDPut at e
  rw [Option.bind_eq_some_iff] at e
  obtain ⟨⟨dv, kv, W1⟩, e1, e⟩ := e
  dsimp only at e
  split at e
  · rename_i es ed
    rw [Option.bind_eq_some_iff] at e
    obtain ⟨⟨dk, kk, W2⟩, e2, e⟩ := e
    dsimp only at e
    split at e
    · split at e
      · rename_i hc
        cases e
        obtain ⟨c1, c2, c3⟩ := hc
        have ev : cVar i env W1 = some (.dict es, .pk i, W1) := by unfold cVar; rw [ed]
        refine ⟨B, Gb, G, env, W, dv, kv, W1, S, e1, fun v1 G1 H1 s1 S1 h1 => step3 S1 h1 ev e2 fun v2 v3 G2 H2 s2 S2 h1' h2' h3' => ?_⟩
        obtain ⟨G3, s3, S3, rv, _⟩ := freeze1 S2 h1' c1
        obtain ⟨pa, ob, b1, b2, b3, b4, b5⟩ := S3.ow i _ ed
        have ex : v2 = .ref pa := by
          have := h2'.1
          rw [b1] at this
          cases this
          rfl
        obtain ⟨o', dp, ro⟩ := dput_of S3.sg b4 b5 (Rp.mono (Sub.of s3) h3') rv c2 c3
        exact ⟨pa, _, ex, dp, p σ G3 _ ((s1.trans s2).trans s3) (S3.change ed b1 ro)⟩
      · cases e
    · cases e
  · cases e
/-- d[k] op= e, whole numbers -/
def sDAug (i : Nat) (fk : Ex) (op : Int → Int → Int) (fv : Ex) : Sx := fun env W => match env[i]? with
  | some (.ow (.dict es)) => (fk env W).bind fun k => match k.2.1, dget (ents es) k.1 with
    | .im, some (.int x) => if keyFit es k.1 = true ∧ es.length < 16777216 then (match fv env k.2.2 with
      | some (.int y, _, W') => some (.nx (env.set i (.ow (.dict (dputE es k.1 (.int (op x y)))))) W')
      | _ => none) else none
    | _, _ => none
  | _ => none
theorem psx_daug {o : Expr} {i : Nat} {tpos : Pos} {oper : Operator} {op : Int → Int → Int} (hu : X.A.units + 200 < cLine) (hop : InOp X oper (fun x y H Q => ∃ i j, x = .int i ∧ y = .int j ∧ Q (.int (op i j)) H)) (ho : PX X o (cVar i)) (hi : PX X a fk) (hv : PX X b fv)
    (ha : ∀ ov iv new, augStore a ov iv new = (do holding [new, ov, iv] (setItem ov iv new); release [new, ov, iv] []; pure .next) := by intros; rfl) :
    PSX X (.AugAssign (.Subscript o a tpos) oper b pos) (sDAug i fk op fv) := PS.imp (ps_daug (by omega) ho hi hv hop ha) fun D σ H q => by
  obtain ⟨B, Gb, G, env, W, o, S, e, p⟩ := q
  unfold sDAug at e
  split at e
  · rename_i es ed
    rw [Option.bind_eq_some_iff] at e
    obtain ⟨⟨dk, kk, W2⟩, e2, e⟩ := e
    dsimp only at e
    split at e
    · rename_i x hx
      split at e
      · rename_i hc
        obtain ⟨c2, c3⟩ := hc
        split at e
        · rename_i y ky W3 e3
          cases e
          have ev : cVar i env W = some (.dict es, .pk i, W) := by unfold cVar; rw [ed]
          refine ⟨B, Gb, G, env, W, _, _, W, S, ev, fun v1 G1 H1 s1 S1 h1 => ⟨B, Gb, G1, env, W, dk, .im, W2, S1, e2, fun v2 G2 H2 s2 S2 h2 => ?_⟩⟩
          have h1' : VOk X.K B G2 H2 σ env v1 (.dict es) (.pk i) := h1
          obtain ⟨pa, ov, rfl, hg, r⟩ := dget_of S2 h1' h2 c2
          rw [hx] at r
          cases ov with
          | none => exact r.elim
          | some v =>
            cases r
            refine ⟨pa, _, rfl, hg, B, Gb, G2, env, W2, _, _, _, S2, e3, fun v3 G3 H3 s3 S3 h3 => ?_⟩
            obtain rfl := h3.int S3
            refine ⟨x, y, rfl, rfl, ?_⟩
            obtain ⟨qa, ob, b1, b2, b3, b4, b5⟩ := S3.ow i _ ed
            have ex : qa = pa := by
              have := h1.1
              rw [b1] at this
              cases this
              rfl
            subst ex
            obtain ⟨o', dp, ro⟩ := dput_of S3.sg b4 b5 (Rp.mono (Sub.of s3) h2) (.int (op x y)) c2 c3
            exact ⟨_, dp, p σ G3 _ ((s1.trans s2).trans s3) (S3.change ed b1 ro)⟩
        · cases e
      · cases e
    · cases e
  · cases e
/-- x op= e, whole numbers -/
def sAug (i : Nat) (op : Int → Int → Int) (f : Ex) : Sx := fun env W => match env[i]?, f env W with
  | some (.pl (.int x)), some (.int y, _, W') => some (.nx (env.set i (.pl (.int (op x y)))) W')
  | _, _ => none
theorem psx_aug {i : Nat} {x : Str} {oper : Operator} {op : Int → Int → Int} {pos' : Pos} (hN : X.N.Nodup) (hop : PIp X oper (ipI op)) (he : PX X e f) (hi : X.N[i]? = some x := by rfl) (hx : Loc X.env.scope x := by first | exact .inl rfl | exact .inr rfl)
    (hf : X.fn x = true ∨ X.env.scope.names.lookup x = some .local := by first | exact .inl rfl | exact .inr rfl) : PSX X (.AugAssign (.Name x pos') oper e pos) (sAug i op f) := PS.imp (ps_aug hN hi hx he hop hf) fun D σ H q => by
  obtain ⟨B, Gb, G, env, W, o, S, e, p⟩ := q
  unfold sAug at e
  split at e
  · rename_i x y k W' ex ef
    cases e
    obtain ⟨v, h1, h2⟩ := S.pl i _ ex
    cases h2
    refine ⟨_, h1, B, Gb, G, env, W, _, _, _, S, ef, fun v2 G1 H1 s1 S1 h3 => ?_⟩
    obtain rfl := h3.int S1
    exact ⟨x, y, rfl, rfl, p _ G1 H1 s1 (S1.setSl i (.pl (.int (op x y))) (.int (op x y)) (.int _) fun z => absurd z Bool.false_ne_true)⟩
  · cases e
/-- xs.append(e) -/
def sApp (i : Nat) (f : Ex) : Sx := fun env W => (f env W).bind fun r => match env[i]? with
  | some (.ow (.list ds)) => if esc r.2.1 = true ∧ ds.length < 16777216 then some (.nx (env.set i (.ow (.list (ds ++ [r.1])))) r.2.2) else none
  | _ => none
theorem psx_app {o : Expr} {i : Nat} {apos cpos : Pos} (ho : PX X o (cVar i)) (he : PX X a f)
    (hbase : attributeBase o "append" X.env (eval o X.env) = eval o X.env := by rfl)
    (hfew : ((backTo cpos (starEach [a] X.env)).all (fun x => !x.1) && (backToKw cpos (keywordEach [] X.env)).all (fun x => x.1.isSome)
      && decide (([a] : List Expr).length + ([] : List Keyword).length + (if ([] : List Keyword).isEmpty then 0 else 1) < 30)) = true := by rfl)
    (hline : (apos.endLine == cpos.line) = true := by rfl) (hs : starEach [a] X.env = (false, eval a X.env) :: starEach [] X.env := by rfl) (hplain : (backTo cpos (starEach [] X.env)).any (·.1) = false := by rfl)
    (hsw : swapsWith (.Call (.Attribute o "append" apos) [a] [] cpos) none pos.line X.env = pure false := by rfl) : PSX X (.Expr (.Call (.Attribute o "append" apos) [a] [] cpos) pos) (sApp i f) :=
  PS.imp (ps_expr (pe_bm PySem.F.plainAttrs_list PySem.F.slot_list_append PySem.F.type_list_append mt_append ho (pxs_cons he pxs_nil hs) hbase hfew hline hs hplain) hsw) fun D σ H q => by
  obtain ⟨B, Gb, G, env, W, o, S, e, p⟩ := q
  unfold sApp at e
  rw [Option.bind_eq_some_iff] at e
  obtain ⟨⟨dv, kv, W1⟩, e1, e⟩ := e
  dsimp only at e
  split at e
  · rename_i ds ed
    split at e
    · rename_i hc
      cases e
      have ev : cVar i env W = some (.list ds, .pk i, W) := by unfold cVar; rw [ed]
      refine ⟨B, Gb, G, env, W, _, _, W, S, ev, fun v1 G1 H1 s1 S1 h1 => ?_⟩
      obtain ⟨x, xs, rfl, hx, rx⟩ := h1.list S1
      refine ⟨.inl ⟨rfl, xs, .of hx⟩, B, Gb, G1, env, W, [(dv, kv)], W1, S1, by simp only [cArgs, e1, Option.bind_some, Option.map_some], fun vs G2 H2 s2 S2 p2 => ?_⟩
      match vs, p2 with
      | [v], p2 =>
        obtain ⟨G3, s3, S3, rv, _⟩ := freeze1 S2 p2.1 hc.1
        obtain ⟨qa, ob, b1, b2, b3, b4, b5⟩ := S3.ow i _ ed
        have ex : qa = x := by
          have := h1.1
          rw [b1] at this
          cases this
          rfl
        subst ex
        cases ob <;> first | exact b5.elim | skip
        rename_i ys
        have b5 : RpL X.K G3 ys ds := b5
        exact ⟨qa, ys, v, rfl, rfl, b4, by rw [sizeLine_eq, b5.length]; exact hc.2, p σ G3 _ ((s1.trans s2).trans s3) (S3.change (o := .lst (ys ++ [v])) ed b1 (b5.append (.single rv)))⟩
    · cases e
  · cases e
/-- xs.extend(e), e a list -/
def sExt (i : Nat) (f : Ex) : Sx := fun env W => match f env W with
  | some (.list es, _, W') => (match env[i]? with
    | some (.ow (.list ds)) => if ds.length + es.length ≤ 16777216 then some (.nx (env.set i (.ow (.list (ds ++ es)))) W') else none
    | _ => none)
  | _ => none
theorem psx_ext {o : Expr} {i : Nat} {apos cpos : Pos} (ho : PX X o (cVar i)) (he : PX X a f)
    (hbase : attributeBase o "extend" X.env (eval o X.env) = eval o X.env := by rfl)
    (hfew : ((backTo cpos (starEach [a] X.env)).all (fun x => !x.1) && (backToKw cpos (keywordEach [] X.env)).all (fun x => x.1.isSome)
      && decide (([a] : List Expr).length + ([] : List Keyword).length + (if ([] : List Keyword).isEmpty then 0 else 1) < 30)) = true := by rfl)
    (hline : (apos.endLine == cpos.line) = true := by rfl) (hs : starEach [a] X.env = (false, eval a X.env) :: starEach [] X.env := by rfl) (hplain : (backTo cpos (starEach [] X.env)).any (·.1) = false := by rfl)
    (hsw : swapsWith (.Call (.Attribute o "extend" apos) [a] [] cpos) none pos.line X.env = pure false := by rfl) : PSX X (.Expr (.Call (.Attribute o "extend" apos) [a] [] cpos) pos) (sExt i f) :=
  PS.imp (ps_expr (pe_bm PySem.F.plainAttrs_list PySem.F.slot_list_extend PySem.F.type_list_extend mt_extend ho (pxs_cons he pxs_nil hs) hbase hfew hline hs hplain) hsw) fun D σ H q => by
  obtain ⟨B, Gb, G, env, W, o, S, e, p⟩ := q
  unfold sExt at e
  split at e
  · rename_i es kv W1 e1
    split at e
    · rename_i ds ed
      split at e
      · rename_i hc
        cases e
        have ev : cVar i env W = some (.list ds, .pk i, W) := by unfold cVar; rw [ed]
        refine ⟨B, Gb, G, env, W, _, _, W, S, ev, fun v1 G1 H1 s1 S1 h1 => ?_⟩
        obtain ⟨x, xs, rfl, hx, rx⟩ := h1.list S1
        refine ⟨.inl ⟨rfl, xs, .of hx⟩, B, Gb, G1, env, W, [(.list es, kv)], W1, S1, by simp only [cArgs, e1, Option.bind_some, Option.map_some], fun vs G2 H2 s2 S2 p2 => ?_⟩
        match vs, p2 with
        | [v], p2 =>
          obtain ⟨y, ys, rfl, hy, ry⟩ := p2.1.list S2
          obtain ⟨qa, ob, b1, b2, b3, b4, b5⟩ := S2.ow i _ ed
          have ex : qa = x := by
            have := h1.1
            rw [b1] at this
            cases this
            rfl
          subst ex
          cases ob <;> first | exact b5.elim | skip
          rename_i zs
          have b5 : RpL X.K G2 zs ds := b5
          exact ⟨qa, y, zs, ys, rfl, rfl, b4, hy, by rw [sizeLine_eq, b5.length, ry.length]; exact hc, p σ G2 _ (s1.trans s2) (S2.change (o := .lst (zs ++ ys)) ed b1 (b5.append ry))⟩
      · cases e
    · cases e
  · cases e
end
end PX

namespace PX
open PySem PySem.Spec PyProof.Rows L2

/-! ### while -/
def whileL : Nat → Ct → Sx → Sx
  | 0, _, _ => fun _ _ => none
  | n + 1, t, g => fun env W => (t env W).bind fun r => if r.1 then (match g env r.2 with
      | some (.nx e' W') => whileL n t g e' W'
      | some (.ct e' W') => whileL n t g e' W'
      | some (.bk e' W') => some (.nx e' W')
      | r => r) else some (.nx env r.2)
section
variable {X : Cx} {c : Expr} {body : List Stmt} {t : Ct} {g : Sx} {pos : Pos}
theorem psx_while (n : Nat) (hp : PassesOwn (model X.prog X.w) X.A X.env X.xe) (hc : PTX X c t) (hb : PSsX X body g) : PSX X (.While c body [] pos) (whileL n t g) := PS.imp (ps_while hp hc hb) fun D σ H q => by
  obtain ⟨B, Gb, G, env, W, o, S, e, p⟩ := q
  refine ⟨fun m σ H => ∃ G1 env1 W1, Same G G1 ∧ Sta X.K B Gb G1 H σ env1 W1 ∧ whileL m t g env1 W1 = some o, ⟨n, G, env, W, Same.refl _, S, e⟩, ?_⟩
  rintro m σ H ⟨G1, env1, W1, s1, S1, e1⟩
  cases m with
  | zero => cases e1
  | succ m =>
    rw [whileL, Option.bind_eq_some_iff] at e1
    obtain ⟨⟨b, W2⟩, e2, e3⟩ := e1
    refine ⟨B, Gb, G1, env1, W1, b, W2, S1, e2, fun G2 H2 s2 S2 => ?_⟩
    dsimp only at e3
    cases b with
    | false =>
      rw [if_neg Bool.false_ne_true] at e3 ⊢
      cases e3
      exact p σ G2 H2 (s1.trans s2) S2
    | true =>
      rw [if_pos rfl] at e3 ⊢
      refine ⟨fun σ' H' => ∃ G1 env1 W1, Same G G1 ∧ Sta X.K B Gb G1 H' σ' env1 W1 ∧ whileL m t g env1 W1 = some o, fun σ' H' h => ⟨m, Nat.lt_succ_self m, h⟩, ?_⟩
      split at e3
      · rename_i e' W' eg
        exact ⟨B, Gb, G2, env1, W2, _, S2, eg, fun σ3 G3 H3 s3 S3 => ⟨G3, e', W', (s1.trans s2).trans s3, S3, e3⟩⟩
      · rename_i e' W' eg
        exact ⟨B, Gb, G2, env1, W2, _, S2, eg, fun σ3 G3 H3 s3 S3 => ⟨G3, e', W', (s1.trans s2).trans s3, S3, e3⟩⟩
      · rename_i e' W' eg
        cases e3
        exact ⟨B, Gb, G2, env1, W2, _, S2, eg, fun σ3 G3 H3 s3 S3 => p σ3 G3 H3 ((s1.trans s2).trans s3) S3⟩
      · rename_i r n1 n2 n3
        cases o with
        | nx a b => exact absurd e3 (n1 a b)
        | ct a b => exact absurd e3 (n2 a b)
        | bk a b => exact absurd e3 (n3 a b)
        | rt d W' => exact ⟨B, Gb, G2, env1, W2, _, S2, e3, post.sub p (s1.trans s2)⟩
end

/-! ### what a loop walks -/
abbrev Ci := SEnv → List Int → Option (List PyData × Kd × List Int)
structure IW (K : PySem.W.Frag) (J : It) (ds : List PyData) (C : Hp → Hp → Prop) : Prop where
  goes : ∀ i G H, i < ds.length → C G H → J.go i H
  stops : ∀ G H, C G H → J.stop ds.length H
  yields : ∀ i G H x H', i < ds.length → C G H → J.yld i H x H' → ∃ d, ds[i]? = some d ∧ ((H' = H ∧ Rp K G x d) ∨ (∃ T x1 y1 d1 d2, x = .ref T ∧ H T = none ∧ H' = upd H T (.tup [x1, y1]) ∧ d = .tuple [d1, d2] ∧ Rp K G x1 d1 ∧ Rp K G y1 d2) ∨
    ∃ (q : Addr) (ks : List Key), H' = H ∧ x = .ref q ∧ H q = some (.tup (ks.map kV)) ∧ ks.all keyOk = true ∧ d = keyTD ks)
/-- a tuple that stands comes into the frozen part -/
theorem Sta.tupIn {K : PySem.W.Frag} {B Gb G H : Hp} {σ : L2.St} {env : SEnv} {W : List Int} (S : Sta K B Gb G H σ env W) {q : Addr} {xs : List V} (h : H q = some (.tup xs)) : ∃ G', Same G G' ∧ Sta K B Gb G' H σ env W ∧ G' q = some (.tup xs) := by
  cases e : G q with
  | some o =>
    have := S.sg _ _ e
    rw [h] at this
    cases this
    exact ⟨G, Same.refl _, S, e⟩
  | none =>
    refine ⟨upd G q (.tup xs), same_upd e, S.freeze h e (.inr ⟨xs, rfl⟩) (fun i ho => ?_), upd_same⟩
    obtain ⟨_, _, o, e2, e3⟩ := S.own_at ho
    rw [h] at e2
    cases e2
    exact e3 xs rfl
theorem RpL.keys {K : PySem.W.Frag} {G : Hp} : ∀ {ks : List Key}, ks.all keyOk = true → RpL K G (ks.map kV) (ks.map keyD)
  | [], _ => .nil
  | k :: ks, h => by
    rw [List.all_cons, Bool.and_eq_true] at h
    exact .cons (kV_rp h.1) (RpL.keys h.2)
theorem IW.yield {K : PySem.W.Frag} {J : It} {ds : List PyData} {C : Hp → Hp → Prop} {B Gb G H H' : Hp} {σ : L2.St} {env : SEnv} {W : List Int} {i : Nat} {x : V} (w : IW K J ds C) (S : Sta K B Gb G H σ env W) (c : C G H) (hi : i < ds.length) (y : J.yld i H x H') :
    ∃ d G', ds[i]? = some d ∧ Same G G' ∧ Same H H' ∧ Sta K B Gb G' H' σ env W ∧ Rp K G' x d := by
  obtain ⟨d, hd, ⟨rfl, r⟩ | ⟨T, x1, y1, d1, d2, rfl, hT, rfl, rfl, r1, r2⟩ | ⟨q, ks, rfl, rfl, hq, hk, rfl⟩⟩ := w.yields i G H x H' hi c y
  rotate_right
  · obtain ⟨G', s', S', hG⟩ := S.tupIn hq
    exact ⟨_, G', hd, s', Same.refl _, S', .tup (.inl hG) (RpL.keys hk)⟩
  · exact ⟨d, G, hd, Same.refl _, Same.refl _, S, r⟩
  · obtain ⟨n1, n2, n3⟩ := S.new hT
    have sm : Same G (upd G T (.tup [x1, y1])) := same_upd n1
    exact ⟨_, _, hd, sm, same_upd hT, (S.laid (o := .tup [x1, y1]) hT).freeze upd_same n1 (.inl n2) n3, .tup (.inl upd_same) (.cons (Rp.mono (Sub.of sm) r1) (.cons (Rp.mono (Sub.of sm) r2) .nil))⟩
/-- C holds wherever the state stands from here on -/
def Hld (K : PySem.W.Frag) (σ : L2.St) (env : SEnv) (G0 : Hp) (k : Kd) (C : Hp → Hp → Prop) : Prop := ∀ B Gb G H σ1 env1 W, Same G0 G → Sta K B Gb G H σ1 env1 W → (∀ i, k = .pk i → env1[i]? = env[i]? ∧ σ1[i]? = σ[i]?) → C G H
def tI (K : PySem.W.Frag) (f : Ci) : TI := fun σ H R => ∃ B Gb G env W ds k W', Sta K B Gb G H σ env W ∧ f env W = some (ds, k, W') ∧
  ∀ J G' H' C, Same G G' → Sta K B Gb G' H' σ env W' → IW K J ds C → Hld K σ env G' k C → ds.length ≤ 16777216 → R J H'
def PIX (X : Cx) (tg e : Expr) (f : Ci) : Prop := PI X tg e (tI X.K f)
theorem PI.imp {X : Cx} {tg e : Expr} {t t' : TI} (h : PI X tg e t) (i : ∀ σ H R, t' σ H R → t σ H R) : PI X tg e t' := ⟨fun pins s σ H R I q => h.run pins s σ H R I (i _ _ _ q)⟩
structure LenOk (K : PySem.W.Frag) (H : Hp) : Prop where
  l : ∀ a xs, SqL K H a xs → xs.length ≤ sizeLine
  t : ∀ a xs, SqT K H a xs → xs.length ≤ sizeLine
theorem Inv.lenOk {X : Cx} {pins : List (Addr × Obj)} {σ : L2.St} {H : Hp} {s : Shared} (I : Inv X pins σ H s) : LenOk X.K H :=
  ⟨fun a xs q => (I.list q).choose_spec.2.2, fun a xs q => (I.tuple q).choose_spec.2.2⟩
theorem PI.hok {X : Cx} {tg e : Expr} {wi : TI} (h : PI X tg e wi) : PI X tg e (fun σ H R => wi σ H fun J H1 => LenOk X.K H1 → R J H1) := ⟨fun pins s σ H R I q => by
  refine thn (h.run pins s σ H _ I q) fun v s1 h1 => thn h1 fun itv s2 h2 => ?_
  obtain ⟨it, fp, tn, J, H', e, I2, T, st, f, r⟩ := h2
  exact ⟨it, fp, tn, J, H', e, I2, T, st, f, r (Inv.lenOk I2)⟩⟩
/-- a list or a tuple -/
theorem pi_seq {X : Cx} {tg l : Expr} {tl : TE} (hl : PE X l tl) : PI X tg l (fun σ H R => tl σ H fun x H1 => ∃ a, x = .ref a ∧ (((∃ xs, SqL X.K H1 a xs) ∧ R (Itl X.K a) H1) ∨ ((∃ xs, SqT X.K H1 a xs) ∧ R (Itt X.K a) H1))) := by
  refine ⟨fun pins s σ H R I h => ?_⟩
  refine thn (hl.run pins s σ H _ I h) fun v s1 ⟨x, H1, I1, r1, q1⟩ => ?_
  obtain ⟨a, e, q⟩ := q1
  subst e
  cases r1
  have fpok : ∀ b ∈ [s1.heap.objs.size], FpOk X pins H1 b := fun b hb => by
    have e : b = s1.heap.objs.size := by simpa using hb
    subst e
    exact I1.fpOk (Nat.le_refl _) (I1.hok.fresh (Nat.le_refl _))
  rcases q with ⟨⟨xs, hq⟩, q⟩ | ⟨⟨xs, hq⟩, q⟩
  · obtain ⟨its, rv, p, hz⟩ := I1.list hq
    refine wpAny_pyIter_list p.isList ?_
    exact ⟨s1.heap.objs.size, [s1.heap.objs.size], _, _, H1, rfl, I1.kept (t' := s1.toks) fun b o e => Heap.get?_push_of_some _ e, turn_list a _, ⟨_, Heap.get?_push_size _ rfl, rfl, rfl⟩, fpok, q⟩
  · obtain ⟨its, rv, p, hz⟩ := I1.tuple hq
    refine wpAny_pyIter_tuple (show s1.heap.IsTuple a its.toArray from p) ?_
    exact ⟨s1.heap.objs.size, [s1.heap.objs.size], _, _, H1, rfl, I1.kept (t' := s1.toks) fun b o e => Heap.get?_push_of_some _ e, turn_tuple a _, ⟨_, Heap.get?_push_size _ rfl, rfl, rfl⟩, fpok, q⟩
section
variable {K : PySem.W.Frag} {B Gb G H : Hp} {σ : L2.St} {env : SEnv} {W : List Int} {a : Addr} {xs : List V} {ds : List PyData}
theorem iw_list : IW K (Itl K a) ds (fun G H => ∃ xs, SqL K H a xs ∧ RpL K G xs ds) where
  goes := fun i G H hi c => by
    obtain ⟨xs, q, r⟩ := c
    have hl := r.length
    exact ⟨xs, xs[i], q, by simp [hl, hi]⟩
  stops := fun G H c => by
    obtain ⟨xs, q, r⟩ := c
    exact ⟨xs, q, by rw [r.length]; exact Nat.le_refl _⟩
  yields := fun i G H x H' hi c y => by
    obtain ⟨xs, q, r⟩ := c
    obtain ⟨rfl, y⟩ := y
    obtain ⟨d, hd, rd⟩ := r.get' (y xs q)
    exact ⟨d, hd, .inl ⟨rfl, rd⟩⟩
theorem iw_tup : IW K (Itt K a) ds (fun G H => ∃ xs, SqT K H a xs ∧ RpL K G xs ds) where
  goes := fun i G H hi c => by
    obtain ⟨xs, q, r⟩ := c
    have hl := r.length
    exact ⟨xs, xs[i], q, by simp [hl, hi]⟩
  stops := fun G H c => by
    obtain ⟨xs, q, r⟩ := c
    exact ⟨xs, q, by rw [r.length]; exact Nat.le_refl _⟩
  yields := fun i G H x H' hi c y => by
    obtain ⟨xs, q, r⟩ := c
    obtain ⟨rfl, y⟩ := y
    obtain ⟨d, hd, rd⟩ := r.get' (y xs q)
    exact ⟨d, hd, .inl ⟨rfl, rd⟩⟩
theorem iw_ints {lo c : Int} {n : Nat} {J : It} (hg : ∀ i H, i < n → J.go i H) (hs : ∀ H, J.stop n H) (hy : ∀ i H x H', J.yld i H x H' → H' = H ∧ x = .int (lo + (i : Nat) * c)) : IW K J ((List.range n).map fun (i : Nat) => PyData.int (lo + (i : Nat) * c)) (fun _ _ => True) where
  goes := fun i G H hi _ => hg i H (by simpa using hi)
  stops := fun G H _ => by simpa using hs H
  yields := fun i G H x H' hi _ y => by
    obtain ⟨rfl, rfl⟩ := hy i H x H' y
    have hi' : i < n := by simpa using hi
    exact ⟨.int (lo + (i : Nat) * c), by simp [hi'], .inl ⟨rfl, .int _⟩⟩
theorem iw_zip {b : Addr} {ys : List V} {es : List PyData} : IW K (Itz K a b) (List.zipWith (fun d e => PyData.tuple [d, e]) ds es) (fun G H => ∃ xs ys, SqL K H a xs ∧ SqL K H b ys ∧ RpL K G xs ds ∧ RpL K G ys es) where
  goes := fun i G H hi c => by
    obtain ⟨xs, ys, q1, q2, r1, r2⟩ := c
    rw [List.length_zipWith] at hi
    have l1 := r1.length
    have l2 := r2.length
    exact ⟨xs, ys, xs[i]'(by omega), ys[i]'(by omega), q1, q2, List.getElem?_eq_getElem _, List.getElem?_eq_getElem _⟩
  stops := fun G H c => by
    obtain ⟨xs, ys, q1, q2, r1, r2⟩ := c
    have l1 := r1.length
    have l2 := r2.length
    exact ⟨xs, ys, q1, q2, by rw [List.length_zipWith]; omega⟩
  yields := fun i G H x H' hi c y => by
    obtain ⟨xs, ys, q1, q2, r1, r2⟩ := c
    obtain ⟨T, x1, y1, rfl, hT, rfl, h1, h2⟩ := y
    obtain ⟨d1, hd1, rd1⟩ := r1.get' (h1 xs q1)
    obtain ⟨d2, hd2, rd2⟩ := r2.get' (h2 ys q2)
    exact ⟨.tuple [d1, d2], by rw [List.getElem?_zipWith, hd1, hd2], .inr (.inl ⟨T, x1, y1, d1, d2, rfl, hT, rfl, rfl, rd1, rd2⟩)⟩
theorem iw_zipT {b : Addr} {ys : List V} {es : List PyData} : IW K (RZ.ItzT K a b) (List.zipWith (fun d e => PyData.tuple [d, e]) ds es) (fun G H => ∃ xs ys, SqT K H a xs ∧ SqT K H b ys ∧ RpL K G xs ds ∧ RpL K G ys es) where
  goes := fun i G H hi c => by
    obtain ⟨xs, ys, q1, q2, r1, r2⟩ := c
    rw [List.length_zipWith] at hi
    have l1 := r1.length
    have l2 := r2.length
    exact ⟨xs, ys, xs[i]'(by omega), ys[i]'(by omega), q1, q2, List.getElem?_eq_getElem _, List.getElem?_eq_getElem _⟩
  stops := fun G H c => by
    obtain ⟨xs, ys, q1, q2, r1, r2⟩ := c
    have l1 := r1.length
    have l2 := r2.length
    exact ⟨xs, ys, q1, q2, by rw [List.length_zipWith]; omega⟩
  yields := fun i G H x H' hi c y => by
    obtain ⟨xs, ys, q1, q2, r1, r2⟩ := c
    obtain ⟨T, x1, y1, rfl, hT, rfl, h1, h2⟩ := y
    obtain ⟨d1, hd1, rd1⟩ := r1.get' (h1 xs q1)
    obtain ⟨d2, hd2, rd2⟩ := r2.get' (h2 ys q2)
    exact ⟨.tuple [d1, d2], by rw [List.getElem?_zipWith, hd1, hd2], .inr (.inl ⟨T, x1, y1, d1, d2, rfl, hT, rfl, rfl, rd1, rd2⟩)⟩
end

/-! ### the iterables -/
def kdI : Kd → Kd
  | .pk i => .pk i
  | _ => .im
def iSeq (f : Ex) : Ci := fun env W => match f env W with
  | some (.list ds, k, W') => some (ds, kdI k, W')
  | some (.tuple ds, _, W') => some (ds, .im, W')
  | _ => none
def rgI (lo : Int) (n : Nat) : List PyData := (List.range n).map fun (i : Nat) => PyData.int (lo + (i : Nat) * 1)
def rgD (lo : Int) (n : Nat) : List PyData := (List.range n).map fun (i : Nat) => PyData.int (lo + (i : Nat) * (-1))
def iR1 (f : Ex) : Ci := fun env W => match f env W with
  | some (.int j, _, W') => if j ≤ 1000000 ∧ -1000000 ≤ j then some (rgI 0 j.toNat, .im, W') else none
  | _ => none
def iR2 (f g : Ex) : Ci := fun env W => match f env W with
  | some (.int i, _, W1) => (match g env W1 with
    | some (.int j, _, W') => if i ≤ 1000000 ∧ -1000000 ≤ i ∧ j ≤ 1000000 ∧ -1000000 ≤ j then some (rgI i (j - i).toNat, .im, W') else none
    | _ => none)
  | _ => none
def iR3 (f g h : Ex) : Ci := fun env W => match f env W with
  | some (.int i, _, W1) => (match g env W1 with
    | some (.int j, _, W2) => (match h env W2 with
      | some (.int (-1), _, W') => if i ≤ 1000000 ∧ -1000000 ≤ i ∧ j ≤ 1000000 ∧ -1000000 ≤ j then some (rgD i (i - j).toNat, .im, W') else none
      | _ => none)
    | _ => none)
  | _ => none
def iZip (f g : Ex) : Ci := fun env W => match f env W with
  | some (.list ds, k, W1) => (match g env W1 with
    | some (.list es, k', W') => if esc k && esc k' then some (List.zipWith (fun d e => PyData.tuple [d, e]) ds es, .im, W') else none
    | _ => none)
  | some (.tuple ds, k, W1) => (match g env W1 with
    | some (.tuple es, k', W') => if esc k && esc k' then some (List.zipWith (fun d e => PyData.tuple [d, e]) ds es, .im, W') else none
    | _ => none)
  | _ => none
section
variable {X : Cx} {tg e a b c : Expr} {es : List Expr} {f g h : Ex} {pos p : Pos}
theorem pix_seq (he : PX X e f) : PIX X tg e (iSeq f) := PI.imp (PI.hok (pi_seq he)) fun σ H R q => by
  obtain ⟨B, Gb, G, env, W, ds, k, W', S, e, c⟩ := q
  unfold iSeq at e
  split at e
  · rename_i ds' k1 W1 e1
    cases e
    refine ⟨B, Gb, G, env, W, _, k1, W', S, e1, fun v G1 H1 s1 S1 h1 => ?_⟩
    by_cases hk : esc k1 = true
    · obtain ⟨G2, s2, S2, r, -⟩ := freeze1 S1 h1 hk
      cases r with
      | lst ha rl =>
        rename_i a xs
        refine ⟨a, rfl, .inl ⟨⟨xs, .of (S2.sg _ _ ha)⟩, fun L => ?_⟩⟩
        have hl := L.l a xs (.of (S2.sg _ _ ha))
        refine c _ G2 H1 _ (s1.trans s2) S2 iw_list (fun B3 Gb3 G3 H3 σ3 env3 W3 s3 S3 _ => ⟨xs, .of (S3.sg _ _ (s3 _ _ ha)), RpL.mono (Sub.of s3) rl⟩) ?_
        rw [← rl.length]
        rwa [sizeLine_eq] at hl
    · cases k1 with
      | im => exact absurd rfl hk
      | fr => exact absurd rfl hk
      | pk i =>
        obtain ⟨a, xs, rfl, ha, rl⟩ := h1.list S1
        refine ⟨a, rfl, .inl ⟨⟨xs, .of ha⟩, fun L => ?_⟩⟩
        have hl := L.l a xs (.of ha)
        refine c _ G1 H1 _ s1 S1 iw_list (fun B3 Gb3 G3 H3 σ3 env3 W3 s3 S3 z => ?_) ?_
        · obtain ⟨z1, z2⟩ := z i rfl
          have h3 : VOk X.K B3 G3 H3 σ3 env3 (.ref a) (.list ds) (.pk i) := ⟨z2 ▸ h1.1, by rw [z1]; exact h1.2⟩
          obtain ⟨a', xs', ea, ha', rl'⟩ := h3.list S3
          cases ea
          exact ⟨xs', .of ha', rl'⟩
        · rw [← rl.length]
          rwa [sizeLine_eq] at hl
  · rename_i ds' k1 W1 e1
    cases e
    refine ⟨B, Gb, G, env, W, _, k1, W', S, e1, fun v G1 H1 s1 S1 h1 => ?_⟩
    obtain ⟨a, xs, rfl, ha, rl⟩ := h1.tuple S1
    have q1 : ∀ {G3 H3 : Hp}, Same G1 G3 → Same G3 H3 → SqT X.K H3 a xs := fun s3 s4 => (Sub.of s4).sqT ((Sub.of s3).sqT ha.sqT)
    refine ⟨a, rfl, .inr ⟨⟨xs, q1 (Same.refl _) S1.sg⟩, fun L => ?_⟩⟩
    have hl := L.t a xs (q1 (Same.refl _) S1.sg)
    refine c _ G1 H1 _ s1 S1 iw_tup (fun B3 Gb3 G3 H3 σ3 env3 W3 s3 S3 _ => ⟨xs, q1 s3 S3.sg, RpL.mono (Sub.of s3) rl⟩) ?_
    rw [← rl.length]
    rwa [sizeLine_eq] at hl
  · cases e
theorem pix_range1 (hg : Gl X "range") (hm : X.mg "range" = none) (ha : PXs X [a] [f]) (hs : starEach [a] X.env = [(false, eval a X.env)] := by rfl) : PIX X tg (.Call (.Name "range" p) [a] [] pos) (iR1 f) := PI.imp (pi_range1 hg hm ha hs) fun σ H R q => by
  obtain ⟨B, Gb, G, env, W, ds, k, W', S, e, c⟩ := q
  unfold iR1 at e
  split at e
  · rename_i j k1 W1 e1
    split at e
    · rename_i hj
      cases e
      refine ⟨B, Gb, G, env, W, [(.int j, k1)], W', S, by simp only [cArgs, e1, Option.bind_some, Option.map_some], fun vs G1 H1 s1 S1 p1 => ?_⟩
      match vs, p1 with
      | [v], p1 =>
        obtain rfl := p1.1.int S1
        refine ⟨j, rfl, by omega, by omega, c (Itr 0 j.toNat) G1 H1 _ s1 S1 (iw_ints (fun i H h => h) (fun H => Nat.le_refl _) fun i H x H' y => ⟨y.1, by rw [y.2, Int.mul_one]⟩) (fun _ _ _ _ _ _ _ _ _ _ => trivial) ?_⟩
        simp only [rgI, List.length_map, List.length_range]
        omega
    · cases e
  · cases e
theorem pix_range2 (hg : Gl X "range") (hm : X.mg "range" = none) (ha : PXs X [a, b] [f, g]) (hs : starEach [a, b] X.env = [(false, eval a X.env), (false, eval b X.env)] := by rfl) (hs2 : starEach [b] X.env = [(false, eval b X.env)] := by rfl) : PIX X tg (.Call (.Name "range" p) [a, b] [] pos) (iR2 f g) := PI.imp (pi_range2 hg hm ha hs hs2) fun σ H R q => by
  obtain ⟨B, Gb, G, env, W, ds, k, W', S, e, c⟩ := q
  unfold iR2 at e
  split at e
  · rename_i i k1 W1 e1
    split at e
    · rename_i j k2 W2 e2
      split at e
      · rename_i hj
        cases e
        refine ⟨B, Gb, G, env, W, [(.int i, k1), (.int j, k2)], W', S, by simp only [cArgs, e1, e2, Option.bind_some, Option.map_some], fun vs G1 H1 s1 S1 p1 => ?_⟩
        match vs, p1 with
        | [v, v'], p1 =>
          obtain rfl := p1.1.int S1
          obtain rfl := p1.2.2.1.int S1
          refine ⟨i, j, rfl, ⟨by omega, by omega, by omega, by omega⟩, c (Itr i (j - i).toNat) G1 H1 _ s1 S1 (iw_ints (fun i H h => h) (fun H => Nat.le_refl _) fun i H x H' y => ⟨y.1, by rw [y.2, Int.mul_one]⟩) (fun _ _ _ _ _ _ _ _ _ _ => trivial) ?_⟩
          simp only [rgI, List.length_map, List.length_range]
          omega
      · cases e
    · cases e
  · cases e
theorem pix_range3 (hg : Gl X "range") (hm : X.mg "range" = none) (ha : PXs X [a, b, c] [f, g, h]) (hs : starEach [a, b, c] X.env = (false, eval a X.env) :: starEach [b, c] X.env := by rfl) (hpl : (backTo pos (starEach [b, c] X.env)).any (·.1) = false := by rfl) : PIX X tg (.Call (.Name "range" p) [a, b, c] [] pos) (iR3 f g h) := PI.imp (pi_range3 hg hm ha hs hpl) fun σ H R q => by
  obtain ⟨B, Gb, G, env, W, ds, k, W', S, e, c⟩ := q
  unfold iR3 at e
  split at e
  · rename_i i k1 W1 e1
    split at e
    · rename_i j k2 W2 e2
      split at e
      · rename_i k3 W3 e3
        split at e
        · rename_i hj
          cases e
          refine ⟨B, Gb, G, env, W, [(.int i, k1), (.int j, k2), (.int (-1), k3)], W', S, by simp only [cArgs, e1, e2, e3, Option.bind_some, Option.map_some], fun vs G1 H1 s1 S1 p1 => ?_⟩
          match vs, p1 with
          | [v, v', v''], p1 =>
            obtain rfl := p1.1.int S1
            obtain rfl := p1.2.2.1.int S1
            obtain rfl := p1.2.2.2.2.1.int S1
            refine ⟨i, j, -1, (i - j).toNat, rfl, RgC.neg (by omega) (by omega) (by omega) (by omega), c (Itc i (-1) (i - j).toNat) G1 H1 _ s1 S1 (iw_ints (fun i H h => h) (fun H => Nat.le_refl _) fun i H x H' y => y) (fun _ _ _ _ _ _ _ _ _ _ => trivial) ?_⟩
            simp only [rgD, List.length_map, List.length_range]
            omega
        · cases e
      · cases e
    · cases e
  · cases e
theorem pix_zip {elts : List Expr} {kk : Nat} {tpos : Pos} (hg : Gl X "zip") (hm : X.mg "zip" = none) (ha : PXs X [a, b] [f, g])
    (hs : starEach [a, b] X.env = (false, eval a X.env) :: starEach [b] X.env := by rfl) (hpl : (backTo pos (starEach [b] X.env)).any (·.1) = false := by rfl) : PIX X (.Tuple elts kk tpos) (.Call (.Name "zip" p) [a, b] [] pos) (iZip f g) := PI.imp (PI.hok (RZ.pi_zipA hg hm ha hs hpl)) fun σ H R q => by
  obtain ⟨B, Gb, G, env, W, ds, k, W', S, e, c⟩ := q
  unfold iZip at e
  split at e
  · rename_i ds1 k1 W1 e1
    split at e
    · rename_i ds2 k2 W2 e2
      split at e
      · rename_i hk
        cases e
        rw [Bool.and_eq_true] at hk
        refine ⟨B, Gb, G, env, W, [(.list ds1, k1), (.list ds2, k2)], W', S, by simp only [cArgs, e1, e2, Option.bind_some, Option.map_some], fun vs G1 H1 s1 S1 p1 => ?_⟩
        obtain ⟨G2, s2, S2, rl⟩ := freezeL S1 p1 (by simp [hk])
        match vs, rl with
        | [v1, v2], .cons r1 (.cons r2 _) =>
          cases r1 with
          | lst ha ra =>
            rename_i a1 xs
            cases r2 with
            | lst hb rb =>
              rename_i a2 ys
              refine ⟨a1, a2, xs, ys, rfl, .inl ⟨.of (S2.sg _ _ ha), .of (S2.sg _ _ hb), fun L => ?_⟩⟩
              have hl := L.l a1 xs (.of (S2.sg _ _ ha))
              refine c _ G2 H1 _ (s1.trans s2) S2 (iw_zip (ys := ys)) (fun B3 Gb3 G3 H3 σ3 env3 W3 s3 S3 _ => ⟨xs, ys, .of (S3.sg _ _ (s3 _ _ ha)), .of (S3.sg _ _ (s3 _ _ hb)), RpL.mono (Sub.of s3) ra, RpL.mono (Sub.of s3) rb⟩) ?_
              rw [sizeLine_eq, ra.length] at hl
              rw [List.length_zipWith]
              omega
      · cases e
    · cases e
  · rename_i ds1 k1 W1 e1
    split at e
    · rename_i ds2 k2 W2 e2
      split at e
      · rename_i hk
        cases e
        rw [Bool.and_eq_true] at hk
        refine ⟨B, Gb, G, env, W, [(.tuple ds1, k1), (.tuple ds2, k2)], W', S, by simp only [cArgs, e1, e2, Option.bind_some, Option.map_some], fun vs G1 H1 s1 S1 p1 => ?_⟩
        obtain ⟨G2, s2, S2, rl⟩ := freezeL S1 p1 (by simp [hk])
        match vs, rl with
        | [v1, v2], .cons r1 (.cons r2 _) =>
          cases r1 with
          | tup ha ra =>
            rename_i a1 xs
            cases r2 with
            | tup hb rb =>
              rename_i a2 ys
              refine ⟨a1, a2, xs, ys, rfl, .inr ⟨(Sub.of S2.sg).sqT ha.sqT, (Sub.of S2.sg).sqT hb.sqT, fun L => ?_⟩⟩
              have hl := L.t a1 xs ((Sub.of S2.sg).sqT ha.sqT)
              refine c _ G2 H1 _ (s1.trans s2) S2 (iw_zipT (ys := ys)) (fun B3 Gb3 G3 H3 σ3 env3 W3 s3 S3 _ => ⟨xs, ys, (Sub.of S3.sg).sqT ((Sub.of s3).sqT ha.sqT), (Sub.of S3.sg).sqT ((Sub.of s3).sqT hb.sqT), RpL.mono (Sub.of s3) ra, RpL.mono (Sub.of s3) rb⟩) ?_
              rw [sizeLine_eq, ra.length] at hl
              rw [List.length_zipWith]
              omega
      · cases e
    · cases e
  · cases e
end

/-! ### for -/
def forL (t : Tg) (g : Sx) : List PyData → Sx
  | [] => fun env W => some (.nx env W)
  | d :: ds => fun env W => (t d env).bind fun e1 => match g e1 W with
    | some (.nx e' W') => forL t g ds e' W'
    | some (.ct e' W') => forL t g ds e' W'
    | some (.bk e' W') => some (.nx e' W')
    | r => r
def sFor (f : Ci) (t : Tg) (g : Sx) : Sx := fun env W => (f env W).bind fun r => if esc r.2.1 = true then forL t g r.1 env r.2.2 else none
section
variable {X : Cx} {tg iter : Expr} {body : List Stmt} {f : Ci} {t : Tg} {g : Sx} {pos : Pos} {vs : List Nat}
theorem psx_for (hp : PassesOwn (model X.prog X.w) X.A X.env X.xe) (hc : X.calm = true) (hi : PIX X tg iter f) (hg : PGX X tg t vs) (hb : PSsX X body g)
    (hs : ∀ x, foldedSetIterable iter X.env x = pure x := by intro _; rfl) : PSX X (.For tg iter body [] pos) (sFor f t g) := PS.imp (ps_for hp hc hi hg.pg hb hs) fun D σ H q => by
  obtain ⟨B, Gb, G, env, W, o, S, e, p⟩ := q
  unfold sFor at e
  rw [Option.bind_eq_some_iff] at e
  obtain ⟨⟨ds, k, W1⟩, e1, e⟩ := e
  dsimp only at e
  split at e
  · rename_i hk
    refine ⟨B, Gb, G, env, W, ds, k, W1, S, e1, fun J G1 H1 C s1 S1 w hld hlen => ?_⟩
    have hld' : ∀ {B Gb G2 H σ1 env1 W}, Same G1 G2 → Sta X.K B Gb G2 H σ1 env1 W → C G2 H := fun s S => hld _ _ _ _ _ _ _ s S fun i z => by subst z; exact absurd hk Bool.false_ne_true
    refine ⟨fun i m σ H => m = ds.length - i ∧ i ≤ ds.length ∧ ∃ G2 env2 W2, Same G1 G2 ∧ Sta X.K B Gb G2 H σ env2 W2 ∧ forL t g (ds.drop i) env2 W2 = some o, ⟨ds.length, rfl, Nat.zero_le _, G1, env, W1, Same.refl _, S1, e⟩, ?_⟩
    rintro i m σ H ⟨rfl, hi, G2, env2, W2, s2, S2, e2⟩
    by_cases hlt : i < ds.length
    · refine .inr ⟨w.goes i G2 H hlt (hld' s2 S2), fun σ' H' => ∃ G2 env2 W2, Same G1 G2 ∧ Sta X.K B Gb G2 H' σ' env2 W2 ∧ forL t g (ds.drop (i + 1)) env2 W2 = some o, fun σ' H' h => ⟨ds.length - (i + 1), by omega, rfl, hlt, h⟩, fun x H' y => ?_⟩
      obtain ⟨d, G3, hd, s3, h3, S3, r⟩ := w.yield S2 (hld' s2 S2) hlt y
      rw [List.drop_eq_getElem_cons hlt, forL, Option.bind_eq_some_iff] at e2
      obtain ⟨env3, e4, e5⟩ := e2
      have ed : ds[i] = d := by
        rw [List.getElem?_eq_getElem hlt] at hd
        exact Option.some.inj hd
      rw [ed] at e4
      refine ⟨B, Gb, G3, env2, W2, d, env3, S3, r, e4, fun σ3 _ S4 => ?_⟩
      split at e5
      · rename_i e' W' eg
        exact ⟨B, Gb, G3, env3, W2, _, S4, eg, fun σ5 G5 H5 s5 S5 => ⟨G5, e', W', (s2.trans s3).trans s5, S5, e5⟩⟩
      · rename_i e' W' eg
        exact ⟨B, Gb, G3, env3, W2, _, S4, eg, fun σ5 G5 H5 s5 S5 => ⟨G5, e', W', (s2.trans s3).trans s5, S5, e5⟩⟩
      · rename_i e' W' eg
        cases e5
        exact ⟨B, Gb, G3, env3, W2, _, S4, eg, fun σ5 G5 H5 s5 S5 => p σ5 G5 H5 (((s1.trans s2).trans s3).trans s5) S5⟩
      · rename_i r' n1 n2 n3
        cases o with
        | nx a b => exact absurd e5 (n1 a b)
        | ct a b => exact absurd e5 (n2 a b)
        | bk a b => exact absurd e5 (n3 a b)
        | rt d W' => exact ⟨B, Gb, G3, env3, W2, _, S4, e5, post.sub p ((s1.trans s2).trans s3)⟩
    · have ei : i = ds.length := by omega
      subst ei
      rw [List.drop_length] at e2
      cases e2
      exact .inl ⟨w.stops G2 H (hld' s2 S2), p σ G2 H (s1.trans s2) S2⟩
  · cases e
end
end PX

namespace PX
open PySem PySem.Spec PyProof.Rows L2

/-! ### comprehensions -/
def kTrue : Ct := fun _ W => some (true, W)
def lcL (t : Tg) (c : Ct) (e : Ex) : List PyData → SEnv → List Int → Option (List PyData × List Int)
  | [], _, W => some ([], W)
  | d :: ds, env, W => (t d env).bind fun e1 => (c e1 W).bind fun b =>
    if b.1 then (e e1 b.2).bind fun y => if esc y.2.1 = true then (lcL t c e ds env y.2.2).map fun q => (y.1 :: q.1, q.2) else none
    else lcL t c e ds env b.2
def noOwn (env : SEnv) (vs : List Nat) : Bool := vs.all fun i => match env[i]? with | some s => !s.own | none => true
def kOk (vs : List Nat) : Kd → Bool
  | .pk i => decide (i ∉ vs)
  | _ => true
def cLc (f : Ci) (t : Tg) (c : Ct) (e : Ex) (vs : List Nat) : Ex := fun env W => if noOwn env vs = true then (f env W).bind fun r => if kOk vs r.2.1 = true then (lcL t c e r.1 (wipeE env vs) r.2.2).map fun q => (.list q.1, .fr, q.2) else none else none
section
variable {K : PySem.W.Frag} {B Gb G H G1 H1 : Hp} {σ : L2.St} {env : SEnv} {W W1 : List Int} {D : Addr} {acc acc' : List V} {vs : List Nat}
theorem Sta.wipeS (S : Sta K B Gb G H σ env W) (vs : List Nat) : Sta K B Gb G H (wipe σ vs) (PX.wipeE env vs) W := by
  have at' : ∀ {i : Nat} {s : Sl}, s ≠ .no → (PX.wipeE env vs)[i]? = some s → i ∉ vs ∧ env[i]? = some s := fun {i s} hn e => by
    rw [wipeE_at] at e
    split at e
    · cases q : env[i]? with
      | none => rw [q] at e; cases e
      | some z => rw [q] at e; cases e; exact absurd rfl hn
    · exact ⟨by assumption, e⟩
  have st : ∀ {i : Nat} {x : Option V}, i ∉ vs → σ[i]? = some x → (wipe σ vs)[i]? = some x := fun h e => by rw [wipe_at, if_neg h]; exact e
  have own' : ∀ {i p}, Own (PX.wipeE env vs) (wipe σ vs) i p → Own env σ i p := fun {i p} ⟨⟨s, e, o⟩, hp⟩ => by
    obtain ⟨h1, h2⟩ := at' (fun z => by subst z; exact absurd o Bool.false_ne_true) e
    rw [wipe_at, if_neg h1] at hp
    exact ⟨⟨s, h2, o⟩, hp⟩
  have len : ∀ (vs : List Nat) (env : SEnv), (PX.wipeE env vs).length = env.length := by
    intro vs
    induction vs with
    | nil => intro env; rfl
    | cons v vs ih => intro env; rw [PX.wipeE, ih, List.length_set]
  exact {
    sg := S.sg, sb := S.sb, sgb := S.sgb, gb := S.gb
    len := by rw [len, wipe_length]; exact S.len
    pl := fun i d e => by
      obtain ⟨h1, h2⟩ := at' (s := (.pl d)) (fun z => nomatch z) e
      obtain ⟨v, a, b⟩ := S.pl i d h2
      exact ⟨v, st h1 a, b⟩
    ow := fun i d e => by
      obtain ⟨h1, h2⟩ := at' (s := (.ow d)) (fun z => nomatch z) e
      obtain ⟨p, o, a, b⟩ := S.ow i d h2
      exact ⟨p, o, st h1 a, b⟩
    lk := fun i od o d e => by
      obtain ⟨h1, h2⟩ := at' (s := (.lk od o d)) (fun z => nomatch z) e
      obtain ⟨p, a, b⟩ := S.lk i od o d h2
      exact ⟨p, st h1 a, b⟩
    wd := fun i {q} e => by
      obtain ⟨h1, h2⟩ := at' (s := .wd q) (fun z => nomatch z) e
      obtain ⟨p, l, ns, k, a, b⟩ := S.wd i h2
      exact ⟨p, l, ns, k, st h1 a, b⟩
    sc := fun i ns e => by
      obtain ⟨h1, h2⟩ := at' (s := (.sc ns)) (fun z => nomatch z) e
      obtain ⟨p, a, b⟩ := S.sc i ns h2
      exact ⟨p, st h1 a, b⟩
    one := fun i j {p q} e1 e2 => S.one i j (at' (s := .wd p) (fun z => nomatch z) e1).2 (at' (s := .wd q) (fun z => nomatch z) e2).2
    sep := fun i j p h1 h2 => S.sep i j p (own' h1) (own' h2) }
/-- back at the slots as they were -/
theorem Sta.back {H0 G0 : Hp} {W0 : List Int} (S0 : Sta K B Gb G0 H0 σ env W0) (S : Sta K B Gb G H (wipe σ vs) (PX.wipeE env vs) W) (s : Same G0 G) (hn : noOwn env vs = true) : Sta K B Gb G H σ env W := by
  have nv : ∀ {i : Nat} {s : Sl}, env[i]? = some s → s.own = true → i ∉ vs := fun {i s} e o hi => by
    unfold noOwn at hn
    have := List.all_eq_true.mp hn i hi
    rw [e] at this
    dsimp only at this
    rw [o] at this
    exact absurd this Bool.false_ne_true
  have up : ∀ {i : Nat} {s : Sl}, env[i]? = some s → s.own = true → (PX.wipeE env vs)[i]? = some s := fun e o => by rw [wipeE_at, if_neg (nv e o)]; exact e
  have dn : ∀ {i : Nat} {s : Sl} {x : Option V}, env[i]? = some s → s.own = true → (wipe σ vs)[i]? = some x → σ[i]? = some x := fun e o q => by rw [wipe_at, if_neg (nv e o)] at q; exact q
  exact {
    sg := S.sg, sb := S.sb, sgb := S.sgb, gb := S.gb, len := S0.len
    pl := fun i d e => by
      obtain ⟨v, a, b⟩ := S0.pl i d e
      exact ⟨v, a, Rp.mono (Sub.of s) b⟩
    ow := fun i d e => by
      obtain ⟨p, o, a, b⟩ := S.ow i d (up e rfl)
      exact ⟨p, o, dn e rfl a, b⟩
    lk := fun i od o d e => by
      obtain ⟨p, a, b⟩ := S.lk i od o d (up e rfl)
      exact ⟨p, dn e rfl a, b⟩
    wd := fun i => fun e => by
      obtain ⟨p, l, ns, k, a, b⟩ := S.wd i (up e rfl)
      exact ⟨p, l, ns, k, dn e rfl a, b⟩
    sc := fun i ns e => by
      obtain ⟨p, a, b⟩ := S0.sc i ns e
      exact ⟨p, a, s.seq b⟩
    one := S0.one
    sep := S0.sep }
theorem Sta.gD (S : Sta K (upd B D (.lst acc)) Gb G H σ env W) (hb : Gb D = none) : G D = none := by
  cases q : G D with
  | none => rfl
  | some x =>
    rcases S.gb D _ upd_same (by rw [q]; simp) with z | ⟨xs, z⟩
    · exact absurd hb z
    · cases z
/-- the list in the making grows -/
theorem Sta.bump (S : Sta K (upd B D (.lst acc)) Gb G H σ env W) (hb : Gb D = none) : Sta K (upd B D (.lst acc')) Gb G (upd H D (.lst acc')) σ env W := by
  have gD := S.gD hb
  have nB : ∀ {p : Addr}, (upd B D (.lst acc)) p = none → p ≠ D ∧ B p = none := fun {p} e => by
    by_cases q : p = D
    · subst q; rw [upd_same] at e; cases e
    · rw [upd_ne q] at e; exact ⟨q, e⟩
  have upB : ∀ {p : Addr}, (upd B D (.lst acc)) p = none → (upd B D (.lst acc')) p = none := fun {p} e => by
    obtain ⟨h1, h2⟩ := nB e
    rw [upd_ne h1]; exact h2
  have upH : ∀ {p : Addr} {o : HO}, p ≠ D → H p = some o → (upd H D (.lst acc')) p = some o := fun h e => by rw [upd_ne h]; exact e
  exact {
    sg := fun a x e => by
      rw [upd_ne (show a ≠ D from fun z => by subst z; rw [gD] at e; cases e)]
      exact S.sg _ _ e
    sb := fun a x e => by
      by_cases q : a = D
      · subst q; rw [upd_same] at e ⊢; exact e
      · rw [upd_ne q] at e ⊢
        exact S.sb a x (by rw [upd_ne q]; exact e)
    sgb := S.sgb
    gb := fun a o e n => by
      by_cases q : a = D
      · subst q; exact absurd gD n
      · rw [upd_ne q] at e
        exact S.gb a o (by rw [upd_ne q]; exact e) n
    len := S.len
    pl := S.pl
    ow := fun i d e => by
      obtain ⟨p, o, a1, a2, a3, a4, a5⟩ := S.ow i d e
      exact ⟨p, o, a1, a2, upB a3, upH (nB a3).1 a4, a5⟩
    lk := fun i od o d e => by
      obtain ⟨p, a1, a2, a3, a4, a5⟩ := S.lk i od o d e
      exact ⟨p, a1, a2, upB a3, upH (nB a3).1 a4, a5⟩
    wd := fun i => fun e => by
      obtain ⟨p, l, ns, k, a1, a2, a3, a4, a5⟩ := S.wd i e
      exact ⟨p, l, ns, k, a1, a2, upB a3, upH (nB a3).1 a4, a5⟩
    sc := S.sc
    one := S.one
    sep := S.sep }
theorem Sta.laidB (S : Sta K B Gb G H σ env W) (h : H D = none) : Sta K (upd B D (.lst acc)) Gb G (upd H D (.lst acc)) σ env W := by
  obtain ⟨n1, n2, n3⟩ := S.new h
  have S1 := S.laid (o := .lst acc) h
  have := S1.prot (v := .ref D) (d := .list []) (k := .fr)
  exact {
    sg := S1.sg
    sb := fun a x e => by
      by_cases q : a = D
      · subst q; rw [upd_same] at e ⊢; exact e
      · rw [upd_ne q] at e; exact S1.sb _ _ e
    sgb := S1.sgb
    gb := fun a o e n => by
      by_cases q : a = D
      · subst q; exact absurd n1 n
      · rw [upd_ne q] at e; exact S1.gb a o e n
    len := S1.len
    pl := S1.pl
    ow := fun i d e => by
      obtain ⟨p, o, a1, a2, a3, a4, a5⟩ := S1.ow i d e
      exact ⟨p, o, a1, a2, by rw [upd_ne (show p ≠ D from fun z => n3 i ⟨⟨_, e, rfl⟩, z ▸ a1⟩)]; exact a3, a4, a5⟩
    lk := fun i od o d e => by
      obtain ⟨p, a1, a2, a3, a4, a5⟩ := S1.lk i od o d e
      exact ⟨p, a1, a2, by rw [upd_ne (show p ≠ D from fun z => n3 i ⟨⟨_, e, rfl⟩, z ▸ a1⟩)]; exact a3, a4, a5⟩
    wd := fun i => fun e => by
      obtain ⟨p, l, ns, k, a1, a2, a3, a4, a5⟩ := S1.wd i e
      exact ⟨p, l, ns, k, a1, a2, by rw [upd_ne (show p ≠ D from fun z => n3 i ⟨⟨_, e, rfl⟩, z ▸ a1⟩)]; exact a3, a4, a5⟩
    sc := S1.sc
    one := S1.one
    sep := S1.sep }
theorem wipe_wipe (σ : L2.St) (vs us : List Nat) (h : ∀ i ∈ us, i ∈ vs) : wipe (wipe σ us) vs = wipe σ vs := by
  refine List.ext_getElem? fun j => ?_
  rw [wipe_at, wipe_at, wipe_at]
  by_cases h1 : j ∈ vs
  · rw [if_pos h1, if_pos h1]
    by_cases h2 : j ∈ us
    · rw [if_pos h2]; cases σ[j]? <;> rfl
    · rw [if_neg h2]
  · rw [if_neg h1, if_neg h1, if_neg (fun z => h1 (h j z))]
theorem wipeE_wipeE (σ : SEnv) (vs us : List Nat) (h : ∀ i ∈ us, i ∈ vs) : PX.wipeE (PX.wipeE σ us) vs = PX.wipeE σ vs := by
  refine List.ext_getElem? fun j => ?_
  rw [wipeE_at, wipeE_at, wipeE_at]
  by_cases h1 : j ∈ vs
  · rw [if_pos h1, if_pos h1]
    by_cases h2 : j ∈ us
    · rw [if_pos h2]; cases σ[j]? <;> rfl
    · rw [if_neg h2]
  · rw [if_neg h1, if_neg h1, if_neg (fun z => h1 (h j z))]
end
def PTsX (X : Cx) (ifs : List Expr) (c : Ct) : Prop := PTs X ifs (tT X.K c)
section
variable {X : Cx} {elt tg iter : Expr} {ifs : List Expr} {scope : Scope} {own : List (Str × Nat)} {pos : Pos} {f : Ci} {t : Tg} {c : Ct} {e : Ex} {vs : List Nat}
theorem PTs.imp {t t' : TT} (h : PTs X ifs t) (i : ∀ σ H Q, t' σ H Q → t σ H Q) : PTs X ifs t' := ⟨fun pins s σ H Q I q => h.run pins s σ H Q I (i _ _ _ q)⟩
theorem ptsx_nil : PTsX X [] kTrue := PTs.imp pts_nil fun σ H Q q => by
  obtain ⟨B, Gb, G, env, W, b, W', S, e, c⟩ := q
  cases e
  exact c G H (Same.refl _) S
theorem ptsx_one {a : Expr} (h : PTX X a c) : PTsX X [a] c := pts_one h
theorem lc_step {σ : L2.St} {H : Hp} {Q : VK} (ok : ∀ d env env', t d env = some env' → wipeE env' vs = wipeE env vs) (q : tE X.K (cLc f t c e vs) σ H Q) : tLc (tI X.K f) (tG X.K t vs) (tT X.K c) (tE X.K e) vs σ H Q := by
  obtain ⟨B, Gb, G, env, W, dd, kk, W', S, ev, cont⟩ := q
  unfold cLc at ev
  split at ev
  · rename_i hno
    rw [Option.bind_eq_some_iff] at ev
    obtain ⟨⟨ds, k, W1⟩, e1, e2⟩ := ev
    dsimp only at e2
    split at e2
    · rename_i hk
      rw [Option.map_eq_some_iff] at e2
      obtain ⟨⟨out, W2⟩, e3, e4⟩ := e2
      cases e4
      refine ⟨B, Gb, G, env, W, ds, k, W1, S, e1, fun J G1 H1 C s1 S1 w hld hlen D hD => ?_⟩
      obtain ⟨n1, n2, n3⟩ := S1.new hD
      have nGb : Gb D = none := S1.sgb.free n1
      have hld' : ∀ {B Gb G2 H W}, Same G1 G2 → Sta X.K B Gb G2 H (wipe σ vs) (wipeE env vs) W → C G2 H := fun s S => hld _ _ _ _ _ _ _ s S fun i z => by
        subst z
        have hi : i ∉ vs := by simpa [kOk] using hk
        rw [wipeE_at, wipe_at, if_neg hi, if_neg hi]
        exact ⟨rfl, rfl⟩
      refine ⟨fun i m H => m = ds.length - i ∧ i ≤ ds.length ∧ ∃ G2 acc accd rest W3, Same G1 G2 ∧ Sta X.K (upd B D (.lst acc)) Gb G2 H (wipe σ vs) (wipeE env vs) W3 ∧ RpL X.K G2 acc accd ∧ acc.length ≤ i ∧ lcL t c e (ds.drop i) (wipeE env vs) W3 = some (rest, W2) ∧ accd ++ rest = out, ⟨ds.length, rfl, Nat.zero_le _, G1, [], [], out, W1, Same.refl _, (S1.wipeS vs).laidB hD, .nil, Nat.le_refl _, e3, rfl⟩, ?_⟩
      rintro i m H2 ⟨rfl, hi, G2, acc, accd, rest, W3, s2, S2, ra, hal, e5, e6⟩
      by_cases hlt : i < ds.length
      · refine .inr ⟨w.goes i G2 H2 hlt (hld' s2 S2), fun H2 => ∃ G2 acc accd rest W3, Same G1 G2 ∧ Sta X.K (upd B D (.lst acc)) Gb G2 H2 (wipe σ vs) (wipeE env vs) W3 ∧ RpL X.K G2 acc accd ∧ acc.length ≤ i + 1 ∧ lcL t c e (ds.drop (i + 1)) (wipeE env vs) W3 = some (rest, W2) ∧ accd ++ rest = out, fun H' h => ⟨ds.length - (i + 1), by omega, rfl, hlt, h⟩, fun x H' y => ?_⟩
        obtain ⟨d, G3, hd, s3, h3, S3, r⟩ := w.yield S2 (hld' s2 S2) hlt y
        have ed : ds[i] = d := by
          rw [List.getElem?_eq_getElem hlt] at hd
          exact Option.some.inj hd
        rw [List.drop_eq_getElem_cons hlt, lcL, Option.bind_eq_some_iff, ed] at e5
        obtain ⟨env3, e7, e5⟩ := e5
        rw [Option.bind_eq_some_iff] at e5
        obtain ⟨⟨b, W4⟩, e8, e5⟩ := e5
        refine ⟨_, Gb, G3, _, W3, d, env3, S3, r, e7, fun σ3 hw S4 => ?_⟩
        have w1 : wipe σ3 vs = wipe σ vs := hw.trans (wipe_wipe σ vs vs fun _ h => h)
        have w2 : wipeE env3 vs = wipeE env vs := (ok _ _ _ e7).trans (wipeE_wipeE env vs vs fun _ h => h)
        refine ⟨w1, _, Gb, G3, env3, W3, b, W4, S4, e8, fun G4 H4 s4 S5 => ?_⟩
        dsimp only at e5
        cases b with
        | false =>
          rw [if_neg Bool.false_ne_true] at e5 ⊢
          have S6 := S5.wipeS vs
          rw [w1, w2] at S6
          exact ⟨G4, acc, accd, rest, W4, (s2.trans s3).trans s4, S6, RpL.mono (Sub.of (s3.trans s4)) ra, by omega, e5, e6⟩
        | true =>
          rw [if_pos rfl] at e5 ⊢
          rw [Option.bind_eq_some_iff] at e5
          obtain ⟨⟨yd, yk, W5⟩, e9, e5⟩ := e5
          dsimp only at e5
          split at e5
          · rename_i hesc
            rw [Option.map_eq_some_iff] at e5
            obtain ⟨⟨rest', W6⟩, e10, e11⟩ := e5
            cases e11
            refine ⟨_, Gb, G4, env3, W4, yd, yk, W5, S5, e9, fun v G5 H5 s5 S6 h6 => ?_⟩
            obtain ⟨G6, s6, S7, rv, -⟩ := freeze1 S6 h6 hesc
            have S8 := S7.bump (acc' := acc ++ [v]) nGb
            have S9 := S8.wipeS vs
            rw [w1, w2] at S9
            have t6 := ((s3.trans s4).trans s5).trans s6
            refine ⟨acc, S7.sb _ _ upd_same, by rw [sizeLine_eq]; omega, G6, acc ++ [v], accd ++ [yd], rest', W5, s2.trans t6, S9, (RpL.mono (Sub.of t6) ra).append (.single rv), by rw [List.length_append]; simpa using hal, e10, by rw [List.append_assoc]; exact e6⟩
          · cases e5
      · have ei : i = ds.length := by omega
        subst ei
        rw [List.drop_length] at e5
        cases e5
        rw [List.append_nil] at e6
        subst e6
        refine .inl ⟨w.stops G2 H2 (hld' s2 S2), ?_⟩
        have sB : Same B (upd B D (.lst acc)) := same_upd n2
        have S3 := S1.back (S2.unprot sB) s2 hno
        refine cont (.ref D) G2 H2 (s1.trans s2) S3 ⟨D, .lst acc, rfl, S2.gD nGb, n2, S2.sb _ _ upd_same, ra, fun j ho => ?_⟩
        exact n3 j ho
    · cases e2
  · cases ev
theorem px_lc (hc : X.calm = true) (hN : X.N.Nodup) (hi : PIX X tg iter f) (ok : BlkOk X.N X.env.scope scope own)
    (hg : ∀ (s : Shared) (H : Hp) (C : Addr) (cl : List (Str × Addr)) (fp : List Addr), PGX (X.blk s H scope (compEnvC scope cl C X.env) fp) tg t (own.map (·.2))) (ht : ∀ (s : Shared) (H : Hp) (C : Addr) (cl : List (Str × Addr)) (fp : List Addr), PTsX (X.blk s H scope (compEnvC scope cl C X.env) fp) ifs c)
    (he : ∀ (s : Shared) (H : Hp) (C : Addr) (cl : List (Str × Addr)) (fp : List Addr), PX (X.blk s H scope (compEnvC scope cl C X.env) fp) elt e) (hs : ∀ x, foldedSetIterable iter X.env x = pure x := by intro _; rfl) :
    PX X (.ListComp elt [⟨tg, iter, ifs, 0⟩] scope pos) (cLc f t c e (own.map (·.2))) :=
  PE.imp (pe_lc (g := tG X.K t (own.map (·.2))) (tt := tT X.K c) (te := tE X.K e) hc hN hi ok (fun s H C cl fp => (hg s H C cl fp).pg) ht he hs) fun σ H Q q => lc_step (hg X.s_0 H 0 [] []).ok q
theorem set_step {i : Nat} {own : Bool} {f : Ex} {D : Ends} {σ : L2.St} {H : Hp} (q : tS X.K (sSet i own f) D σ H) : tE X.K f σ H (fun v H1 => D.nx (σ.set i (some v)) H1) := by
  obtain ⟨B, Gb, G, env, W, o, S, e, p⟩ := q
  unfold sSet at e
  rw [Option.bind_eq_some_iff] at e
  obtain ⟨⟨d, k, W1⟩, e1, e2⟩ := e
  dsimp only at e2
  refine ⟨B, Gb, G, env, W, d, k, W1, S, e1, fun v G1 H1 s1 S1 h1 => ?_⟩
  show D.nx (σ.set i (some v)) H1
  split at e2
  · cases e2
    cases own with
    | true =>
      obtain ⟨q, o, rfl, a1, a2, a3, a4, a5⟩ := h1
      exact p _ G1 H1 s1 (S1.setSl i (.ow d) (.ref q) ⟨q, o, rfl, a1, a2, a3, a4⟩ fun _ q' e' j _ => by cases e'; exact a5 j)
    | false =>
      obtain ⟨G2, s2, S2, r, _⟩ := freeze1 S1 h1 rfl
      exact p _ G2 H1 (s1.trans s2) (S2.setSl i (.pl d) v r fun z => absurd z Bool.false_ne_true)
  · cases e2
    exact p _ G1 H1 s1 (S1.setSl i (.pl d) v h1 fun z => absurd z Bool.false_ne_true)
  · rename_i j
    split at e2
    · rename_i d' ed
      cases e2
      obtain ⟨h1, h2⟩ := h1
      have e2 : d' = d := by
        rcases h2 with h2 | ⟨_, _, h2⟩
        · rw [ed] at h2; cases h2; rfl
        · rw [ed] at h2; cases h2
      subst e2
      obtain ⟨G2, v', s2, S2, hv, r⟩ := S1.freezeSl ed
      rw [h1] at hv
      cases hv
      exact p _ G2 H1 (s1.trans s2) (S2.setSl i (.pl d') v r fun z => absurd z Bool.false_ne_true)
    · cases e2
theorem psx_setLc {i : Nat} {oo : Bool} {y : Str} {py spos : Pos} (hc : X.calm = true) (hN : X.N.Nodup) (hi : PIX X tg iter f) (ok : BlkOk X.N X.env.scope scope own)
    (hg : ∀ (s : Shared) (H : Hp) (C : Addr) (cl : List (Str × Addr)) (fp : List Addr), PGX (X.blk s H scope (compEnvC scope cl C X.env) fp) tg t (own.map (·.2))) (ht : ∀ (s : Shared) (H : Hp) (C : Addr) (cl : List (Str × Addr)) (fp : List Addr), PTsX (X.blk s H scope (compEnvC scope cl C X.env) fp) ifs c)
    (he : ∀ (s : Shared) (H : Hp) (C : Addr) (cl : List (Str × Addr)) (fp : List Addr), PX (X.blk s H scope (compEnvC scope cl C X.env) fp) elt e)
    (hsw : swapsWith (.ListComp elt [⟨tg, iter, ifs, 0⟩] scope pos) (some (.Name y py)) spos.line X.env = pure true) (hy : X.N[i]? = some y := by rfl) (hyl : X.env.scope.names.lookup y = some .local := by rfl) (hs : ∀ x, foldedSetIterable iter X.env x = pure x := by intro _; rfl) :
    PSX X (.Assign [.Name y py] (.ListComp elt [⟨tg, iter, ifs, 0⟩] scope pos) spos) (sSet i oo (cLc f t c e (own.map (·.2)))) :=
  PS.imp (ps_setLc (g := tG X.K t (own.map (fun p : Str × Nat => p.2))) (tt := tT X.K c) (te := tE X.K e) hc hN hy hyl hsw hi ok (fun s H C cl fp => (hg s H C cl fp).pg) ht he hs) fun D σ H q => lc_step (hg X.s_0 H 0 [] []).ok (set_step q)

/-! ### two clauses -/
def lc2L (t : Tg) (c : Ct) (f1 : Ci) (t1 : Tg) (c1 : Ct) (e : Ex) (vs1 : List Nat) : List PyData → SEnv → List Int → Option (List PyData × List Int)
  | [], _, W => some ([], W)
  | d :: ds, env, W => (t d env).bind fun e1 => (c e1 W).bind fun b =>
    if b.1 then (f1 e1 b.2).bind fun r => if kOk vs1 r.2.1 = true then (lcL t1 c1 e r.1 (wipeE e1 vs1) r.2.2).bind fun q => (lc2L t c f1 t1 c1 e vs1 ds env q.2).map fun z => (q.1 ++ z.1, z.2) else none
    else lc2L t c f1 t1 c1 e vs1 ds env b.2
def cLc2 (f : Ci) (t : Tg) (c : Ct) (f1 : Ci) (t1 : Tg) (c1 : Ct) (e : Ex) (vs vs1 : List Nat) : Ex := fun env W => if noOwn env vs = true then (f env W).bind fun r => if kOk vs r.2.1 = true then (lc2L t c f1 t1 c1 e vs1 r.1 (wipeE env vs) r.2.2).bind fun q => if q.1.length ≤ 16777216 then some (.list q.1, .fr, q.2) else none else none else none
theorem lc2_step {f1 : Ci} {t1 : Tg} {c1 : Ct} {vs1 : List Nat} {σ : L2.St} {H : Hp} {Q : VK} (ok : ∀ d env env', t d env = some env' → wipeE env' vs = wipeE env vs) (ok1 : ∀ d env env', t1 d env = some env' → wipeE env' vs1 = wipeE env vs1) (hv : ∀ i ∈ vs1, i ∈ vs)
    (q : tE X.K (cLc2 f t c f1 t1 c1 e vs vs1) σ H Q) : tLc2 (tI X.K f) (tG X.K t vs) (tT X.K c) (tI X.K f1) (tG X.K t1 vs1) (tT X.K c1) (tE X.K e) vs vs1 σ H Q := by
  obtain ⟨B, Gb, G, env, W, dd, kk, W', S, ev, cont⟩ := q
  unfold cLc2 at ev
  split at ev
  · rename_i hno
    rw [Option.bind_eq_some_iff] at ev
    obtain ⟨⟨ds, k, W1⟩, e1, e2⟩ := ev
    dsimp only at e2
    split at e2
    · rename_i hk
      rw [Option.bind_eq_some_iff] at e2
      obtain ⟨⟨out, W2⟩, e3, e4⟩ := e2
      dsimp only at e4
      split at e4
      · rename_i hlen2
        cases e4
        refine ⟨B, Gb, G, env, W, ds, k, W1, S, e1, fun J G1 H1 C s1 S1 w hld hlen D hD => ?_⟩
        obtain ⟨n1, n2, n3⟩ := S1.new hD
        have nGb : Gb D = none := S1.sgb.free n1
        have hld' : ∀ {B Gb G2 H W}, Same G1 G2 → Sta X.K B Gb G2 H (wipe σ vs) (wipeE env vs) W → C G2 H := fun s S => hld _ _ _ _ _ _ _ s S fun i z => by
          subst z
          have hi : i ∉ vs := by simpa [kOk] using hk
          rw [wipeE_at, wipe_at, if_neg hi, if_neg hi]
          exact ⟨rfl, rfl⟩
        refine ⟨fun i m H => m = ds.length - i ∧ i ≤ ds.length ∧ ∃ G2 acc accd rest W3, Same G1 G2 ∧ Sta X.K (upd B D (.lst acc)) Gb G2 H (wipe σ vs) (wipeE env vs) W3 ∧ RpL X.K G2 acc accd ∧ lc2L t c f1 t1 c1 e vs1 (ds.drop i) (wipeE env vs) W3 = some (rest, W') ∧ accd ++ rest = out, ⟨ds.length, rfl, Nat.zero_le _, G1, [], [], out, W1, Same.refl _, (S1.wipeS vs).laidB hD, .nil, e3, rfl⟩, ?_⟩
        rintro i m H2 ⟨rfl, hi, G2, acc, accd, rest, W3, s2, S2, ra, e5, e6⟩
        by_cases hlt : i < ds.length
        · refine .inr ⟨w.goes i G2 H2 hlt (hld' s2 S2), fun H2 => ∃ G2 acc accd rest W3, Same G1 G2 ∧ Sta X.K (upd B D (.lst acc)) Gb G2 H2 (wipe σ vs) (wipeE env vs) W3 ∧ RpL X.K G2 acc accd ∧ lc2L t c f1 t1 c1 e vs1 (ds.drop (i + 1)) (wipeE env vs) W3 = some (rest, W') ∧ accd ++ rest = out, fun H' h => ⟨ds.length - (i + 1), by omega, rfl, hlt, h⟩, fun x H' y => ?_⟩
          obtain ⟨d, G3, hd, s3, h3, S3, r⟩ := w.yield S2 (hld' s2 S2) hlt y
          have ed : ds[i] = d := by
            rw [List.getElem?_eq_getElem hlt] at hd
            exact Option.some.inj hd
          rw [List.drop_eq_getElem_cons hlt, lc2L, Option.bind_eq_some_iff, ed] at e5
          obtain ⟨env3, e7, e5⟩ := e5
          rw [Option.bind_eq_some_iff] at e5
          obtain ⟨⟨b, W4⟩, e8, e5⟩ := e5
          refine ⟨_, Gb, G3, _, W3, d, env3, S3, r, e7, fun σ3 hw S4 => ?_⟩
          have w1 : wipe σ3 vs = wipe σ vs := hw.trans (wipe_wipe σ vs vs fun _ h => h)
          have w2 : wipeE env3 vs = wipeE env vs := (ok _ _ _ e7).trans (wipeE_wipeE env vs vs fun _ h => h)
          refine ⟨w1, _, Gb, G3, env3, W3, b, W4, S4, e8, fun G4 H4 s4 S5 => ?_⟩
          dsimp only at e5
          cases b with
          | false =>
            rw [if_neg Bool.false_ne_true] at e5 ⊢
            have S6 := S5.wipeS vs
            rw [w1, w2] at S6
            exact ⟨G4, acc, accd, rest, W4, (s2.trans s3).trans s4, S6, RpL.mono (Sub.of (s3.trans s4)) ra, e5, e6⟩
          | true =>
            rw [if_pos rfl] at e5 ⊢
            rw [Option.bind_eq_some_iff] at e5
            obtain ⟨⟨ds1, k1, W5⟩, f1e, e5⟩ := e5
            dsimp only at e5
            split at e5
            · rename_i hk1
              rw [Option.bind_eq_some_iff] at e5
              obtain ⟨⟨out1, W6⟩, l1, e5⟩ := e5
              rw [Option.map_eq_some_iff] at e5
              obtain ⟨⟨rest1, W7⟩, l2, e9⟩ := e5
              cases e9
              dsimp only at l2 e6
              refine ⟨_, Gb, G4, env3, W4, ds1, k1, W5, S5, f1e, fun J1 G5 H5 C1 s5 S6 x1 hld1 hlen1 => ?_⟩
              have hld1' : ∀ {B Gb G2 H W}, Same G5 G2 → Sta X.K B Gb G2 H (wipe σ3 vs1) (wipeE env3 vs1) W → C1 G2 H := fun s S => hld1 _ _ _ _ _ _ _ s S fun i z => by
                subst z
                have hi : i ∉ vs1 := by simpa [kOk] using hk1
                rw [wipeE_at, wipe_at, if_neg hi, if_neg hi]
                exact ⟨rfl, rfl⟩
              have t5 := (s3.trans s4).trans s5
              refine ⟨fun j m H => m = ds1.length - j ∧ j ≤ ds1.length ∧ ∃ G6 acc accd rst W8, Same G5 G6 ∧ Sta X.K (upd B D (.lst acc)) Gb G6 H (wipe σ3 vs1) (wipeE env3 vs1) W8 ∧ RpL X.K G6 acc accd ∧ lcL t1 c1 e (ds1.drop j) (wipeE env3 vs1) W8 = some (rst, W6) ∧ accd ++ (rst ++ rest1) = out, ⟨ds1.length, rfl, Nat.zero_le _, G5, acc, accd, out1, W5, Same.refl _, S6.wipeS vs1, RpL.mono (Sub.of t5) ra, l1, e6⟩, ?_⟩
              rintro j m H6 ⟨rfl, hj, G6, acc, accd, rst, W8, s6, S7, ra, l3, l4⟩
              by_cases hlt1 : j < ds1.length
              · refine .inr ⟨x1.goes j G6 H6 hlt1 (hld1' s6 S7), fun H => ∃ G6 acc accd rst W8, Same G5 G6 ∧ Sta X.K (upd B D (.lst acc)) Gb G6 H (wipe σ3 vs1) (wipeE env3 vs1) W8 ∧ RpL X.K G6 acc accd ∧ lcL t1 c1 e (ds1.drop (j + 1)) (wipeE env3 vs1) W8 = some (rst, W6) ∧ accd ++ (rst ++ rest1) = out, fun H' h => ⟨ds1.length - (j + 1), by omega, rfl, hlt1, h⟩, fun x H' y => ?_⟩
                obtain ⟨d, G7, hd, s7, h7, S8, r⟩ := x1.yield S7 (hld1' s6 S7) hlt1 y
                have ed : ds1[j] = d := by
                  rw [List.getElem?_eq_getElem hlt1] at hd
                  exact Option.some.inj hd
                rw [List.drop_eq_getElem_cons hlt1, lcL, Option.bind_eq_some_iff, ed] at l3
                obtain ⟨env9, l5, l3⟩ := l3
                rw [Option.bind_eq_some_iff] at l3
                obtain ⟨⟨b, W9⟩, l6, l3⟩ := l3
                refine ⟨_, Gb, G7, _, W8, d, env9, S8, r, l5, fun σ9 hw S9 => ?_⟩
                have w3 : wipe σ9 vs1 = wipe σ3 vs1 := hw.trans (wipe_wipe σ3 vs1 vs1 fun _ h => h)
                have w4 : wipeE env9 vs1 = wipeE env3 vs1 := (ok1 _ _ _ l5).trans (wipeE_wipeE env3 vs1 vs1 fun _ h => h)
                refine ⟨w3, _, Gb, G7, env9, W8, b, W9, S9, l6, fun G8 H8 s8 S10 => ?_⟩
                dsimp only at l3
                cases b with
                | false =>
                  rw [if_neg Bool.false_ne_true] at l3 ⊢
                  have S11 := S10.wipeS vs1
                  rw [w3, w4] at S11
                  exact ⟨G8, acc, accd, rst, W9, (s6.trans s7).trans s8, S11, RpL.mono (Sub.of (s7.trans s8)) ra, l3, l4⟩
                | true =>
                  rw [if_pos rfl] at l3 ⊢
                  rw [Option.bind_eq_some_iff] at l3
                  obtain ⟨⟨yd, yk, W10⟩, l7, l3⟩ := l3
                  dsimp only at l3
                  split at l3
                  · rename_i hesc
                    rw [Option.map_eq_some_iff] at l3
                    obtain ⟨⟨rest', W11⟩, l8, l9⟩ := l3
                    cases l9
                    refine ⟨_, Gb, G8, env9, W9, yd, yk, W10, S10, l7, fun v G9 H9 s9 S11 h6 => ?_⟩
                    obtain ⟨G10, s10, S12, rv, -⟩ := freeze1 S11 h6 hesc
                    have S13 := S12.bump (acc' := acc ++ [v]) nGb
                    have S14 := S13.wipeS vs1
                    rw [w3, w4] at S14
                    have t6 := ((s7.trans s8).trans s9).trans s10
                    have hal : acc.length < 16777216 := by
                      rw [← l4] at hlen2
                      simp only [List.length_append, List.length_cons, ← ra.length] at hlen2
                      omega
                    exact ⟨acc, S12.sb _ _ upd_same, by rw [sizeLine_eq]; exact hal, G10, acc ++ [v], accd ++ [yd], rest', W10, s6.trans t6, S14, (RpL.mono (Sub.of t6) ra).append (.single rv), l8, by rw [List.append_assoc]; exact l4⟩
                  · cases l3
              · have ej : j = ds1.length := by omega
                subst ej
                rw [List.drop_length] at l3
                cases l3
                have S8 := S7.wipeS vs
                rw [wipe_wipe σ3 vs vs1 hv, wipeE_wipeE env3 vs vs1 hv, w1, w2] at S8
                exact .inl ⟨x1.stops G6 H6 (hld1' s6 S7), G6, acc, accd, rest1, W6, (s2.trans t5).trans s6, S8, ra, l2, l4⟩
            · cases e5
        · have ei : i = ds.length := by omega
          subst ei
          rw [List.drop_length] at e5
          cases e5
          rw [List.append_nil] at e6
          subst e6
          refine .inl ⟨w.stops G2 H2 (hld' s2 S2), ?_⟩
          have sB : Same B (upd B D (.lst acc)) := same_upd n2
          have S3 := S1.back (S2.unprot sB) s2 hno
          refine cont (.ref D) G2 H2 (s1.trans s2) S3 ⟨D, .lst acc, rfl, S2.gD nGb, n2, S2.sb _ _ upd_same, ra, fun j ho => ?_⟩
          exact n3 j ho
      · cases e4
    · cases e2
  · cases ev
theorem px_lc2 {tg1 iter1 : Expr} {ifs1 : List Expr} {vs1 : List Nat} {f1 : Ci} {t1 : Tg} {c1 : Ct} (hc : X.calm = true) (hN : X.N.Nodup) (hi : PIX X tg iter f) (ok : BlkOk X.N X.env.scope scope own) (hv : ∀ i ∈ vs1, i ∈ own.map (·.2))
    (hg : ∀ (s : Shared) (H : Hp) (C : Addr) (cl : List (Str × Addr)) (fp : List Addr), PGX (X.blk s H scope (compEnvC scope cl C X.env) fp) tg t (own.map (·.2))) (ht : ∀ (s : Shared) (H : Hp) (C : Addr) (cl : List (Str × Addr)) (fp : List Addr), PTsX (X.blk s H scope (compEnvC scope cl C X.env) fp) ifs c)
    (hi1 : ∀ (s : Shared) (H : Hp) (C : Addr) (cl : List (Str × Addr)) (fp : List Addr), PIX (X.blk s H scope (compEnvC scope cl C X.env) fp) tg1 iter1 f1)
    (hg1 : ∀ (s : Shared) (H : Hp) (C : Addr) (cl : List (Str × Addr)) (fp : List Addr), PGX (X.blk s H scope (compEnvC scope cl C X.env) fp) tg1 t1 vs1) (ht1 : ∀ (s : Shared) (H : Hp) (C : Addr) (cl : List (Str × Addr)) (fp : List Addr), PTsX (X.blk s H scope (compEnvC scope cl C X.env) fp) ifs1 c1)
    (he : ∀ (s : Shared) (H : Hp) (C : Addr) (cl : List (Str × Addr)) (fp : List Addr), PX (X.blk s H scope (compEnvC scope cl C X.env) fp) elt e) (hs : ∀ x, foldedSetIterable iter X.env x = pure x := by intro _; rfl) (hs1 : ∀ env x, foldedSetIterable iter1 env x = pure x := by intro _ _; rfl) :
    PX X (.ListComp elt [⟨tg, iter, ifs, 0⟩, ⟨tg1, iter1, ifs1, 0⟩] scope pos) (cLc2 f t c f1 t1 c1 e (own.map (·.2)) vs1) :=
  PE.imp (pe_lc2 (g := tG X.K t (own.map (fun p : Str × Nat => p.2))) (tt := tT X.K c) (te := tE X.K e) (wi1 := tI X.K f1) (g1 := tG X.K t1 vs1) (tt1 := tT X.K c1) hc hN hi ok hv (fun s H C cl fp => (hg s H C cl fp).pg) ht hi1 (fun s H C cl fp => (hg1 s H C cl fp).pg) ht1 he hs hs1) fun σ H Q q => lc2_step (hg X.s_0 H 0 [] []).ok (hg1 X.s_0 H 0 [] []).ok hv q
theorem psx_setLc2 {i : Nat} {oo : Bool} {y : Str} {py spos : Pos} {tg1 iter1 : Expr} {ifs1 : List Expr} {vs1 : List Nat} {f1 : Ci} {t1 : Tg} {c1 : Ct} (hc : X.calm = true) (hN : X.N.Nodup) (hi : PIX X tg iter f) (ok : BlkOk X.N X.env.scope scope own) (hv : ∀ i ∈ vs1, i ∈ own.map (·.2))
    (hg : ∀ (s : Shared) (H : Hp) (C : Addr) (cl : List (Str × Addr)) (fp : List Addr), PGX (X.blk s H scope (compEnvC scope cl C X.env) fp) tg t (own.map (·.2))) (ht : ∀ (s : Shared) (H : Hp) (C : Addr) (cl : List (Str × Addr)) (fp : List Addr), PTsX (X.blk s H scope (compEnvC scope cl C X.env) fp) ifs c)
    (hi1 : ∀ (s : Shared) (H : Hp) (C : Addr) (cl : List (Str × Addr)) (fp : List Addr), PIX (X.blk s H scope (compEnvC scope cl C X.env) fp) tg1 iter1 f1)
    (hg1 : ∀ (s : Shared) (H : Hp) (C : Addr) (cl : List (Str × Addr)) (fp : List Addr), PGX (X.blk s H scope (compEnvC scope cl C X.env) fp) tg1 t1 vs1) (ht1 : ∀ (s : Shared) (H : Hp) (C : Addr) (cl : List (Str × Addr)) (fp : List Addr), PTsX (X.blk s H scope (compEnvC scope cl C X.env) fp) ifs1 c1)
    (he : ∀ (s : Shared) (H : Hp) (C : Addr) (cl : List (Str × Addr)) (fp : List Addr), PX (X.blk s H scope (compEnvC scope cl C X.env) fp) elt e)
    (hsw : swapsWith (.ListComp elt [⟨tg, iter, ifs, 0⟩, ⟨tg1, iter1, ifs1, 0⟩] scope pos) (some (.Name y py)) spos.line X.env = pure true) (hy : X.N[i]? = some y := by rfl) (hyl : X.env.scope.names.lookup y = some .local := by rfl)
    (hs : ∀ x, foldedSetIterable iter X.env x = pure x := by intro _; rfl) (hs1 : ∀ env x, foldedSetIterable iter1 env x = pure x := by intro _ _; rfl) :
    PSX X (.Assign [.Name y py] (.ListComp elt [⟨tg, iter, ifs, 0⟩, ⟨tg1, iter1, ifs1, 0⟩] scope pos) spos) (sSet i oo (cLc2 f t c f1 t1 c1 e (own.map (·.2)) vs1)) :=
  PS.imp (ps_setLc2 (g := tG X.K t (own.map (fun p : Str × Nat => p.2))) (tt := tT X.K c) (te := tE X.K e) (wi1 := tI X.K f1) (g1 := tG X.K t1 vs1) (tt1 := tT X.K c1) hc hN hy hyl hsw hi ok hv (fun s H C cl fp => (hg s H C cl fp).pg) ht hi1 (fun s H C cl fp => (hg1 s H C cl fp).pg) ht1 he hs hs1) fun D σ H q => lc2_step (hg X.s_0 H 0 [] []).ok (hg1 X.s_0 H 0 [] []).ok hv (set_step q)
end
end PX

namespace PX
open PySem PySem.Spec PyProof.Rows L2

/-! ### a def -/
def env0 (n : Nat) (ds : List PyData) : SEnv := ds.map Sl.pl ++ List.replicate (n - ds.length) .no
def outF : Option Ou → Option PyData
  | some (.rt d _) => some d
  | some (.nx _ _) => some .none
  | _ => none
def runF (n np : Nat) (g : Sx) : List PyData → Option PyData := fun ds => if ds.length = np then outF (g (env0 n ds) []) else none
theorem room_u {k : Nat} {A : Around} (r : Room k A) : A.units + 200 < cLine := by have := r.un; omega
theorem start_get {N : List Str} {vs : List V} {i : Nat} {v : V} (h : vs[i]? = some v) : (L2.start N vs)[i]? = some (some v) := by
  unfold L2.start
  have hi : i < vs.length := by
    rcases Nat.lt_or_ge i vs.length with q | q
    · exact q
    · rw [List.getElem?_eq_none q] at h; cases h
  rw [List.getElem?_append_left (by simpa using hi), List.getElem?_map, h]
  rfl
theorem env0_pl {n : Nat} {ds : List PyData} {i : Nat} {s : Sl} (h : (env0 n ds)[i]? = some s) : s = .no ∨ ∃ d, s = .pl d ∧ ds[i]? = some d := by
  unfold env0 at h
  by_cases hi : i < ds.length
  · rw [List.getElem?_append_left (by simpa using hi), List.getElem?_map, Option.map_eq_some_iff] at h
    obtain ⟨d, h1, h2⟩ := h
    exact .inr ⟨d, h2.symm, h1⟩
  · rw [List.getElem?_append_right (by simpa using hi), List.getElem?_replicate] at h
    split at h
    · cases h; exact .inl rfl
    · cases h
theorem sta0 {K : PySem.W.Frag} {N : List Str} {G H : Hp} {vs : List V} {ds : List PyData} (s : Same G H) (r : RpL K G vs ds) (hl : vs.length ≤ N.length) : Sta K H G G H (L2.start N vs) (env0 N.length ds) [] where
  sg := s
  sb := Same.refl _
  sgb := Same.refl _
  gb := fun a o _ n => .inl n
  len := by
    unfold env0 L2.start
    rw [List.length_append, List.length_append, List.length_map, List.length_map, List.length_replicate, List.length_replicate, r.length]
  pl := fun i d e => by
    rcases env0_pl e with z | ⟨d', z, h⟩
    · cases z
    · cases z
      obtain ⟨v, h1, h2⟩ := r.get h
      exact ⟨v, start_get h1, h2⟩
  ow := fun i d e => by
    rcases env0_pl e with z | ⟨d', z, h⟩ <;> cases z
  lk := fun i od o d e => by
    rcases env0_pl e with z | ⟨d', z, h⟩ <;> cases z
  wd := fun i => fun e => by
    rcases env0_pl e with z | ⟨d', z, h⟩ <;> cases z
  sc := fun i d e => by
    rcases env0_pl e with z | ⟨d', z, h⟩ <;> cases z
  one := fun i j => fun e _ => by
    rcases env0_pl e with z | ⟨d', z, h⟩ <;> cases z
  sep := fun i j p h1 h2 => by
    obtain ⟨⟨s, e, o⟩, _⟩ := h1
    rcases env0_pl e with z | ⟨d', z, h⟩
    · subst z; exact absurd o Bool.false_ne_true
    · subst z; exact absurd o Bool.false_ne_true
section
variable {P : Program} {w : World} {K : PySem.W.Frag} {mg : Str → Option Value} {base : Heap} {f : Addr} {fd : FuncData} {N ps : List Str}
theorem fn_rule {x qual : Str} {st : Stmt} {k np : Nat} {g : Sx} (F : Fun K x qual st f fd) (S : FnScope N ps (defScope st)) (hnp : ps.length = np) (hN : np ≤ N.length)
    (hb : ∀ (cdv : Value) (A : Around) (outer : List Env) (s : Shared) (H : Hp) (E : XK), Room k (A.deeper (envOfC qual (defScope st) s.heap.objs.size f cdv)) → PSsX (cxOf CX0 P w K mg base N qual (defScope st) f cdv A outer s H E).nox (defBody st) g) :
    FnOk P w K mg base CX0 (k + 1) f fd ps (spF K np (runF N.length np g)) := by
  refine F.ok S (fun vs H Q E h => h.1.trans hnp.symm) (fun cdv A outer s H vs Q E hr h => ⟨_, hb cdv A outer s H E hr, ?_⟩)
  obtain ⟨hl, G, ds, d, sg, r, hF, c⟩ := h
  unfold runF at hF
  split at hF
  · rename_i hds
    cases o : g (env0 N.length ds) [] with
    | none => rw [o] at hF; cases hF
    | some o' =>
      rw [o] at hF
      refine ⟨H, G, G, _, [], o', sta0 sg r (by omega), o, ?_⟩
      cases o' with
      | nx e W =>
        cases hF
        exact fun σ G1 H1 s1 S1 => c .non G1 H1 S1.sb S1.sgb S1.sg S1.gb .non
      | rt d' W =>
        cases hF
        exact fun v G1 H1 s1 F1 => c v G1 H1 F1.sb F1.sgb F1.sg F1.gb F1.rp
      | bk e W => cases hF
      | ct e W => cases hF
  · cases hF
theorem fn_none {np : Nat} {ps : List Str} : FnOk P w K mg base CX0 0 f fd ps (spF K np (fun _ => none)) :=
  have no : ∀ vs H Q E, ¬ spF K np (fun _ => none) vs H Q E := fun vs H Q E h => by
    obtain ⟨_, _, _, _, _, _, h, _⟩ := h
    cases h
  ⟨fun vs H Q E h => absurd h (no vs H Q E), fun A outer s H args us vs Q E _ _ _ _ h => absurd h (no vs H Q E)⟩
theorem fn_noneK {np k : Nat} {ps : List Str} : FnOk P w K mg base CX0 k f fd ps (spF K np (fun _ => none)) := fn_none.mono (Nat.zero_le _)
end

/-! ### the draws -/
def nextV (ns : List Int) (k : Nat) (m : Int) : Int := match ns[k]? with
  | some x => x % m
  | none => 0
def spNext (K : PySem.W.Frag) : Sp := fun vs H Q _ => ∃ (p l : Addr) (ns : List Int) (k : Nat) (m : Int), vs = [.ref p, .int m] ∧ H p = some (wdO l (k : Nat)) ∧ H l = some (.lst (ns.map V.int)) ∧ p ≠ l ∧ 0 < m ∧ Q (.int (nextV ns k m)) (upd H p (wdO l ((k + 1 : Nat) : Int)))
theorem wd_get (l : Addr) (k : Int) : valV [((Sum.inr (Str.ofString "draws") : Key), V.ref l), (Sum.inr (Str.ofString "at"), V.int k)] (Sum.inr (Str.ofString "at")) = some (.int k) := rfl
theorem wd_getL (l : Addr) (k : Int) : valV [((Sum.inr (Str.ofString "draws") : Key), V.ref l), (Sum.inr (Str.ofString "at"), V.int k)] (Sum.inr (Str.ofString "draws")) = some (.ref l) := rfl
theorem wd_put (l : Addr) (k j : Int) : HO.dK (putK [((Sum.inr (Str.ofString "draws") : Key), V.ref l), (Sum.inr (Str.ofString "at"), V.int k)] (Sum.inr (Str.ofString "at")) (.int j)) = wdO l j := rfl
section
variable {P : Program} {w : World} {K : PySem.W.Frag} {mg : Str → Option Value} {base : Heap}
def rLen (K : PySem.W.Frag) : List V → Hp → VK → Prop := fun xs H Q => ∃ p ys, xs = [.ref p] ∧ (SqL K H p ys ∨ SqT K H p ys) ∧ Q (.int ys.length) H
def rInt1 : List V → Hp → VK → Prop := fun xs H Q => (∃ i, xs = [.int i] ∧ Q (.int i) H) ∨ ∃ k, xs = [.bl k] ∧ Q (.int (if k then 1 else 0)) H
def rAt : TE := tC (.str "at")
def rDr : TE := tC (.str "draws")
def tNx (K : PySem.W.Frag) : TS :=
  tSeq (L2.sDAug (tVar 0) rAt (tC (.int 1)) rAdd)
  (tSeq (tIfS (tTest (tOp (rI0 fun i j => .bl (decide (j < i))) (tDGet (tVar 0) rAt) (tCB (rLen K) (tCons (tDGet (tVar 0) rDr) tNil)))) (tRet (tC (.int 0))) L2.tNext)
  (tRet (tOp (rI (fun _ j => 0 < j) fun i j => .int (i % j)) (tCB rInt1 (tCons (tOp (rIxL K) (tDGet (tVar 0) rDr) (tOp (rI0 fun i j => .int (i - j)) (tDGet (tVar 0) rAt) (tC (.int 1)))) tNil)) (tVar 1))))
theorem next_reads {H : Hp} {vs : List V} {Q : VK} {E : XK} (h : spNext K vs H Q E) : tNx K { nx := fun _ H' => Q .non H', rt := Q } (L2.start ["w", "many"] vs) H := by
  obtain ⟨p, l, ns, k, m, rfl, hw, hl, hne, hm, q⟩ := h
  have e1 : ((k : Nat) : Int) + 1 = ((k + 1 : Nat) : Int) := by omega
  refine ⟨_, rfl, p, .int k, rfl, .inl ⟨_, Sum.inr (Str.ofString "at"), .inl hw, rfl, rfl⟩, k, 1, rfl, rfl, _, .inl ⟨_, Sum.inr (Str.ofString "at"), hw, rfl, by rw [sizeLine_eq]; show 2 < 16777216; decide, rfl⟩, ?_⟩
  rw [wd_put, e1]
  have hw2 : (upd H p (wdO l ((k + 1 : Nat) : Int))) p = some (wdO l ((k + 1 : Nat) : Int)) := upd_same
  have hl2 : (upd H p (wdO l ((k + 1 : Nat) : Int))) l = some (.lst (ns.map V.int)) := by rw [upd_ne (Ne.symm hne)]; exact hl
  generalize upd H p (wdO l ((k + 1 : Nat) : Int)) = H2 at hw2 hl2 q
  refine ⟨_, rfl, p, .int ((k + 1 : Nat) : Int), rfl, .inl ⟨_, Sum.inr (Str.ofString "at"), .inl hw2, rfl, rfl⟩, _, rfl, p, .ref l, rfl, .inl ⟨_, Sum.inr (Str.ofString "draws"), .inl hw2, rfl, rfl⟩, l, _, rfl, .inl (.of hl2), _, _, rfl, rfl, _, rfl, ?_⟩
  rw [List.length_map]
  unfold nextV at q
  by_cases hk : k < ns.length
  · rw [List.getElem?_eq_getElem hk] at q
    dsimp only
    rw [if_neg (by rw [decide_eq_true_eq]; omega)]
    refine ⟨_, rfl, p, .ref l, rfl, .inl ⟨_, Sum.inr (Str.ofString "draws"), .inl hw2, rfl, rfl⟩, _, rfl, p, .int ((k + 1 : Nat) : Int), rfl, .inl ⟨_, Sum.inr (Str.ofString "at"), .inl hw2, rfl, rfl⟩, ((k + 1 : Nat) : Int), 1, rfl, rfl, l, _, (((k + 1 : Nat) : Int) - 1), .int ns[k], rfl, rfl, .of hl2, ?_, .inl ⟨_, rfl, _, rfl, _, _, rfl, rfl, hm, q⟩⟩
    have e2 : ((k + 1 : Nat) : Int) - 1 = (k : Nat) := by omega
    rw [e2]
    exact atI_nat (by rw [List.getElem?_map, List.getElem?_eq_getElem hk]; rfl)
  · rw [List.getElem?_eq_none (by omega)] at q
    dsimp only
    rw [if_pos (by rw [decide_eq_true_eq]; omega)]
    exact q
theorem next_rule {f : Addr} {fd : FuncData} {st : Stmt} {k : Nat} (F : Fun K "_law_next" "_law_next" st f fd) (S : FnScope ["w", "many"] ["w", "many"] (defScope st))
    (hb : ∀ (cdv : Value) (A : Around) (outer : List Env) (s : Shared) (H : Hp) (E : XK), Room k (A.deeper (envOfC "_law_next" (defScope st) s.heap.objs.size f cdv)) → PSs (cxOf CX0 P w K mg base ["w", "many"] "_law_next" (defScope st) f cdv A outer s H E).nox (defBody st) (tNx K)) :
    FnOk P w K mg base CX0 (k + 1) f fd ["w", "many"] (spNext K) := by
  refine F.ok S (fun vs H Q E h => ?_) (fun cdv A outer s H vs Q E hr h => ⟨_, hb cdv A outer s H E hr, next_reads h⟩)
  obtain ⟨p, l, ns, k, m, rfl, _⟩ := h
  rfl
end
/-- _law_next(w, e): the slot of w is i -/
def cNext (i : Nat) (f : Ex) : Ex := fun env W => match env[i]?, f env W with
  | some (.wd _), some (.int m, _, W1) => if 0 < m then (match W1 with
    | [] => some (.int 0, .im, [])
    | x :: r => some (.int (x % m), .im, r)) else none
  | _, _ => none
theorem drop_get {ns : List Int} {k : Nat} : ∀ {W : List Int}, W = ns.drop k → (match ns[k]? with | some x => W = x :: ns.drop (k + 1) | none => W = [] ∧ ns.drop (k + 1) = []) := fun {W} h => by
  by_cases hk : k < ns.length
  · rw [List.getElem?_eq_getElem hk]
    rw [h, List.drop_eq_getElem_cons hk]
  · rw [List.getElem?_eq_none (by omega)]
    exact ⟨by rw [h, List.drop_eq_nil_of_le (by omega)], List.drop_eq_nil_of_le (by omega)⟩
/-- the state behind a draw -/
theorem Sta.next {K : PySem.W.Frag} {B Gb G H : Hp} {σ : L2.St} {env : SEnv} {W W' : List Int} (S : Sta K B Gb G H σ env W) {i : Nat} {p l q0 : Addr} {ns : List Int} {k : Nat} (e : env[i]? = some (.wd q0)) (h1 : σ[i]? = some (some (V.ref p))) (h2 : G p = none) (h3 : B p = none)
    (h5 : G l = some (.lst (ns.map V.int))) (h6 : W' = ns.drop k) : Sta K B Gb G (upd H p (wdO l (k : Nat))) σ env W' := by
  have me : Own env σ i p := ⟨⟨_, e, rfl⟩, h1⟩
  have keep : ∀ (X : Hp), X p = none → Same X H → Same X (upd H p (wdO l (k : Nat))) := fun X hx s a u q => by
    rw [upd_ne (ne_of_none q hx)]
    exact s _ _ q
  have other : ∀ {j q}, j ≠ i → Own env σ j q → q ≠ p := fun ne h z => ne (S.sep _ i p (z ▸ h) me)
  exact {
    sg := keep G h2 S.sg
    sb := keep B h3 S.sb
    sgb := S.sgb
    gb := S.gb
    len := S.len
    pl := S.pl
    ow := fun j d e' => by
      obtain ⟨q, u, a1, a2, a3, a4, a5⟩ := S.ow j d e'
      have ne : j ≠ i := fun z => by subst z; rw [e] at e'; cases e'
      exact ⟨q, u, a1, a2, a3, by rw [upd_ne (other ne ⟨⟨_, e', rfl⟩, a1⟩)]; exact a4, a5⟩
    lk := fun j od o d e' => by
      obtain ⟨q, a1, a2, a3, a4, a5⟩ := S.lk j od o d e'
      have ne : j ≠ i := fun z => by subst z; rw [e] at e'; cases e'
      exact ⟨q, a1, a2, a3, by rw [upd_ne (other ne ⟨⟨_, e', rfl⟩, a1⟩)]; exact a4, a5⟩
    wd := fun j => fun e' => by
      obtain ⟨q, l', ns', k', a1, a2, a3, a4, a5, a6⟩ := S.wd j e'
      by_cases ne : j = i
      · subst ne
        rw [h1] at a1
        cases a1
        exact ⟨p, l, ns, k, h1, h2, h3, upd_same, h5, h6, a6.2⟩
      · exact absurd (S.one j i e' e) ne
    sc := S.sc
    one := S.one
    sep := S.sep }
section
variable {X : Cx} {e1 e2 : Expr} {pos p : Pos} {g : Ex}
theorem px_next {k : Nat} {fa : Addr} {fd : FuncData} (i : Nat) (hF : FnOk X.prog X.w X.K X.mg X.base CX0 k fa fd ["w", "many"] (spNext X.K)) (hr : Room k X.A) (hg : Gl X "_law_next") (hm : X.mg "_law_next" = some (.ref fa))
    (hk : PySem.W.keepIn X.K (.ref fa) = true) (hb : Binds X.K fd ["w", "many"] []) (hw : PE X e1 (tVar i)) (ha : PX X e2 g)
    (he : starEach [e1, e2] X.env = (false, eval e1 X.env) :: starEach [e2] X.env := by rfl) (he2 : starEach [e2] X.env = (false, eval e2 X.env) :: starEach [] X.env := by rfl) (hpl : (backTo pos (starEach [e2] X.env)).any (·.1) = false := by rfl) : PX X (.Call (.Name "_law_next" p) [e1, e2] [] pos) (cNext i g) := by
  refine PE.imp (pe_call (E := E0) hF hr hg hm hk hb .nil pass0 (pa_cons hw (pa_cons ha pa_nil he2) he) (by decide) he hpl) fun σ H Q q => ?_
  obtain ⟨B, Gb, G, env, W, d, k, W', S, e, c⟩ := q
  unfold cNext at e
  split at e
  · rename_i m km W1 ew eg
    split at e
    · rename_i hm
      obtain ⟨p, l, ns, n, h1, h2, h3, h4, h5, h6, _⟩ := S.wd i ew
      refine ⟨_, h1, B, Gb, G, env, W, _, _, _, S, eg, fun v G1 H1 s1 S1 hv => ?_⟩
      obtain rfl := hv.int S1
      obtain ⟨p', l', ns', n', a1, a2, a3, a4, a5, a6, _⟩ := S1.wd i ew
      rw [h1] at a1
      cases a1
      refine ⟨p, l', ns', n', m, rfl, a4, S1.sg _ _ a5, fun z => ?_, hm, ?_⟩
      · subst z
        rw [a2] at a5; cases a5
      · have dg := drop_get a6
        unfold nextV
        cases hq : ns'[n']? with
        | none =>
          rw [hq] at dg
          obtain ⟨rfl, dg⟩ := dg
          cases e
          exact c _ G1 _ s1 (S1.next ew h1 a2 a3 a5 dg.symm) (Rp.int 0)
        | some x =>
          rw [hq] at dg
          dsimp only at dg
          subst dg
          cases e
          exact c _ G1 _ s1 (S1.next ew h1 a2 a3 a5 rfl) (Rp.int _)
    · cases e
  · cases e

/-! ### the script -/
def cScLen (i : Nat) : Ex := fun env W => match env[i]? with
  | some (.sc ns) => if ns.length ≤ 1000 then some (.int ns.length, .im, W) else none
  | _ => none
def cScAt (i : Nat) (f : Ex) : Ex := fun env W => match env[i]?, f env W with
  | some (.sc ns), some (.int k, _, W') => (L2.atI ns k).map fun x => (.int x, .im, W')
  | _, _ => none
theorem px_scLen (i : Nat) (hg : Gl X "len") (hm : X.mg "len" = none) (hw : PE X e1 (tVar i)) (he : starEach [e1] X.env = (false, eval e1 X.env) :: starEach [] X.env := by rfl) : PX X (.Call (.Name "len" p) [e1] [] pos) (cScLen i) :=
  PE.imp (pe_callB call_len_seq hg hm PySem.boot_len (pa_cons hw pa_nil he) (by decide) (by decide) he rfl) fun σ H Q q => by
    obtain ⟨B, Gb, G, env, W, d, k, W', S, e, c⟩ := q
    unfold cScLen at e
    split at e
    · rename_i ns ew
      split at e
      · cases e
        obtain ⟨p, h1, h2⟩ := S.sc i ns ew
        refine ⟨_, h1, p, _, rfl, .inl (S.sg.seq h2), ?_⟩
        rw [List.length_map]
        exact c _ G H (Same.refl _) S (Rp.int _)
      · cases e
    · cases e
theorem px_scAt (i : Nat) (hw : PE X e1 (tVar i)) (ha : PX X e2 g) (hs : PlainIx e2 := by intro _ _; rfl) : PX X (.Subscript e1 e2 pos) (cScAt i g) :=
  PE.imp (pe_ix ix_list hw ha hs) fun σ H Q q => by
    obtain ⟨B, Gb, G, env, W, d, k, W', S, e, c⟩ := q
    unfold cScAt at e
    split at e
    · rename_i ns k0 kk W1 ew eg
      rw [Option.map_eq_some_iff] at e
      obtain ⟨x, e1, e2⟩ := e
      cases e2
      obtain ⟨p, h1, h2⟩ := S.sc i ns ew
      refine ⟨_, h1, B, Gb, G, env, W, _, _, _, S, eg, fun v G1 H1 s1 S1 hv => ?_⟩
      obtain rfl := hv.int S1
      refine ⟨p, _, k0, .int x, rfl, rfl, S1.sg.seq (s1.seq h2), ?_, c _ G1 _ s1 S1 (Rp.int x)⟩
      unfold L2.atI at *
      rw [Option.bind_eq_some_iff] at e1
      obtain ⟨j, j1, j2⟩ := e1
      rw [List.length_map, j1]
      show (ns.map V.int)[j]? = some (V.int x)
      rw [List.getElem?_map, j2]
      rfl
    · cases e
end

/-! ### the draws' def, the law -/
/-- any list of numbers below 997 -/
def drOk (ds : List Int) : Prop := ds.length ≤ 1000 ∧ ∀ x ∈ ds, 0 ≤ x ∧ x < 997
def spDraws (K : PySem.W.Frag) (many : Int) : Sp := fun vs H Q _ => ∃ (a : Addr) (ns : List Int), vs = [.ref a, .int many] ∧ SqL K H a (ns.map V.int) ∧ ns.length ≤ 63 ∧ ∀ (ds : List Int) (H' : Hp) (l : Addr), drOk ds → Same H H' → H' l = some (.lst (ds.map V.int)) → Q (.ref l) H'
def spLaw (K : PySem.W.Frag) : Sp := fun vs H Q _ => ∃ (a : Addr) (ns : List Int), vs = [.ref a] ∧ SqL K H a (ns.map V.int) ∧ ns.length ≤ 63 ∧ ∀ H', Q (.bl true) H'
def envL (p : Addr) (n : Nat) : SEnv := Sl.no :: Sl.wd p :: List.replicate (n - 2) Sl.no
section
variable {P : Program} {w : World} {K : PySem.W.Frag} {mg : Str → Option Value} {base : Heap} {f : Addr} {fd : FuncData} {N : List Str}
def tW (K : PySem.W.Frag) (many : Int) : TS := fun D σ H => tDisp [(tC (.str "draws"), tCall (spDraws K many) [] E0 (tCons (tVar 0) (tCons (tC (.int many)) tNil))), (tC (.str "at"), tC (.int 0))] σ H fun x H1 => D.nx (σ.set 1 (some x)) H1
theorem envL_no {p : Addr} {n i : Nat} {s : Sl} (h : (envL p n)[i]? = some s) : s = .no ∨ (i = 1 ∧ s = .wd p) := by
  unfold envL at h
  match i with
  | 0 => simp at h; exact .inl h.symm
  | 1 => simp at h; exact .inr ⟨rfl, h.symm⟩
  | i + 2 =>
    simp only [List.getElem?_cons_succ, List.getElem?_replicate] at h
    split at h
    · cases h; exact .inl rfl
    · cases h
theorem law_rule {st : Stmt} {k : Nat} {many : Int} {g : Sx} (F : Fun K "law" "law" st f fd) (S : FnScope N ["script"] (defScope st)) (hN : 2 ≤ N.length) (hg : ∀ p W, drOk W → ∃ W', g (envL p N.length) W = some (.rt (.bool true) W'))
    (hb : ∀ (cdv : Value) (A : Around) (outer : List Env) (s : Shared) (H : Hp) (E : XK), Room k (A.deeper (envOfC "law" (defScope st) s.heap.objs.size f cdv)) → PSs (cxOf CX0 P w K mg base N "law" (defScope st) f cdv A outer s H E).nox (defBody st) (tSeq (tW K many) (tS K g))) :
    FnOk P w K mg base CX0 (k + 1) f fd ["script"] (spLaw K) := by
  refine F.ok S (fun vs H Q E h => ?_) (fun cdv A outer s H vs Q E hr h => ⟨_, hb cdv A outer s H E hr, ?_⟩)
  · obtain ⟨a, ns, rfl, _⟩ := h
    rfl
  obtain ⟨a, ns, rfl, hS, h63, q⟩ := h
  intro p hp
  have s1 : Same H (upd H p (.dK [])) := same_upd hp
  refine ⟨.ref a, rfl, a, ns, rfl, s1.seq hS, h63, fun ds H2 l hd s2 hl => ⟨s2 _ _ upd_same, [(Sum.inr (Str.ofString "draws"), V.ref l), (Sum.inr (Str.ofString "at"), V.int 0)], rfl, by show 2 ≤ 15; decide, ?_⟩⟩
  show tS K g _ ((L2.start N [V.ref a]).set 1 (some (V.ref p))) (upd H2 p (wdO l 0))
  have hpl : l ≠ p := fun z => by
    subst z
    have := s2 _ _ upd_same
    rw [hl] at this
    cases this
  obtain ⟨W', e⟩ := hg p ds hd
  have hlen : (L2.start N [V.ref a]).length = N.length := by
    unfold L2.start
    rw [List.length_append, List.length_map, List.length_replicate]
    show 1 + (N.length - 1) = N.length
    omega
  have own1 : ∀ {i q}, Own (envL p N.length) ((L2.start N [V.ref a]).set 1 (some (V.ref p))) i q → i = 1 := fun {i q} ⟨⟨s, e, o⟩, _⟩ => by
    rcases envL_no e with z | ⟨z, _⟩
    · subst z; exact absurd o Bool.false_ne_true
    · exact z
  refine ⟨fun _ => none, upd (fun _ => none) l (.lst (ds.map V.int)), upd (fun _ => none) l (.lst (ds.map V.int)), envL p N.length, ds, _, ?_, e, fun v G1 H1 t1 Fn => ?_⟩
  · exact {
      sg := fun b x e => by
        by_cases z : b = l
        · subst z
          rw [upd_same] at e
          cases e
          rw [upd_ne hpl]
          exact hl
        · rw [upd_ne z] at e; cases e
      sb := fun b x e => nomatch e
      sgb := Same.refl _
      gb := fun a o e _ => nomatch e
      len := by
        rw [List.length_set, hlen]
        unfold envL
        rw [List.length_cons, List.length_cons, List.length_replicate]
        omega
      pl := fun i d e => by rcases envL_no e with z | ⟨_, z⟩ <;> cases z
      ow := fun i d e => by rcases envL_no e with z | ⟨_, z⟩ <;> cases z
      lk := fun i od o d e => by rcases envL_no e with z | ⟨_, z⟩ <;> cases z
      wd := fun i => fun e => by
        rcases envL_no e with z | ⟨z, z2⟩
        · cases z
        · subst z
          cases z2
          exact ⟨p, l, ds, 0, List.getElem?_set_self (by omega), by rw [upd_ne (Ne.symm hpl)], rfl, upd_same, upd_same, rfl, rfl⟩
      sc := fun i d e => by rcases envL_no e with z | ⟨_, z⟩ <;> cases z
      one := fun i j => fun e1 e2 => by
        rcases envL_no e1 with z | ⟨z1, _⟩
        · cases z
        · rcases envL_no e2 with z | ⟨z2, _⟩
          · cases z
          · rw [z1, z2]
      sep := fun i j q h1 h2 => by rw [own1 h1, own1 h2] }
  · have hv := Fn.rp
    cases hv
    exact q H1
def envS (n : Nat) (ns : List Int) (many : Int) : SEnv := Sl.sc ns :: Sl.pl (.int many) :: List.replicate (n - 2) Sl.no
theorem envS_no {n i : Nat} {ns : List Int} {many : Int} {s : Sl} (h : (envS n ns many)[i]? = some s) : s = .no ∨ (i = 0 ∧ s = .sc ns) ∨ (i = 1 ∧ s = .pl (.int many)) := by
  unfold envS at h
  match i with
  | 0 => simp at h; exact .inr (.inl ⟨rfl, h.symm⟩)
  | 1 => simp at h; exact .inr (.inr ⟨rfl, h.symm⟩)
  | i + 2 =>
    simp only [List.getElem?_cons_succ, List.getElem?_replicate] at h
    split at h
    · cases h; exact .inl rfl
    · cases h
theorem draws_rule {st : Stmt} {k : Nat} {many : Int} {g : Sx} (F : Fun K "_law_draws" "_law_draws" st f fd) (S : FnScope N ["script", "many"] (defScope st)) (hN : 2 ≤ N.length) (hg : ∀ ns : List Int, ns.length ≤ 63 → ∃ ds W', g (envS N.length ns many) [] = some (.rt (.list (ds.map PyData.int)) W') ∧ drOk ds)
    (hb : ∀ (cdv : Value) (A : Around) (outer : List Env) (s : Shared) (H : Hp) (E : XK), Room k (A.deeper (envOfC "_law_draws" (defScope st) s.heap.objs.size f cdv)) → PSsX (cxOf CX0 P w K mg base N "_law_draws" (defScope st) f cdv A outer s H E).nox (defBody st) g) :
    FnOk P w K mg base CX0 (k + 1) f fd ["script", "many"] (spDraws K many) := by
  refine F.ok S (fun vs H Q E h => ?_) (fun cdv A outer s H vs Q E hr h => ⟨_, hb cdv A outer s H E hr, ?_⟩)
  · obtain ⟨a, ns, rfl, _⟩ := h
    rfl
  obtain ⟨a, ns, rfl, hS, h63, q⟩ := h
  obtain ⟨ds, W', e, hd⟩ := hg ns h63
  have own1 : ∀ {i q}, ¬ Own (envS N.length ns many) (L2.start N [V.ref a, .int many]) i q := fun {i q} ⟨⟨s, e, o⟩, _⟩ => by
    rcases envS_no e with z | ⟨_, z⟩ | ⟨_, z⟩ <;> (subst z; exact absurd o Bool.false_ne_true)
  refine ⟨H, H, H, envS N.length ns many, [], _, ?_, e, fun v G1 H1 t1 Fn => ?_⟩
  · exact {
      sg := Same.refl _
      sb := Same.refl _
      sgb := Same.refl _
      gb := fun a o e z => .inl z
      len := by
        unfold envS L2.start
        rw [List.length_append, List.length_map, List.length_replicate, List.length_cons, List.length_cons, List.length_replicate]
        show N.length - 2 + 1 + 1 = 2 + (N.length - 2)
        omega
      pl := fun i d e => by
        rcases envS_no e with z | ⟨_, z⟩ | ⟨z, z2⟩
        · cases z
        · cases z
        · cases z2
          subst z
          exact ⟨_, start_get rfl, .int many⟩
      ow := fun i d e => by rcases envS_no e with z | ⟨_, z⟩ | ⟨_, z⟩ <;> cases z
      lk := fun i od o d e => by rcases envS_no e with z | ⟨_, z⟩ | ⟨_, z⟩ <;> cases z
      wd := fun i => fun e => by rcases envS_no e with z | ⟨_, z⟩ | ⟨_, z⟩ <;> cases z
      sc := fun i d e => by
        rcases envS_no e with z | ⟨z, z2⟩ | ⟨_, z⟩
        · cases z
        · cases z2
          subst z
          exact ⟨_, start_get rfl, hS⟩
        · cases z
      one := fun i j => fun e _ => by rcases envS_no e with z | ⟨_, z⟩ | ⟨_, z⟩ <;> cases z
      sep := fun i j q h1 h2 => absurd h1 own1 }
  · have hv := Fn.rp
    cases hv with
    | lst ha ra =>
      have e2 := RpL.of_ints ra
      subst e2
      exact q ds H1 _ hd Fn.sb (Fn.sg _ _ ha)
end
end PX

namespace PX
open PySem PySem.Spec PyProof.Rows L2

/-! ### sets of whole numbers -/
def insU (x : Int) : List Int → List Int
  | [] => [x]
  | y :: r => if x < y then x :: y :: r else if x = y then y :: r else y :: insU x r
def sortU (ns : List Int) : List Int := ns.foldr insU []
theorem insU_mem {x k : Int} : ∀ {l : List Int}, k ∈ insU x l ↔ k = x ∨ k ∈ l
  | [] => by simp [insU]
  | y :: r => by
    unfold insU
    split
    · simp
    · split
      · rename_i h; subst h; simp
      · simp only [List.mem_cons, insU_mem (l := r)]
        constructor <;> (rintro (h | h | h) <;> simp [h])
theorem insU_lt {x : Int} : ∀ {l : List Int}, l.Pairwise (· < ·) → (insU x l).Pairwise (· < ·)
  | [], _ => by simp [insU]
  | y :: r, h => by
    have h' := List.pairwise_cons.mp h
    unfold insU
    split
    · rename_i hx
      refine List.pairwise_cons.mpr ⟨fun z hz => ?_, h⟩
      rcases List.mem_cons.mp hz with e | e
      · rw [e]; exact hx
      · exact Int.lt_trans hx (h'.1 z e)
    · split
      · exact h
      · refine List.pairwise_cons.mpr ⟨fun z hz => ?_, insU_lt h'.2⟩
        rcases insU_mem.mp hz with e | e
        · subst e; omega
        · exact h'.1 z e
theorem sortU_mem {k : Int} : ∀ {l : List Int}, k ∈ sortU l ↔ k ∈ l
  | [] => by simp [sortU]
  | y :: r => by
    have ih := sortU_mem (k := k) (l := r)
    unfold sortU at ih ⊢
    rw [List.foldr_cons, insU_mem, ih, List.mem_cons]
theorem sortU_lt : ∀ {l : List Int}, (sortU l).Pairwise (· < ·)
  | [] => by simp [sortU]
  | y :: r => insU_lt (sortU_lt (l := r))
theorem lt_uniq : ∀ {a b : List Int}, a.Pairwise (· < ·) → b.Pairwise (· < ·) → (∀ k, k ∈ a ↔ k ∈ b) → a = b
  | [], [], _, _, _ => rfl
  | [], y :: r, _, _, h => absurd ((h y).mpr (by simp)) (by simp)
  | x :: r, [], _, _, h => absurd ((h x).mp (by simp)) (by simp)
  | x :: r, y :: t, ha, hb, h => by
    have ha' := List.pairwise_cons.mp ha
    have hb' := List.pairwise_cons.mp hb
    have e : x = y := by
      rcases List.mem_cons.mp ((h x).mp (by simp)) with e | e
      · exact e
      · rcases List.mem_cons.mp ((h y).mpr (by simp)) with e2 | e2
        · exact e2.symm
        · have := hb'.1 x e
          have := ha'.1 y e2
          omega
    subst e
    refine congrArg _ (lt_uniq ha'.2 hb'.2 fun k => ⟨fun hk => ?_, fun hk => ?_⟩)
    · rcases List.mem_cons.mp ((h k).mp (by simp [hk])) with e | e
      · have := ha'.1 k hk; omega
      · exact e
    · rcases List.mem_cons.mp ((h k).mpr (by simp [hk])) with e | e
      · have := hb'.1 k hk; omega
      · exact e
theorem sortU_len (ns : List Int) : (sortU ns).length ≤ ns.length := by
  have ins : ∀ (x : Int) (l : List Int), (insU x l).length ≤ l.length + 1 := by
    intro x l
    induction l with
    | nil => simp [insU]
    | cons y r ih =>
      unfold insU
      split
      · simp
      · split
        · simp
        · simp only [List.length_cons]; omega
  induction ns with
  | nil => simp [sortU]
  | cons x r ih =>
    have h := ins x (sortU r)
    show (insU x (sortU r)).length ≤ r.length + 1
    omega
section
variable {P : Program} {w : World} {A : Around} {E : Value → Shared → Prop} {s : Shared}
set_option maxHeartbeats 3200000 in
/-- set(l), l a list of whole numbers: the road of a tuple's, turned to a list -/
theorem call_set_lstI {l : Addr} {items : Array Value} (ns : List Int) {Q : Value → Shared → Prop} (hh : A.handled = none) (hl : s.heap.IsList l items) (hit : IntsAre items.toList ns) (hb : ns.length + 1 < scanBound)
    (h : ∀ (h' : Heap) (tk c : Nat), SetR w h' s.heap.objs.size (fun j => decide (j ∈ ns)) c → c ≤ ns.length → (∀ b o, s.heap.get? b = some o → h'.get? b = some o) → Q (.ref s.heap.objs.size) { s with heap := h', toks := tk }) :
    wpAny (model P w) A (call (.type "set") [.ref l]) Q E s := by
  have hisz : items.size = ns.length := by
    have q := IntsAre.length hit
    rwa [Array.length_toList] at q
  obtain ⟨c, tl, hmro⟩ := F.called_set.mro
  have hmade := F.called_set.made
  have hsub := F.called_set.sub
  refine wpAny_call (codeAny_of_tree ?_)
  show wpAny _ _ (callAny (.type "set") _) _ _ _
  refine wpAny_pure ⟨Code.quiet_builtin _ (by decide +kernel), codeAny_builtin F.entry_type_call ?_⟩
  rw [Around.under_plain (weight_type_call_type "set" [.ref l] []) rfl]
  have h1 := F.called_set.notType
  have h2 := F.called_set.canCreate
  have hct := F.typeCall_set_1 (.ref l)
  repeat (any_goals (first | assumption | wp_step))

  refine codeAny_mono (code_set_led1 (.ref l) (E := E) (Q₁ := fun obj s₁ => obj = .ref s.heap.objs.size ∧ s₁ = { s with heap := s.heap.push { cls := .type "set", dict := none, data := .set #[] 0 (.fresh 0 0 (!w.params.followText "set-order")) } }) ⟨rfl, rfl⟩) fun r s₁ hr => ?_
  cases r with
  | error e => exact hr
  | ok fl =>
    cases fl with
    | ret obj =>
      obtain ⟨rfl, rfl⟩ := hr
      have hS : (s.heap.push { cls := .type "set", dict := none, data := .set #[] 0 (.fresh 0 0 (!w.params.followText "set-order")) }).get? s.heap.objs.size = some { cls := .type "set", dict := none, data := .set #[] 0 (.fresh 0 0 (!w.params.followText "set-order")) } := Heap.get?_push_size _ rfl
      have hT : Shared.TypeIs { s with heap := s.heap.push { cls := .type "set", dict := none, data := .set #[] 0 (.fresh 0 0 (!w.params.followText "set-order")) } } (.ref s.heap.objs.size) "set" := ⟨_, hS, rfl⟩
      have hli := F.called_set.init.lookup
      have hbi := F.called_set.init.bind (.ref s.heap.objs.size)
      repeat (any_goals (first | assumption | wp_step))

      refine codeAny_mono (codeAny_call_builtin (R := wants (fun r s₂ => r = .none ∧ ∃ h' tk c, s₂ = { s with heap := h', toks := tk } ∧ SetR w h' s.heap.objs.size (fun j => decide (j ∈ ns)) c ∧ c ≤ ns.length ∧
          (∀ b o, s.heap.get? b = some o → h'.get? b = some o)) E) F.called_set.init.plain F.entry_set_init (check_set_init_1 hT ?_)) fun r₂ s₂ hr₂ => ?_
      · obtain ⟨ol, hol, hcl, nl, hdl⟩ := hl
        obtain ⟨ocls, odict, odata, oslots⟩ := ol
        simp only at hcl hdl
        subst hcl; subst hdl
        have hol' : (s.heap.push { cls := .type "set", dict := none, data := .set #[] 0 (.fresh 0 0 (!w.params.followText "set-order")) }).get? l = some { cls := .type "list", dict := odict, data := .seq items nl, slots := oslots } := Heap.get?_push_of_some _ hol
        have hsls := F.sub_list_set
        have hslf := F.sub_list_frozenset
        have hne : (Value.type "list" == Value.type "dict") = false := by decide
        have hl1 : (s.heap.push { cls := .type "set", dict := none, data := .set #[] 0 (.fresh 0 0 (!w.params.followText "set-order")) }).IsList l items := ⟨_, hol', rfl, nl, rfl⟩
        unfold Builtin.«set.__init__» noKeywords Builtin.Frozenset.updateFrom
        generalize hPI : pyIter = PI
        wp_walk
        subst hPI

        refine wpAny_pyIter_list hl1 ?_
        refine wpAny_bind (wpAny_runValue ?_)
        have hlS : l < s.heap.objs.size := Heap.lt_size hol
        have hh3 : A.in1.in1.in1.handled = none := by simp [hh]
        have hneI : l ≠ (s.heap.push { cls := .type "set", dict := none, data := .set #[] 0 (.fresh 0 0 (!w.params.followText "set-order")) }).objs.size := by
          rw [Heap.size_push]; exact Nat.ne_of_lt (Nat.lt_succ_of_lt hlS)
        have hSf : s.heap.objs.size ∉ [(s.heap.push { cls := .type "set", dict := none, data := .set #[] 0 (.fresh 0 0 (!w.params.followText "set-order")) }).objs.size, l] := by
          rw [Heap.size_push]; simp only [List.mem_cons, List.mem_singleton, List.not_mem_nil, or_false, not_or]
          exact ⟨Nat.ne_of_lt (Nat.lt_succ_self _), Nat.ne_of_gt hlS⟩
        have hval : ∀ (i : Nat) (v : Value), items[i]? = some v → ∃ k t, ns[i]? = some k ∧ v = .int k t := fun i v hv => by
          have hi : i < ns.length := by rw [← hisz]; exact (Array.getElem?_eq_some_iff.mp hv).1
          obtain ⟨t, e⟩ := PyProof.Rows.IntsAre.int_at hit i v (by rw [Array.getElem?_toList]; exact hv)
          refine ⟨ns[i], t, List.getElem?_eq_getElem hi, ?_⟩
          rw [e, List.getD_eq_getElem?_getD, List.getElem?_eq_getElem hi] <;> rfl
        refine set_update_ints ((Walks.list hh3 _ l hneI items).toS) s.heap.objs.size
          hSf ns hisz hb hval (items.size - 0) 0 _ (by omega) (Nat.zero_le _)
          ⟨⟨_, Heap.get?_push_size _ rfl, rfl, rfl⟩, (hl1.push _)⟩ ?hS0 ?hR
        case hS0 =>
          refine ⟨0, Nat.le_refl 0, setR_new_at ?_⟩
          exact Heap.get?_push_of_some _ hS
        case hR =>
          intro s' c' hm hc' hS'
          obtain ⟨h', g2, d', tk', os'⟩ := s'
          have eg : g2 = s.gens := hm.gens
          have ed : d' = s.drawn := hm.drawn
          have eo : os' = s.os := hm.os
          subst eg; subst ed; subst eo
          show wpAny _ _ _ _ _ _
          refine wpAny_pure ?_
          show wpAny _ _ (ret Value.none) _ _ _
          rw [hisz] at hc'
          refine wpAny_pure ⟨rfl, h', tk', c', rfl, hS', hc', fun b o e => ?_⟩
          have hb0 : b < s.heap.objs.size := Heap.lt_size e
          have hb2 : b ≠ (s.heap.push { cls := .type "set", dict := none, data := .set #[] 0 (.fresh 0 0 (!w.params.followText "set-order")) }).objs.size := by
            rw [Heap.size_push]; exact Nat.ne_of_lt (Nat.lt_succ_of_lt hb0)
          exact hm.heap b o (by simp only [List.mem_cons, List.mem_singleton, List.not_mem_nil, or_false, not_or]; exact ⟨Nat.ne_of_lt hb0, hb2⟩) (Heap.get?_push_of_some _ (Heap.get?_push_of_some _ e))

      · cases r₂ with
        | error e => exact hr₂
        | ok fl₂ =>
          cases fl₂ with
          | ret r =>
            obtain ⟨rfl, h', tk, c', rfl, hS', hc', hk'⟩ := hr₂
            repeat (any_goals (first | assumption | wp_step))
            exact h _ _ _ hS' hc' hk'
          | _ => exact hr₂.elim
    | _ => exact hr.elim
end
end PX

namespace PX
open PySem PySem.Spec PyProof.Rows L2
def rSetI (K : PySem.W.Frag) (w : World) : List V → Hp → VK → Prop := fun xs H Q => ∃ (l : Addr) (ns : List Int), xs = [V.ref l] ∧ (SqL K H l (ns.map V.int) ∨ SqT K H l (ns.map V.int)) ∧ ns.length ≤ 1000 ∧ ∀ p c, H p = none → c ≤ ns.length → Q (.ref p) (upd H p (SetO w p (fun j => decide (j ∈ ns)) c))
theorem cr_setI {X : Cx} (hc : X.calm = true) : CallR X (.type "set") (rSetI X.K X.w) := by
  intro pins s σ H xs us Q I r h
  obtain ⟨l, ns, rfl, hq, hl, q⟩ := h
  rw [Vals.ref1 r]
  rcases hq with hq | hq
  · obtain ⟨its, rv, pl, hz⟩ := I.list hq
    refine call_set_lstI (P := X.prog) (w := X.w) ns (I.ok.hd hc) pl.isList (by simpa using ints_of_vals rv) (by unfold scanBound; omega) fun h' tk c R hcn k => ?_
    exact ⟨.ref s.heap.objs.size, _, I.laid (t' := tk) k (Nat.le_refl _) (setO_new R), rfl, q _ c (I.hok.fresh (Nat.le_refl _)) hcn⟩
  · obtain ⟨its, rv, pt, hz⟩ := I.tuple hq
    refine call_set_tupI (P := X.prog) (w := X.w) ns (I.ok.hd hc) (show s.heap.IsTuple l its.toArray from pt) (by simpa using ints_of_vals rv) (by unfold scanBound; omega) fun h' tk c R hcn k => ?_
    exact ⟨.ref s.heap.objs.size, _, I.laid (t' := tk) k (Nat.le_refl _) (setO_new R), rfl, q _ c (I.hok.fresh (Nat.le_refl _)) hcn⟩
def rLenSet (w : World) : List V → Hp → VK → Prop := fun xs H Q => ∃ (a : Addr) (S : Int → Bool) (n : Nat) (ns : List Int), xs = [V.ref a] ∧ H a = some (SetO w a S n) ∧ ns.Nodup ∧ (∀ k, k ∈ ns ↔ S k = true) ∧ Q (.int ns.length) H
theorem len_of_nodup {a b : List Int} (ha : a.Nodup) (hb : b.Nodup) (h : ∀ k, k ∈ a ↔ k ∈ b) : a.length = b.length :=
  ((List.perm_ext_iff_of_nodup ha hb).mpr h).length_eq
theorem cr_lenSet {X : Cx} : CallR X (.builtin "len") (rLenSet X.w) := by
  intro pins s σ H xs us Q I r h
  obtain ⟨a, S, n, ns, rfl, ha, hnd, hm, q⟩ := h
  rw [Vals.ref1 r]
  obtain ⟨o, es, ep, t, ho, hex, hd, hg, nd, hS, hb, hf, hn, _⟩ := setO_get I ha
  have e : es.size = ns.length := by
    have z := len_of_nodup nd hnd fun k => by rw [hm k, hS k]
    rw [← z, List.length_map, Array.length_toList]
  refine call_len_set ho hex hd hf (by unfold scanBound at hb; omega) ⟨.int ns.length, H, I.tok _, ⟨_, by rw [e]⟩, q⟩

/-! ### sorted(set(e)), len(set(e)) -/
def oSortSet : Op
  | [(.list ds, _)] => (intsOf ds).bind fun ns => if ns.length < 64 then some (.list ((sortU ns).map PyData.int), .fr) else none
  | [(.tuple ds, _)] => (intsOf ds).bind fun ns => if ns.length < 64 then some (.list ((sortU ns).map PyData.int), .fr) else none
  | _ => none
def oLenSet : Op
  | [(.list ds, _)] => (intsOf ds).bind fun ns => if ns.length < 1000 then some (.int (sortU ns).length, .im) else none
  | [(.tuple ds, _)] => (intsOf ds).bind fun ns => if ns.length < 1000 then some (.int (sortU ns).length, .im) else none
  | _ => none
theorem nodup_lt {l : List Int} (h : l.Pairwise (· < ·)) : l.Nodup := h.imp fun h => by omega
theorem ints_seq {K : PySem.W.Frag} {B Gb G H : Hp} {σ : L2.St} {env : SEnv} {W : List Int} {v : V} {ds : List PyData} {ns : List Int} {k : Kd} {d : PyData} (S : Sta K B Gb G H σ env W) (h : VOk K B G H σ env v d k) (hd : d = .list ds ∨ d = .tuple ds) (hn : ds = ns.map PyData.int) :
    ∃ l, v = .ref l ∧ (SqL K H l (ns.map V.int) ∨ SqT K H l (ns.map V.int)) := by
  subst hn
  rcases hd with rfl | rfl
  · obtain ⟨a, xs, rfl, ha, r⟩ := h.list S
    rw [RpL.of_ints r] at ha
    exact ⟨a, rfl, .inl (.of ha)⟩
  · obtain ⟨a, xs, rfl, ha, r⟩ := h.tuple S
    rw [RpL.of_ints r] at ha
    exact ⟨a, rfl, .inr ((Sub.of S.sg).sqT ha.sqT)⟩
theorem oSortSet_of {d1 d : PyData} {k1 k : Kd} (e : oSortSet [(d1, k1)] = some (d, k)) : ∃ ds ns, (d1 = .list ds ∨ d1 = .tuple ds) ∧ intsOf ds = some ns ∧ ns.length < 64 ∧ d = .list ((sortU ns).map PyData.int) ∧ k = .fr := by
  unfold oSortSet at e
  split at e
  · rename_i q; cases q
    rw [Option.bind_eq_some_iff] at e
    obtain ⟨ns, hi, e2⟩ := e
    split at e2
    · rename_i hl
      cases e2
      exact ⟨_, _, .inl rfl, hi, hl, rfl, rfl⟩
    · cases e2
  · rename_i q; cases q
    rw [Option.bind_eq_some_iff] at e
    obtain ⟨ns, hi, e2⟩ := e
    split at e2
    · rename_i hl
      cases e2
      exact ⟨_, _, .inr rfl, hi, hl, rfl, rfl⟩
    · cases e2
  · cases e
theorem oLenSet_of {d1 d : PyData} {k1 k : Kd} (e : oLenSet [(d1, k1)] = some (d, k)) : ∃ ds ns, (d1 = .list ds ∨ d1 = .tuple ds) ∧ intsOf ds = some ns ∧ ns.length < 1000 ∧ d = .int (sortU ns).length ∧ k = .im := by
  unfold oLenSet at e
  split at e
  · rename_i q; cases q
    rw [Option.bind_eq_some_iff] at e
    obtain ⟨ns, hi, e2⟩ := e
    split at e2
    · rename_i hl
      cases e2
      exact ⟨_, _, .inl rfl, hi, hl, rfl, rfl⟩
    · cases e2
  · rename_i q; cases q
    rw [Option.bind_eq_some_iff] at e
    obtain ⟨ns, hi, e2⟩ := e
    split at e2
    · rename_i hl
      cases e2
      exact ⟨_, _, .inr rfl, hi, hl, rfl, rfl⟩
    · cases e2
  · cases e
section
variable {X : Cx} {a b c : Expr} {f g h : Ex} {p p2 q pos : Pos}
theorem px_sortSet (hc : X.calm = true) (hg : Gl X "sorted") (hm : X.mg "sorted" = none) (hg2 : Gl X "set") (hm2 : X.mg "set" = none) (ha : PX X a f) (na : starEach [a] X.env = (false, eval a X.env) :: starEach [] X.env := by rfl)
    (nb : starEach [Expr.Call (.Name "set" p2) [a] [] q] X.env = (false, eval (.Call (.Name "set" p2) [a] [] q) X.env) :: starEach [] X.env := by rfl) : PX X (.Call (.Name "sorted" p) [.Call (.Name "set" p2) [a] [] q] [] pos) (cCall oSortSet [f]) :=
  PE.imp (pe_callB (cr_sortedSet hc) hg hm PyProof.Rows.boot_sorted (pa_cons (pe_callTy (cr_setI hc) hg2 hm2 PyProof.Rows.boot_set (pa_cons ha pa_nil na) (by decide) (by decide) na rfl) pa_nil nb) (by decide) (by decide) nb rfl) fun σ H Q h => by
    obtain ⟨B, Gb, G, env, W, d, k, W', S, e, c⟩ := h
    obtain ⟨d1, k1, e1, e2⟩ := cCall_one e
    obtain ⟨ds, ns, hd, hi, hl, rfl, rfl⟩ := oSortSet_of e2
    refine ⟨B, Gb, G, env, W, d1, k1, W', S, e1, fun v G1 H1 s1 S1 h1 => ?_⟩
    obtain ⟨l, rfl, hq⟩ := ints_seq S1 h1 hd (intsOf_eq hi)
    refine ⟨l, ns, rfl, hq, by omega, fun p n hp hn => ⟨p, _, n, rfl, upd_same, by omega, fun ms p' hms hmm hml hp' => ?_⟩⟩
    have e5 : ms = sortU ns := lt_uniq hms sortU_lt fun k => by rw [hmm k, sortU_mem, decide_eq_true_eq]
    subst e5
    exact (c.sub s1).fr (S1.laid hp) hp' (show RpO _ _ (.lst _) (.list _) from RpL.ints _)
theorem px_lenSet (hc : X.calm = true) (hg : Gl X "len") (hm : X.mg "len" = none) (hg2 : Gl X "set") (hm2 : X.mg "set" = none) (ha : PX X a f) (na : starEach [a] X.env = (false, eval a X.env) :: starEach [] X.env := by rfl)
    (nb : starEach [Expr.Call (.Name "set" p2) [a] [] q] X.env = (false, eval (.Call (.Name "set" p2) [a] [] q) X.env) :: starEach [] X.env := by rfl) : PX X (.Call (.Name "len" p) [.Call (.Name "set" p2) [a] [] q] [] pos) (cCall oLenSet [f]) :=
  PE.imp (pe_callB cr_lenSet hg hm PySem.boot_len (pa_cons (pe_callTy (cr_setI hc) hg2 hm2 PyProof.Rows.boot_set (pa_cons ha pa_nil na) (by decide) (by decide) na rfl) pa_nil nb) (by decide) (by decide) nb rfl) fun σ H Q h => by
    obtain ⟨B, Gb, G, env, W, d, k, W', S, e, c⟩ := h
    obtain ⟨d1, k1, e1, e2⟩ := cCall_one e
    obtain ⟨ds, ns, hd, hi, hl, rfl, rfl⟩ := oLenSet_of e2
    refine ⟨B, Gb, G, env, W, d1, k1, W', S, e1, fun v G1 H1 s1 S1 h1 => ?_⟩
    obtain ⟨l, rfl, hq⟩ := ints_seq S1 h1 hd (intsOf_eq hi)
    refine ⟨l, ns, rfl, hq, by omega, fun p n hp hn => ⟨p, _, n, sortU ns, rfl, upd_same, nodup_lt sortU_lt, fun k => by rw [sortU_mem, decide_eq_true_eq], ?_⟩⟩
    exact (c.sub s1).int (S1.laid hp)
end

/-! ### tuple(range(..)), list(range(..)) -/
def cRg (tup : Bool) (f : Ci) : Ex := fun env W => (f env W).map fun r => if tup then (.tuple r.1, .im, r.2.2) else (.list r.1, .fr, r.2.2)
section
variable {X : Cx} {a b c e : Expr} {f g h : Ex} {p p2 q pos : Pos}
theorem rgV_rp {K : PySem.W.Frag} {G : Hp} (i j : Int) : RpL K G (rgV i j) (rgI i (j - i).toNat) := by
  unfold rgV rgI
  generalize (j - i).toNat = n
  have : ∀ l : List Nat, RpL K G (l.map fun (k : Nat) => V.int (i + (k : Nat))) (l.map fun (k : Nat) => PyData.int (i + (k : Nat) * 1)) := by
    intro l
    induction l with
    | nil => exact .nil
    | cons x r ih => exact .cons (by dsimp only; rw [Int.mul_one]; exact .int _) ih
  exact this _
theorem px_tupRg1 (hc : X.calm = true) (hg : Gl X "tuple") (hm : X.mg "tuple" = none) (hg2 : Gl X "range") (hm2 : X.mg "range" = none) (ha : PX X a f) (na : starEach [a] X.env = (false, eval a X.env) :: starEach [] X.env := by rfl)
    (nb : starEach [Expr.Call (.Name "range" p2) [a] [] q] X.env = (false, eval (.Call (.Name "range" p2) [a] [] q) X.env) :: starEach [] X.env := by rfl) : PX X (.Call (.Name "tuple" p) [.Call (.Name "range" p2) [a] [] q] [] pos) (cRg true (iR1 f)) :=
  PE.imp (pe_tupRg hc hg hm (prg_1 hg2 hm2 ha na) nb) fun σ H Q q => by
    obtain ⟨B, Gb, G, env, W, d, k, W', S, e, c⟩ := q
    unfold cRg iR1 at e
    rw [Option.map_eq_some_iff] at e
    obtain ⟨⟨ds, kk, W2⟩, e1, e2⟩ := e
    split at e1
    · rename_i j k1 W1 e3
      split at e1
      · rename_i hj
        cases e1
        cases e2
        refine ⟨B, Gb, G, env, W, _, k1, _, S, e3, fun v G1 H1 s1 S1 h1 => ?_⟩
        obtain rfl := h1.int S1
        refine ⟨j, rfl, ⟨by omega, by omega, by omega, by omega, by omega⟩, fun q hq => (c.sub s1).tup S1 hq ?_⟩
        have := rgV_rp (K := X.K) (G := G1) 0 j
        rwa [Int.sub_zero] at this
      · cases e1
    · cases e1
theorem px_lstRg1 (hc : X.calm = true) (hg : Gl X "list") (hm : X.mg "list" = none) (hg2 : Gl X "range") (hm2 : X.mg "range" = none) (ha : PX X a f) (na : starEach [a] X.env = (false, eval a X.env) :: starEach [] X.env := by rfl)
    (nb : starEach [Expr.Call (.Name "range" p2) [a] [] q] X.env = (false, eval (.Call (.Name "range" p2) [a] [] q) X.env) :: starEach [] X.env := by rfl) : PX X (.Call (.Name "list" p) [.Call (.Name "range" p2) [a] [] q] [] pos) (cRg false (iR1 f)) :=
  PE.imp (pe_listRg hc hg hm (prg_1 hg2 hm2 ha na) nb) fun σ H Q q => by
    obtain ⟨B, Gb, G, env, W, d, k, W', S, e, c⟩ := q
    unfold cRg iR1 at e
    rw [Option.map_eq_some_iff] at e
    obtain ⟨⟨ds, kk, W2⟩, e1, e2⟩ := e
    split at e1
    · rename_i j k1 W1 e3
      split at e1
      · rename_i hj
        cases e1
        cases e2
        refine ⟨B, Gb, G, env, W, _, k1, _, S, e3, fun v G1 H1 s1 S1 h1 => ?_⟩
        obtain rfl := h1.int S1
        refine ⟨j, rfl, ⟨by omega, by omega, by omega, by omega, by omega⟩, fun q hq => (c.sub s1).fr S1 hq ?_⟩
        have := rgV_rp (K := X.K) (G := G1) 0 j
        rw [Int.sub_zero] at this
        exact this
      · cases e1
    · cases e1
/-- tuple(range(i, j, c)), the step above 0 -/
def rgC (lo c : Int) (n : Nat) : List PyData := (List.range n).map fun (i : Nat) => PyData.int (lo + (i : Nat) * c)
def cTupRg3 (f g h : Ex) : Ex := fun env W => match f env W with
  | some (.int i, _, W1) => (match g env W1 with
    | some (.int j, _, W2) => (match h env W2 with
      | some (.int c, _, W') => if 0 < c ∧ c ≤ 1000000 ∧ i ≤ 1000000 ∧ -1000000 ≤ i ∧ j ≤ 1000000 ∧ -1000000 ≤ j then some (.tuple (rgC i c (if i < j then (j - i - 1) / c + 1 else 0).toNat), .im, W') else none
      | _ => none)
    | _ => none)
  | _ => none
theorem vals_rgC {i c : Int} {n : Nat} {acc : Array Value} (h : ItemsOf (fun k v => ∃ t, v = .int (i + k * c) t) acc n) : Vals ((List.range n).map fun k => V.int (i + (k : Nat) * c)) acc.toList := by
  have e : acc.toList.length = n := by rw [Array.length_toList]; exact h.1
  rw [← e]
  refine vals_of_get acc.toList _ fun j u hj => ?_
  obtain ⟨t, rfl⟩ := h.2 j u (by rw [← hj, Array.getElem?_toList])
  exact ⟨t, rfl⟩
theorem small_up {i j c : Int} (h0 : 0 < c) (h1 : c ≤ 1000000) (h2 : i ≤ 1000000) (h3 : -1000000 ≤ i) (h4 : j ≤ 1000000) (h5 : -1000000 ≤ j) : Builtin.Range.small i j c = true ∧ Builtin.Range.rangeSize i j c = (if i < j then (j - i - 1) / c + 1 else 0) ∧ (if i < j then (j - i - 1) / c + 1 else 0) ≤ 2000000 ∧ 0 ≤ (if i < j then (j - i - 1) / c + 1 else 0) := by
  have e : Builtin.Range.rangeSize i j c = (if i < j then (j - i - 1) / c + 1 else 0) := by
    unfold Builtin.Range.rangeSize
    rw [if_pos (show c > 0 by omega)]
  have b1 : (if i < j then (j - i - 1) / c + 1 else 0) ≤ 2000000 := by
    split
    · have : (j - i - 1) / c ≤ j - i - 1 := Int.ediv_le_self _ (by omega)
      omega
    · omega
  have b2 : 0 ≤ (if i < j then (j - i - 1) / c + 1 else 0) := by
    split
    · have : 0 ≤ (j - i - 1) / c := Int.ediv_nonneg (by omega) (by omega)
      omega
    · omega
  refine ⟨?_, e, b1, b2⟩
  unfold Builtin.Range.small
  rw [e]
  generalize (if i < j then (j - i - 1) / c + 1 else 0) = n at b1 b2
  have m1 : n * c ≤ 2000000 * 1000000 := Int.mul_le_mul b1 h1 (by omega) (by omega)
  have m2 : 0 ≤ n * c := Int.mul_nonneg b2 (by omega)
  simp only [Builtin.Range.rangeFitsLong, Bool.and_eq_true, Bool.or_eq_true, decide_eq_true_eq, beq_iff_eq, show c > 0 by omega, if_true]
  omega
/-- range(a, b, c), the object -/
theorem rg3_run {pins : List (Addr × Obj)} {s : Shared} {σ : L2.St} {H : Hp} {ta : TA} {Q : Int → Int → Int → Hp → Prop} (hg : Gl X "range") (hm : X.mg "range" = none) (ha : PA X [a, b, c] ta) (I : Inv X pins σ H s)
    (q : ta σ H fun vs H1 => ∃ i j k : Int, vs = [.int i, .int j, .int k] ∧ k ≠ 0 ∧ k.natAbs < 1073741824 ∧ Q i j k H1)
    (hs : starEach [a, b, c] X.env = (false, eval a X.env) :: starEach [b, c] X.env) (hpl : (backTo pos (starEach [b, c] X.env)).any (·.1) = false) :
    wpAny (model X.prog X.w) X.A (eval (.Call (.Name "range" p) [a, b, c] [] pos) X.env) (fun x s' => ∃ r i j k t u v H', x = .ref r ∧ IsRange s'.heap r i j k t u v ∧ Inv X pins σ H' s' ∧ Q i j k H') X.xe s := by
  refine Call_ (ld_blt I hg hm PyProof.Rows.boot_range (PyProof.Rows.callWith_type1 (thn (ha.run pos pins s σ H _ I q) fun us s1 ⟨vs, H1, I1, r1, q1⟩ => ?_) hs hpl))
  obtain ⟨i, j, k, e, c0, c1, q⟩ := q1
  subst e
  cases r1 with
  | cons r rr =>
    cases rr with
    | cons r' rr =>
      cases rr with
      | cons r'' rr =>
        cases rr
        obtain ⟨t, rfl⟩ := r
        obtain ⟨t', rfl⟩ := r'
        obtain ⟨t'', rfl⟩ := r''
        refine call_range_3 c0 ?_ (.inl (PyProof.noPylong_small c1))
        exact ⟨_, i, j, k, t, t', t'', H1, rfl, IsRange.new _ _ _ _ _ _ _, I1.kept (t' := s1.toks) (fun b o e => Heap.get?_push_of_some _ e), q⟩
theorem px_tupRg3 (hc : X.calm = true) (hg : Gl X "tuple") (hm : X.mg "tuple" = none) (hg2 : Gl X "range") (hm2 : X.mg "range" = none) (ha : PXs X [a, b, c] [f, g, h])
    (hs : starEach [a, b, c] X.env = (false, eval a X.env) :: starEach [b, c] X.env := by rfl) (hpl : (backTo q (starEach [b, c] X.env)).any (·.1) = false := by rfl)
    (nb : starEach [Expr.Call (.Name "range" p2) [a, b, c] [] q] X.env = (false, eval (.Call (.Name "range" p2) [a, b, c] [] q) X.env) :: starEach [] X.env := by rfl) : PX X (.Call (.Name "tuple" p) [.Call (.Name "range" p2) [a, b, c] [] q] [] pos) (cTupRg3 f g h) := by
  refine ⟨fun pins s σ H Q I qq => ?_⟩
  obtain ⟨B, Gb, G, env, W, d, k, W', S, e, cc⟩ := qq
  unfold cTupRg3 at e
  split at e
  · rename_i i k1 W1 e1
    split at e
    · rename_i j k2 W2 e2
      split at e
      · rename_i st k3 W3 e3
        split at e
        · rename_i hb
          cases e
          obtain ⟨b1, b2, b3, b4, b5, b6⟩ := hb
          obtain ⟨m1, m2, m3, m4⟩ := small_up b1 b2 b3 b4 b5 b6
          refine Call_ (ld_blt I hg hm PyProof.Rows.boot_tuple (PyProof.Rows.callWith_type1 (PyProof.Rows.args_cons (thn (rg3_run (Q := fun i' j' k' H1 => i' = i ∧ j' = j ∧ k' = st ∧ ∃ G1, Same G G1 ∧ Sta X.K B Gb G1 H1 σ env W') hg2 hm2 ha I ⟨B, Gb, G, env, W, [(.int i, k1), (.int j, k2), (.int st, k3)], W', S, by simp only [cArgs, e1, e2, e3, Option.bind_some, Option.map_some], fun vs G1 H1 s1 S1 p1 => ?_⟩ hs hpl) fun x s1 ⟨r, i', j', k', t, u, v, H1, ex, hr, I1, qe⟩ => PyProof.Rows.args_nil ?_) nb) nb rfl))
          · match vs, p1 with
            | [v, v', v''], p1 =>
              obtain rfl := p1.1.int S1
              obtain rfl := p1.2.2.1.int S1
              obtain rfl := p1.2.2.2.2.1.int S1
              exact ⟨i, j, st, rfl, by omega, by omega, rfl, rfl, rfl, G1, s1, S1⟩
          · subst ex
            obtain ⟨rfl, rfl, rfl, G1, t1, S1⟩ := qe
            generalize hn : (if i' < j' then (j' - i' - 1) / k' + 1 else 0) = n at m2 m3 m4 cc
            have hnn : (n.toNat : Int) = n := Int.toNat_of_nonneg m4
            refine call_tuple_range (n := n.toNat) (I1.ok.hd hc) hr m1 (by rw [m2, hnn]) (by omega) fun h' tk acc hk hi => ?_
            have I2 : Inv X pins σ H1 { s1 with heap := h', toks := tk } := I1.kept hk
            have hfr := I2.hok.fresh (Nat.le_refl _)
            refine ⟨.ref h'.objs.size, upd H1 h'.objs.size (.tup ((List.range n.toNat).map fun z => V.int (i' + (z : Nat) * k'))), I2.laid (t' := tk) (fun c o e => Heap.get?_push_of_some _ e) (Nat.le_refl _) (show ObjOk X.prog X.w _ _ _ (.tup _) from ⟨?_, acc.toList, vals_rgC hi, ?_⟩), rfl, (cc.sub t1).tup S1 hfr ?_⟩
            · rw [List.length_map, List.length_range, sizeLine_eq]; omega
            · rw [Array.toArray_toList]; exact IsTup.new _ _
            · have : ∀ l : List Nat, RpL X.K G1 (l.map fun (z : Nat) => V.int (i' + (z : Nat) * k')) (l.map fun (z : Nat) => PyData.int (i' + (z : Nat) * k')) := by
                intro l
                induction l with
                | nil => exact .nil
                | cons x r ih => exact .cons (.int _) ih
              exact this _
        · cases e
      · cases e
    · cases e
  · cases e
end
end PX

namespace PX
open PySem PySem.Spec PyProof.Rows L2
theorem room_64 {k : Nat} {A : Around} (r : Room k A) : A.units + 64 < cLine := by have := r.un; omega
theorem room_1 {k : Nat} {A : Around} (r : Room k A) : A.units + 1 < cLine := by have := r.un; omega
/-- a def of the text that may be called -/
structure Cal (P : Program) (w : World) (K : PySem.W.Frag) (mg : Str → Option Value) (base : Heap) (x : Str) (k : Nat) (ps : List Str) (sp : Sp) : Prop where
  ex : ∃ fa fd, FnOk P w K mg base CX0 k fa fd ps sp ∧ mg x = some (.ref fa) ∧ PySem.W.keepIn K (.ref fa) = true ∧ Binds K fd ps []
section
variable {X : Cx} {e : Expr} {es : List Expr} {f g : Ex} {fs : List Ex} {pos p : Pos}
theorem px_fnC {k j n : Nat} {x : Str} {F : List PyData → Option PyData} {ps : List Str} (C : Cal X.prog X.w X.K X.mg X.base x k ps (spF X.K n F)) (hr : Room j X.A) (ha : PXs X (e :: es) fs) (hn : (e :: es).length = n := by rfl) (hj : k ≤ j := by decide) (hg : Gl X x := by rfl) (hdb : (x == ("__debug__" : Str)) = false := by decide)
    (he : starEach (e :: es) X.env = (false, eval e X.env) :: starEach es X.env := by rfl) (hpl : (backTo pos (starEach es X.env)).any (·.1) = false := by rfl) (hl : fs.length = n := by rfl) : PX X (.Call (.Name x p) (e :: es) [] pos) (cFn F fs) := by
  obtain ⟨fa, fd, h1, h2, h3, h4⟩ := C.ex
  exact px_fn h1 (hr.mono hj) hg h2 h3 h4 ha hn hdb he hpl hl
theorem px_nextC {k j : Nat} {e1 e2 : Expr} (i : Nat) (C : Cal X.prog X.w X.K X.mg X.base "_law_next" k ["w", "many"] (spNext X.K)) (hr : Room j X.A) (hw : PE X e1 (tVar i)) (ha : PX X e2 g) (hj : k ≤ j := by decide) (hg : Gl X "_law_next" := by rfl)
    (he : starEach [e1, e2] X.env = (false, eval e1 X.env) :: starEach [e2] X.env := by rfl) (he2 : starEach [e2] X.env = (false, eval e2 X.env) :: starEach [] X.env := by rfl) (hpl : (backTo pos (starEach [e2] X.env)).any (·.1) = false := by rfl) : PX X (.Call (.Name "_law_next" p) [e1, e2] [] pos) (cNext i g) := by
  obtain ⟨fa, fd, h1, h2, h3, h4⟩ := C.ex
  exact px_next i h1 (hr.mono hj) hg h2 h3 h4 hw ha he he2 hpl
end
end PX

namespace PX
open PySem PySem.Spec PyProof.Rows L2
/-! ### loops, plainly -/
theorem forL_inv {t : Tg} {g : Sx} {W : List Int} (I : Nat → SEnv → Prop) : ∀ (ds : List PyData) (j : Nat) (env : SEnv), I j env → (∀ i d env, ds[i]? = some d → I (j + i) env → ∃ e1, t d env = some e1 ∧ ∃ e2, g e1 W = some (.nx e2 W) ∧ I (j + i + 1) e2) → ∃ env', forL t g ds env W = some (.nx env' W) ∧ I (j + ds.length) env'
  | [], j, env, h, _ => ⟨env, rfl, h⟩
  | d :: ds, j, env, h, st => by
    obtain ⟨e1, h1, e2, h2, h3⟩ := st 0 d env rfl h
    obtain ⟨e', h4, h5⟩ := forL_inv I ds (j + 1) e2 h3 fun i d env hd hi => by
      have e : j + (i + 1) = j + 1 + i := by omega
      have := st (i + 1) d env (by simpa using hd) (by rw [e]; exact hi)
      rw [e] at this
      exact this
    refine ⟨e', ?_, ?_⟩
    · simp only [forL, h1, Option.bind_some, h2]
      exact h4
    · have e : j + (d :: ds).length = j + 1 + ds.length := by rw [List.length_cons]; omega
      rw [e]
      exact h5
def gDraws : Sx := sSeq (sSet 2 true (cCall oLst [])) (sSeq (sSet 3 false (cK (.int 7))) (sSeq (sFor (iR1 (cScLen 0)) (gN 4) (sSeq (sSet 5 false (cCall oAbs [cCall oInt [cScAt 0 (cVar 4)]])) (sSeq (sSet 3 false (cCall oMod [cCall oInt [cCall oAdd [cCall oAdd [cCall oMul [cVar 3, cK (.int 48271)], cCall oMod [cVar 5, cK (.int 1000003)]], cVar 4]], cK (.int 65537)])) (sSeq (sSet 6 false (cK (.int 0))) (sSeq (sIf (bOf (cCall oGe [cVar 5, cCall oPow [cK (.int 10), cK (.int 18)]])) (sSeq (sSet 6 false (cVar 5)) (sNil)) (sSeq (sApp 2 (cCall oMod [cCall oInt [cVar 5], cK (.int 997)])) (sSeq (sApp 2 (cCall oMod [cCall oMod [cCall oInt [cCall oAdd [cCall oMul [cVar 3, cK (.int 69621)], cK (.int 5)]], cK (.int 65521)], cK (.int 997)])) (sNil)))) (sSeq (sFor (iR1 (cK (.int 60))) (gN 7) (sSeq (sIf (bOf (cCall oGt [cVar 6, cK (.int 0)])) (sSeq (sApp 2 (cCall oMod [cCall oInt [cVar 6], cK (.int 997)])) (sSeq (sSet 6 false (cCall oDiv [cVar 6, cK (.int 997)])) (sNil))) (sNil)) (sNil))) (sWipe [7] (sNil)))))))) (sWipe [5, 6, 7] (sSeq (sFor (iR1 (cVar 1)) (gN 4) (sSeq (sSet 3 false (cCall oMod [cCall oInt [cCall oAdd [cCall oAdd [cCall oMul [cVar 3, cK (.int 16807)], cVar 4], cK (.int 1)]], cK (.int 65537)])) (sSeq (sApp 2 (cCall oMod [cCall oInt [cVar 3], cK (.int 997)])) (sNil)))) (sSeq (sRetK (cSlice (cVar 2) none (some (cVar 1)))) (sNil))))))
def drB (n : Nat) (ds : List Int) : Prop := ds.length ≤ n ∧ ∀ x ∈ ds, 0 ≤ x ∧ x < 997
theorem drB.app {n : Nat} {ds : List Int} {x : Int} (h : drB n ds) (h0 : 0 ≤ x) (h1 : x < 997) : drB (n + 1) (ds ++ [x]) := by
  refine ⟨by rw [List.length_append]; have := h.1; show ds.length + 1 ≤ n + 1; omega, fun y hy => ?_⟩
  rcases List.mem_append.mp hy with e | e
  · exact h.2 y e
  · rw [List.mem_singleton.mp e]; exact ⟨h0, h1⟩
theorem drB.mono {n m : Nat} {ds : List Int} (h : drB n ds) (e : n ≤ m) : drB m ds := ⟨Nat.le_trans h.1 e, h.2⟩
theorem fmod_rng (a b : Int) (h : 0 < b) : 0 ≤ a.fmod b ∧ a.fmod b < b := by
  rw [Int.fmod_eq_emod_of_nonneg a (by omega)]
  exact ⟨Int.emod_nonneg _ (by omega), Int.emod_lt_of_pos _ h⟩
/-- the draws' state -/
def dEnv (ns : List Int) (many : Int) (ds : List Int) (m : Int) (s4 s5 s6 s7 : Sl) : SEnv := [.sc ns, .pl (.int many), .ow (.list (ds.map PyData.int)), .pl (.int m), s4, s5, s6, s7]
theorem dr_loop2 (ns : List Int) (many m : Int) (s4 s5 : Sl) (W : List Int) (n : Nat) (hn : n ≤ 1000000) (ds : List Int) (r : Int) (s7 : Sl) (h : drB n ds) :
    ∃ ds' r' s7', forL (gN 7) (sSeq (sIf (bOf (cCall oGt [cVar 6, cK (.int 0)])) (sSeq (sApp 2 (cCall oMod [cCall oInt [cVar 6], cK (.int 997)])) (sSeq (sSet 6 false (cCall oDiv [cVar 6, cK (.int 997)])) (sNil))) (sNil)) (sNil)) (rgI 0 60) (dEnv ns many ds m s4 s5 (.pl (.int r)) s7) W = some (.nx (dEnv ns many ds' m s4 s5 (.pl (.int r')) s7') W) ∧ drB (n + 60) ds' := by
  obtain ⟨e', h1, ds', r', s7', h2, h3⟩ := forL_inv (t := gN 7) (g := sSeq (sIf (bOf (cCall oGt [cVar 6, cK (.int 0)])) (sSeq (sApp 2 (cCall oMod [cCall oInt [cVar 6], cK (.int 997)])) (sSeq (sSet 6 false (cCall oDiv [cVar 6, cK (.int 997)])) (sNil))) (sNil)) (sNil)) (W := W) (fun i env => ∃ ds' r' s7', env = dEnv ns many ds' m s4 s5 (.pl (.int r')) s7' ∧ drB (n + i) ds') (rgI 0 60) 0 (dEnv ns many ds m s4 s5 (.pl (.int r)) s7) ⟨ds, r, s7, rfl, h⟩ (fun i d env hd hi => by
    obtain ⟨ds', r', s7', rfl, hb⟩ := hi
    have hi60 : i < 60 := by
      have := (List.getElem?_eq_some_iff.mp hd).1
      simpa [rgI] using this
    refine ⟨dEnv ns many ds' m s4 s5 (.pl (.int r')) (.pl d), rfl, ?_⟩
    have hl : ds'.length < 16777216 := by have := hb.1; omega
    have fm := fmod_rng r' 997 (by decide)
    by_cases hr : 0 < r'
    · refine ⟨dEnv ns many (ds' ++ [r'.fmod 997]) m s4 s5 (.pl (.int (r'.fdiv 997))) (.pl d), ?_, _, _, _, rfl, hb.app fm.1 fm.2⟩
      simp [dEnv, sSeq, sIf, bOf, cCall, cArgs, cVar, cK, oGt, hr, sApp, oMod, oInt, esc, hl, sSet, oDiv, sNil]
    · refine ⟨dEnv ns many ds' m s4 s5 (.pl (.int r')) (.pl d), ?_, _, _, _, rfl, hb.mono (by omega)⟩
      simp [dEnv, sSeq, sIf, bOf, cCall, cArgs, cVar, cK, oGt, hr, sNil])
  refine ⟨ds', r', s7', by rw [h1, h2], ?_⟩
  have e : (rgI 0 60).length = 60 := by simp [rgI]
  rw [e, Nat.zero_add] at h3
  exact h3
theorem rgI_get {lo : Int} {n i : Nat} {d : PyData} (h : (rgI lo n)[i]? = some d) : i < n ∧ d = .int (lo + i) := by
  unfold rgI at h
  rw [List.getElem?_map, Option.map_eq_some_iff] at h
  obtain ⟨j, h1, h2⟩ := h
  have hi := (List.getElem?_eq_some_iff.mp h1).1
  rw [List.length_range] at hi
  rw [List.getElem?_range hi] at h1
  cases h1
  rw [Int.mul_one] at h2
  exact ⟨hi, h2.symm⟩
theorem rgI_len (lo : Int) (n : Nat) : (rgI lo n).length = n := by simp [rgI]
theorem script_at {ns : List Int} {i : Nat} (h : i < ns.length) : L2.atI ns (0 + (i : Nat)) = some ns[i] := by
  rw [Int.zero_add]
  exact atI_nat (by rw [List.getElem?_eq_getElem h])
def gDr2 : Sx := sSeq (sIf (bOf (cCall oGt [cVar 6, cK (.int 0)])) (sSeq (sApp 2 (cCall oMod [cCall oInt [cVar 6], cK (.int 997)])) (sSeq (sSet 6 false (cCall oDiv [cVar 6, cK (.int 997)])) (sNil))) (sNil)) (sNil)
def gDr1 : Sx := sSeq (sSet 5 false (cCall oAbs [cCall oInt [cScAt 0 (cVar 4)]])) (sSeq (sSet 3 false (cCall oMod [cCall oInt [cCall oAdd [cCall oAdd [cCall oMul [cVar 3, cK (.int 48271)], cCall oMod [cVar 5, cK (.int 1000003)]], cVar 4]], cK (.int 65537)])) (sSeq (sSet 6 false (cK (.int 0))) (sSeq (sIf (bOf (cCall oGe [cVar 5, cCall oPow [cK (.int 10), cK (.int 18)]])) (sSeq (sSet 6 false (cVar 5)) (sNil)) (sSeq (sApp 2 (cCall oMod [cCall oInt [cVar 5], cK (.int 997)])) (sSeq (sApp 2 (cCall oMod [cCall oMod [cCall oInt [cCall oAdd [cCall oMul [cVar 3, cK (.int 69621)], cK (.int 5)]], cK (.int 65521)], cK (.int 997)])) (sNil)))) (sSeq (sFor (iR1 (cK (.int 60))) (gN 7) gDr2) (sWipe [7] (sNil))))))
def gDr3 : Sx := sSeq (sSet 3 false (cCall oMod [cCall oInt [cCall oAdd [cCall oAdd [cCall oMul [cVar 3, cK (.int 16807)], cVar 4], cK (.int 1)]], cK (.int 65537)])) (sSeq (sApp 2 (cCall oMod [cCall oInt [cVar 3], cK (.int 997)])) (sNil))
theorem gDraws_eq : gDraws = sSeq (sSet 2 true (cCall oLst [])) (sSeq (sSet 3 false (cK (.int 7))) (sSeq (sFor (iR1 (cScLen 0)) (gN 4) gDr1) (sWipe [5, 6, 7] (sSeq (sFor (iR1 (cVar 1)) (gN 4) gDr3) (sSeq (sRetK (cSlice (cVar 2) none (some (cVar 1)))) (sNil)))))) := rfl
theorem pow18 : (10:Int)^(18:Nat) = 1000000000000000000 := by
  have : (10 : Int) ^ 18 = ((10 ^ 18 : Nat) : Int) := by rw [Int.natCast_pow]; rfl
  rw [this]
  exact congrArg Int.ofNat (show 10 ^ 18 = 1000000000000000000 by decide)
theorem oPow_e (k k' : Kd) : oPow [(.int 10, k), (.int 18, k')] = some (.int 1000000000000000000, .im) := by
  unfold oPow
  dsimp only
  rw [if_pos (by decide)]
  rw [show (18 : Int).toNat = 18 from rfl, pow18]
theorem sSeq_nx {f g : Sx} {env e' : SEnv} {W W' : List Int} (h : f env W = some (.nx e' W')) : sSeq f g env W = g e' W' := by unfold sSeq; rw [h]
theorem oMul_e (a b : Int) (k k' : Kd) (h : b.natAbs < 18446744073709551616) : oMul [(.int a, k), (.int b, k')] = some (.int (a * b), .im) := by
  unfold oMul mulOk
  dsimp only
  rw [if_pos (by rw [Bool.or_eq_true]; exact .inr (decide_eq_true h))]
theorem dr_turn (ns : List Int) (many m : Int) (i : Nat) (z x : Int) (hat : L2.atI ns z = some x) (hi : i < 1000) (s5 s6 s7 : Sl) (ds : List Int) (h : drB (62 * i) ds) (W : List Int) :
    ∃ ds' m' s5' s6', gDr1 (dEnv ns many ds m (.pl (.int z)) s5 s6 s7) W = some (.nx (dEnv ns many ds' m' (.pl (.int z)) s5' s6' .no) W) ∧ drB (62 * (i + 1)) ds' := by
  have hl : ds.length < 16777216 := by have := h.1; omega
  have hl2 : ds.length + 1 < 16777216 := by have := h.1; omega
  generalize hc : (if x < 0 then -x else x) = c
  generalize hm : ((m * 48271 + c.fmod 1000003 + z).fmod 65537) = m'
  have q1 := fmod_rng c 997 (by decide)
  have q2 := fmod_rng ((m' * 69621 + 5).fmod 65521) 997 (by decide)
  have a1 : sSet 5 false (cCall oAbs [cCall oInt [cScAt 0 (cVar 4)]]) (dEnv ns many ds m (.pl (.int z)) s5 s6 s7) W = some (.nx (dEnv ns many ds m (.pl (.int z)) (.pl (.int c)) s6 s7) W) := by
    simp [dEnv, sSet, cCall, cArgs, cVar, oAbs, oInt, cScAt, hat, hc]
  have a2 : sSet 3 false (cCall oMod [cCall oInt [cCall oAdd [cCall oAdd [cCall oMul [cVar 3, cK (.int 48271)], cCall oMod [cVar 5, cK (.int 1000003)]], cVar 4]], cK (.int 65537)]) (dEnv ns many ds m (.pl (.int z)) (.pl (.int c)) s6 s7) W = some (.nx (dEnv ns many ds m' (.pl (.int z)) (.pl (.int c)) s6 s7) W) := by
    simp [dEnv, sSet, cCall, cArgs, cVar, cK, oMul_e _ 48271 _ _ (by decide), oAdd, oMod, oInt, hm]
  have a3 : sSet 6 false (cK (.int 0)) (dEnv ns many ds m' (.pl (.int z)) (.pl (.int c)) s6 s7) W = some (.nx (dEnv ns many ds m' (.pl (.int z)) (.pl (.int c)) (.pl (.int 0)) s7) W) := by
    simp [dEnv, sSet, cK]
  have af : ∀ ds r s7', sFor (iR1 (cK (.int 60))) (gN 7) gDr2 (dEnv ns many ds m' (.pl (.int z)) (.pl (.int c)) (.pl (.int r)) s7') W = forL (gN 7) gDr2 (rgI 0 60) (dEnv ns many ds m' (.pl (.int z)) (.pl (.int c)) (.pl (.int r)) s7') W := fun ds r s7' => by
    have e : iR1 (cK (.int 60)) (dEnv ns many ds m' (.pl (.int z)) (.pl (.int c)) (.pl (.int r)) s7') W = some (rgI 0 60, .im, W) := by
      unfold iR1 cK
      dsimp only
      rw [if_pos (by decide)]
      rfl
    unfold sFor
    rw [e]
    rfl
  have aw : ∀ ds r s7', sWipe [7] sNil (dEnv ns many ds m' (.pl (.int z)) (.pl (.int c)) (.pl (.int r)) s7') W = some (.nx (dEnv ns many ds m' (.pl (.int z)) (.pl (.int c)) (.pl (.int r)) .no) W) := fun _ _ _ => rfl
  have ap : ∀ env, cCall oPow [cK (.int 10), cK (.int 18)] env W = some (.int 1000000000000000000, .im, W) := fun env => by
    simp only [cCall, cArgs, cK, Option.bind_some, Option.map_some, oPow_e]
  unfold gDr1
  rw [sSeq_nx a1, sSeq_nx a2, sSeq_nx a3]
  generalize (1000000000000000000 : Int) = B at ap
  generalize hP : cCall oPow [cK (.int 10), cK (.int 18)] = P at ap
  by_cases hb : B ≤ c
  · obtain ⟨ds', r', s7', e1, e2⟩ := dr_loop2 ns many m' (.pl (.int z)) (.pl (.int c)) W (62 * i) (by omega) ds c s7 h
    refine ⟨ds', m', .pl (.int c), .pl (.int r'), ?_, e2.mono (by omega)⟩
    have a4 : ∀ g : Sx, sIf (bOf (cCall oGe [cVar 5, P])) (sSeq (sSet 6 false (cVar 5)) (sNil)) g (dEnv ns many ds m' (.pl (.int z)) (.pl (.int c)) (.pl (.int 0)) s7) W = some (.nx (dEnv ns many ds m' (.pl (.int z)) (.pl (.int c)) (.pl (.int c)) s7) W) := fun g => by
      simp [dEnv, sIf, bOf, cCall, cArgs, cVar, ap, oGe, hb, sSeq, sSet, sNil]
    rw [sSeq_nx (a4 _), sSeq_nx ((af _ _ _).trans e1), aw]
  · obtain ⟨ds', r', s7', e1, e2⟩ := dr_loop2 ns many m' (.pl (.int z)) (.pl (.int c)) W (62 * i + 1 + 1) (by omega) ((ds ++ [c.fmod 997]) ++ [((m' * 69621 + 5).fmod 65521).fmod 997]) 0 s7 ((h.app q1.1 q1.2).app q2.1 q2.2)
    refine ⟨ds', m', .pl (.int c), .pl (.int r'), ?_, e2.mono (by omega)⟩
    have a4 : ∀ f : Sx, sIf (bOf (cCall oGe [cVar 5, P])) f (sSeq (sApp 2 (cCall oMod [cCall oInt [cVar 5], cK (.int 997)])) (sSeq (sApp 2 (cCall oMod [cCall oMod [cCall oInt [cCall oAdd [cCall oMul [cVar 3, cK (.int 69621)], cK (.int 5)]], cK (.int 65521)], cK (.int 997)])) (sNil))) (dEnv ns many ds m' (.pl (.int z)) (.pl (.int c)) (.pl (.int 0)) s7) W = some (.nx (dEnv ns many ((ds ++ [c.fmod 997]) ++ [((m' * 69621 + 5).fmod 65521).fmod 997]) m' (.pl (.int z)) (.pl (.int c)) (.pl (.int 0)) s7) W) := fun f => by
      simp [dEnv, sIf, bOf, cCall, cArgs, cVar, ap, oGe, hb, sSeq, sApp, cK, oMod, oInt, oMul_e _ 69621 _ _ (by decide), oAdd, esc, hl, hl2, sNil]
    rw [sSeq_nx (a4 _), sSeq_nx ((af _ _ _).trans e1), aw]
theorem draws_ok (many : Int) (h0 : 0 ≤ many) (h1 : many ≤ 1000) (ns : List Int) (hn : ns.length ≤ 63) : ∃ ds W', gDraws (envS 8 ns many) [] = some (.rt (.list (ds.map PyData.int)) W') ∧ drOk ds := by
  rw [gDraws_eq]
  obtain ⟨e1, h2, ds1, m1, a4, a5, a6, rfl, h3⟩ := forL_inv (t := gN 4) (g := gDr1) (W := []) (fun i env => ∃ ds m s4 s5 s6, env = dEnv ns many ds m s4 s5 s6 .no ∧ drB (62 * i) ds) (rgI 0 ns.length) 0 (dEnv ns many [] 7 .no .no .no .no) ⟨[], 7, .no, .no, .no, rfl, ⟨Nat.le_refl _, fun x hx => by simp at hx⟩⟩ (fun i d env hd hi => by
    obtain ⟨ds, m, s4, s5, s6, rfl, hb⟩ := hi
    obtain ⟨hi, rfl⟩ := rgI_get hd
    rw [Nat.zero_add] at hb
    obtain ⟨ds', m', s5', s6', e1, e2⟩ := dr_turn ns many m i (0 + i) ns[i] (script_at hi) (by omega) s5 s6 .no ds hb []
    exact ⟨_, rfl, _, e1, ds', m', _, s5', s6', rfl, by rw [Nat.zero_add]; exact e2⟩)
  rw [rgI_len, Nat.zero_add] at h3
  obtain ⟨e2, h4, ds2, m2, b4, rfl, h5, h6⟩ := forL_inv (t := gN 4) (g := gDr3) (W := []) (fun i env => ∃ ds m s4, env = dEnv ns many ds m s4 .no .no .no ∧ drB (62 * ns.length + i) ds ∧ i ≤ ds.length) (rgI 0 many.toNat) 0 (dEnv ns many ds1 m1 a4 .no .no .no) ⟨ds1, m1, a4, rfl, h3, Nat.zero_le _⟩ (fun i d env hd hi => by
    obtain ⟨ds, m, s4, rfl, hb, hle⟩ := hi
    obtain ⟨hi, rfl⟩ := rgI_get hd
    rw [Nat.zero_add] at hb hle
    have hl : ds.length < 16777216 := by have := hb.1; omega
    generalize (0 : Int) + (i : Nat) = z
    have q1 := fmod_rng ((m * 16807 + z + 1).fmod 65537) 997 (by decide)
    refine ⟨_, rfl, dEnv ns many (ds ++ [((m * 16807 + z + 1).fmod 65537).fmod 997]) ((m * 16807 + z + 1).fmod 65537) (.pl (.int z)) .no .no .no, ?_, _, _, _, rfl, ?_, ?_⟩
    · simp [gDr3, gN, dEnv, sSeq, cCall, cArgs, cVar, cK, oMul, mulOk, oAdd, oInt, oMod, sSet, sApp, esc, hl, sNil]
    · rw [Nat.zero_add]; exact hb.app q1.1 q1.2
    · rw [Nat.zero_add, List.length_append]; show i + 1 ≤ ds.length + 1; omega)
  refine ⟨ds2.take many.toNat, [], ?_, ?_⟩
  · have hn' : ns.length ≤ 1000 := by omega
    have hm1 : many ≤ 1000000 := by omega
    have hm2 : -1000000 ≤ many := by omega
    have e1 : sFor (iR1 (cScLen 0)) (gN 4) gDr1 [Sl.sc ns, Sl.pl (.int many), Sl.ow (.list []), Sl.pl (.int 7), Sl.no, Sl.no, Sl.no, Sl.no] [] = some (.nx (dEnv ns many ds1 m1 a4 a5 a6 .no) []) := by
      have e : iR1 (cScLen 0) [Sl.sc ns, Sl.pl (.int many), Sl.ow (.list []), Sl.pl (.int 7), Sl.no, Sl.no, Sl.no, Sl.no] [] = some (rgI 0 ns.length, .im, []) := by
        unfold iR1 cScLen
        simp only [List.getElem?_cons_zero, hn', if_true]
        rw [if_pos (by omega)]
        simp
      unfold sFor
      rw [e]
      exact h2
    have e2 : sFor (iR1 (cVar 1)) (gN 4) gDr3 (dEnv ns many ds1 m1 a4 .no .no .no) [] = some (.nx (dEnv ns many ds2 m2 b4 .no .no .no) []) := by
      have e : iR1 (cVar 1) (dEnv ns many ds1 m1 a4 .no .no .no) [] = some (rgI 0 many.toNat, .im, []) := by
        simp [iR1, cVar, dEnv, hm1, hm2]
      unfold sFor
      rw [e]
      exact h4
    have hcut : cutD (ds2.map PyData.int) none (some many) = (ds2.take many.toNat).map PyData.int := by
      unfold cutD
      have e3 : HT.sIx (ds2.map PyData.int).length 0 none = 0 := by simp [HT.sIx_none]
      have e4 : HT.sIx (ds2.map PyData.int).length (ds2.map PyData.int).length (some many) = min many.toNat ds2.length := by
        have := HT.sIx_nat (ds2.map PyData.int).length (ds2.map PyData.int).length many.toNat
        rw [Int.toNat_of_nonneg h0] at this
        rw [this, List.length_map]
      rw [e3, e4, List.drop_zero, Nat.sub_zero, List.map_take]
      rw [List.length_map] at *
      rw [Nat.min_eq_left (by rw [rgI_len, Nat.zero_add] at h6; exact h6)]
    show sSeq _ _ [Sl.sc ns, Sl.pl (.int many), .no, .no, .no, .no, .no, .no] [] = _
    simp only [sSeq, sSet, cCall, cArgs, oLst, cK, Option.bind_some, Option.map_some, List.all_nil, List.length_nil, List.map_nil, Bool.true_and, decide_true, if_true, Nat.zero_le, List.set_cons_succ, List.set_cons_zero, e1]
    simp only [sWipe, wipeE, dEnv, List.set_cons_succ, List.set_cons_zero]
    simp only [dEnv] at e2
    simp only [sSeq, e2]
    simp [sRetK, cSlice, part, cVar, oSl, hcut]
  · rw [rgI_len, Nat.zero_add] at h5
    refine ⟨by rw [List.length_take]; omega, fun x hx => h5.2 x (List.mem_of_mem_take hx)⟩
end PX

namespace PX
open PySem PySem.Spec PyProof.Rows L2
/-! ### typed data -/
abbrev D {α : Type} [DecidableEq α] [PySem.W.Datum α] (a : α) : PyData := PySem.W.Datum.toD a
abbrev T (ns : List Int) : PyData := .tuple (ns.map PyData.int)
abbrev I (ns : List Int) : List PyData := ns.map PyData.int
mutual
theorem noD_plain : ∀ (d : PyData), d.plain = true → noD d = true
  | .none, _ => rfl
  | .bool _, _ => rfl
  | .int _, _ => rfl
  | .str _, _ => rfl
  | .list xs, h => by rw [noD]; exact noDs_plain xs (by simpa only [PyData.plain] using h)
  | .tuple xs, h => by rw [noD]; exact noDs_plain xs (by simpa only [PyData.plain] using h)
  | .dict _, h => by simp [PyData.plain] at h
theorem noDs_plain : ∀ (d : List PyData), PyData.plainAll d = true → noDs d = true
  | [], _ => rfl
  | x :: xs, h => by
    simp only [PyData.plainAll, Bool.and_eq_true] at h
    rw [noDs, noD_plain x h.1, noDs_plain xs h.2]; rfl
end
section
variable {α : Type} [DecidableEq α] [PySem.W.Datum α]
theorem flat_D (hd : PySem.W.Datum.depth α ≤ 60) (x : α) : flat (D x) = true := by
  unfold flat
  rw [Bool.and_eq_true, decide_eq_true_eq]
  exact ⟨noD_plain _ (PySem.W.Datum.plain x), Nat.le_trans (PySem.W.Datum.depth_le x) hd⟩
theorem flats_D (hd : PySem.W.Datum.depth α ≤ 60) (xs : List α) : (xs.map D).all flat = true := by
  rw [List.all_map]
  exact List.all_eq_true.mpr fun x _ => flat_D hd x
theorem ev_eq (hd : PySem.W.Datum.depth α ≤ 60) (x y : α) (k k' : Kd) : oEq [(D x, k), (D y, k')] = some (.bool (decide (x = y)), .im) := by
  unfold oEq
  dsimp only
  rw [flat_D hd x, flat_D hd y, PySem.W.Datum.eqv]
  rfl
theorem ev_ne (hd : PySem.W.Datum.depth α ≤ 60) (x y : α) (k k' : Kd) : oNe [(D x, k), (D y, k')] = some (.bool (!decide (x = y)), .im) := by
  unfold oNe
  dsimp only
  rw [flat_D hd x, flat_D hd y, PySem.W.Datum.eqv]
  rfl
theorem any_D (xs : List α) (x : α) : ((xs.map D).any fun d => PyData.eqv d (D x)) = decide (x ∈ xs) := PySem.W.any_datum xs x
theorem ev_inL (hd : PySem.W.Datum.depth α ≤ 60) (x : α) (xs : List α) (k k' : Kd) : oIn [(D x, k), (.list (xs.map D), k')] = some (.bool (decide (x ∈ xs)), .im) := by
  unfold oIn
  dsimp only
  rw [flat_D hd x, flats_D hd xs, any_D]
  rfl
theorem ev_inT (hd : PySem.W.Datum.depth α ≤ 60) (x : α) (xs : List α) (k k' : Kd) : oIn [(D x, k), (.tuple (xs.map D), k')] = some (.bool (decide (x ∈ xs)), .im) := by
  unfold oIn
  dsimp only
  rw [flat_D hd x, flats_D hd xs, any_D]
  rfl
theorem ev_niL (hd : PySem.W.Datum.depth α ≤ 60) (x : α) (xs : List α) (k k' : Kd) : oNotIn [(D x, k), (.list (xs.map D), k')] = some (.bool (!decide (x ∈ xs)), .im) := by
  unfold oNotIn
  dsimp only
  rw [flat_D hd x, flats_D hd xs, any_D]
  rfl
theorem ev_niT (hd : PySem.W.Datum.depth α ≤ 60) (x : α) (xs : List α) (k k' : Kd) : oNotIn [(D x, k), (.tuple (xs.map D), k')] = some (.bool (!decide (x ∈ xs)), .im) := by
  unfold oNotIn
  dsimp only
  rw [flat_D hd x, flats_D hd xs, any_D]
  rfl
end
/-- the same datum twice -/
theorem eqv_refl : ∀ d : PyData, noD d = true → PyData.eqv d d = true := fun d h => by
  have : ∀ n (d : PyData), sizeOf d ≤ n → noD d = true → PyData.eqv d d = true := by
    intro n
    induction n with
    | zero => intro d hn; cases d <;> simp at hn
    | succ n ih =>
      have all : ∀ xs : List PyData, sizeOf xs ≤ n → noDs xs = true → PyData.eqvAll xs xs = true := by
        intro xs
        induction xs with
        | nil => intro _ _; simp [PyData.eqvAll]
        | cons x xs ihx =>
          intro hn h
          simp only [noDs, Bool.and_eq_true] at h
          simp only [List.cons.sizeOf_spec] at hn
          rw [PyData.eqvAll, ih x (by omega) h.1, ihx (by omega) h.2]; rfl
      intro d hn h
      cases d with
      | none => simp [PyData.eqv]
      | bool b => simp [PyData.eqv]
      | int i => simp [PyData.eqv]
      | str x => simp [PyData.eqv]
      | list xs => simp only [noD] at h; rw [PyData.eqv]; exact all xs (by simp at hn; omega) h
      | tuple xs => simp only [noD] at h; rw [PyData.eqv]; exact all xs (by simp at hn; omega) h
      | dict es => simp [noD] at h
  exact this (sizeOf d) d (Nat.le_refl _) h
theorem ne_same (d : PyData) (h : flat d = true) (k k' : Kd) : oNe [(d, k), (d, k')] = some (.bool false, .im) := by
  unfold oNe
  dsimp only
  rw [h]
  have h' := h
  unfold flat at h'
  rw [Bool.and_eq_true] at h'
  rw [eqv_refl d h'.1]
  rfl
theorem intsOf_map (ns : List Int) : intsOf (ns.map PyData.int) = some ns := by
  induction ns with
  | nil => rfl
  | cons n r ih => rw [List.map_cons, intsOf, ih]; rfl
theorem ev_sortSetL (ns : List Int) (h : ns.length < 64) (k : Kd) : oSortSet [(.list (ns.map PyData.int), k)] = some (.list ((sortU ns).map PyData.int), .fr) := by
  unfold oSortSet
  dsimp only
  rw [intsOf_map, Option.bind_some, if_pos h]
theorem ev_lenSetT (ns : List Int) (h : ns.length < 1000) (k : Kd) : oLenSet [(.tuple (ns.map PyData.int), k)] = some (.int (sortU ns).length, .im) := by
  unfold oLenSet
  dsimp only
  rw [intsOf_map, Option.bind_some, if_pos h]

/-! ### comprehensions, plainly -/
section
variable {α : Type} {t : Tg} {c : Ct} {e : Ex} {env : SEnv} {W : List Int}
theorem lcL_fm (emb : α → PyData) (p : α → Bool) (r : α → PyData) : ∀ (xs : List α), (∀ a ∈ xs, ∃ e1, t (emb a) env = some e1 ∧ c e1 W = some (p a, W) ∧ (p a = true → ∃ kd, e e1 W = some (r a, kd, W) ∧ esc kd = true)) →
    lcL t c e (xs.map emb) env W = some ((xs.filter p).map r, W)
  | [], _ => rfl
  | a :: xs, h => by
    obtain ⟨e1, h1, h2, h3⟩ := h a (by simp)
    have ih := lcL_fm emb p r xs fun b hb => h b (by simp [hb])
    rw [List.map_cons, lcL, h1, Option.bind_some, h2, Option.bind_some]
    dsimp only
    cases hp : p a with
    | true =>
      obtain ⟨kd, h4, h5⟩ := h3 hp
      rw [if_pos rfl, h4, Option.bind_some]
      dsimp only
      rw [if_pos h5, ih, List.filter_cons_of_pos hp]
      rfl
    | false =>
      rw [if_neg Bool.false_ne_true, ih, List.filter_cons_of_neg (by rw [hp]; exact Bool.false_ne_true)]
theorem lc2L_fm {f1 : Ci} {t1 : Tg} {c1 : Ct} {vs1 : List Nat} (emb : α → PyData) (r : α → List PyData) : ∀ (xs : List α), (∀ a ∈ xs, ∃ e1 ds k, t (emb a) env = some e1 ∧ c e1 W = some (true, W) ∧ f1 e1 W = some (ds, k, W) ∧ kOk vs1 k = true ∧ lcL t1 c1 e ds (wipeE e1 vs1) W = some (r a, W)) →
    lc2L t c f1 t1 c1 e vs1 (xs.map emb) env W = some (xs.flatMap r, W)
  | [], _ => rfl
  | a :: xs, h => by
    obtain ⟨e1, ds, k, h1, h2, h3, h4, h5⟩ := h a (by simp)
    have ih := lc2L_fm emb r xs fun b hb => h b (by simp [hb])
    rw [List.map_cons, lc2L, h1, Option.bind_some, h2, Option.bind_some]
    dsimp only
    rw [if_pos rfl, h3, Option.bind_some]
    dsimp only
    rw [if_pos h4, h5, Option.bind_some, ih]
    rfl
/-- with draws: numbers in a range -/
theorem lcL_draw (emb : α → PyData) (P : Int → Prop) : ∀ (xs : List α) (W : List Int), (∀ a ∈ xs, ∀ W, ∃ e1 x kd W', t (emb a) env = some e1 ∧ c e1 W = some (true, W) ∧ e e1 W = some (.int x, kd, W') ∧ esc kd = true ∧ P x) →
    ∃ (ns : List Int) (W' : List Int), lcL t c e (xs.map emb) env W = some (ns.map PyData.int, W') ∧ ns.length = xs.length ∧ ∀ x ∈ ns, P x
  | [], W, _ => ⟨[], W, rfl, rfl, fun x hx => by simp at hx⟩
  | a :: xs, W, h => by
    obtain ⟨e1, x, kd, W', h1, h2, h3, h4, h5⟩ := h a (by simp) W
    obtain ⟨ns, W2, i1, i2, i3⟩ := lcL_draw emb P xs W' fun b hb => h b (by simp [hb])
    refine ⟨x :: ns, W2, ?_, by rw [List.length_cons, List.length_cons, i2], fun y hy => ?_⟩
    · rw [List.map_cons, lcL, h1, Option.bind_some, h2, Option.bind_some]
      dsimp only
      rw [if_pos rfl, h3, Option.bind_some]
      dsimp only
      rw [if_pos h4, i1]
      rfl
    · rcases List.mem_cons.mp hy with e | e
      · rw [e]; exact h5
      · exact i3 y e
end
theorem next_ok {i : Nat} {f : Ex} {env : SEnv} {W W1 : List Int} {m : Int} {k : Kd} {q : Addr} (hw : env[i]? = some (.wd q)) (hf : f env W = some (.int m, k, W1)) (hm : 0 < m) : ∃ v W', cNext i f env W = some (.int v, .im, W') ∧ 0 ≤ v ∧ v < m := by
  unfold cNext
  rw [hw, hf]
  dsimp only
  rw [if_pos hm]
  cases W1 with
  | nil => exact ⟨0, [], rfl, Int.le_refl _, hm⟩
  | cons x r => exact ⟨x % m, r, rfl, Int.emod_nonneg _ (by omega), Int.emod_lt_of_pos _ hm⟩

/-! ### loops, plainly -/
section
variable {α : Type} {t : Tg} {g : Sx} {W : List Int}
theorem forL_all (emb : α → PyData) (xs : List α) (R : List α → SEnv → Prop) : ∀ (rest done : List α) (env : SEnv), xs = done ++ rest → R done env → (∀ done a rest env, xs = done ++ a :: rest → R done env → ∃ e1 e2, t (emb a) env = some e1 ∧ g e1 W = some (.nx e2 W) ∧ R (done ++ [a]) e2) →
    ∃ e', forL t g (rest.map emb) env W = some (.nx e' W) ∧ R xs e'
  | [], done, env, hx, h, _ => ⟨env, rfl, by rw [hx, List.append_nil]; exact h⟩
  | a :: rest, done, env, hx, h, st => by
    obtain ⟨e1, e2, h1, h2, h3⟩ := st done a rest env hx h
    obtain ⟨e', h4, h5⟩ := forL_all emb xs R rest (done ++ [a]) e2 (by rw [hx, List.append_assoc]; rfl) h3 st
    refine ⟨e', ?_, h5⟩
    simp only [List.map_cons, forL, h1, Option.bind_some, h2]
    exact h4
theorem forL_find (emb : α → PyData) (p : α → Bool) (r : α → PyData) (R : SEnv → Prop) : ∀ (xs : List α) (env : SEnv), R env → (∀ a ∈ xs, ∀ env, R env → ∃ e1, t (emb a) env = some e1 ∧ ((p a = true ∧ g e1 W = some (.rt (r a) W)) ∨ (p a = false ∧ ∃ e2, g e1 W = some (.nx e2 W) ∧ R e2))) →
    (∃ a, xs.find? p = some a ∧ forL t g (xs.map emb) env W = some (.rt (r a) W)) ∨ (xs.find? p = none ∧ ∃ e', forL t g (xs.map emb) env W = some (.nx e' W) ∧ R e')
  | [], env, h, _ => .inr ⟨rfl, env, rfl, h⟩
  | a :: xs, env, h, st => by
    obtain ⟨e1, h1, ⟨hp, h2⟩ | ⟨hp, e2, h2, h3⟩⟩ := st a (by simp) env h
    · refine .inl ⟨a, by rw [List.find?_cons_of_pos hp], ?_⟩
      simp only [List.map_cons, forL, h1, Option.bind_some, h2]
    · have e0 : (a :: xs).find? p = xs.find? p := List.find?_cons_of_neg (by rw [hp]; exact Bool.false_ne_true)
      rcases forL_find emb p r R xs e2 h3 fun b hb => st b (by simp [hb]) with ⟨b, i1, i2⟩ | ⟨i1, e', i2, i3⟩
      · refine .inl ⟨b, by rw [e0]; exact i1, ?_⟩
        simp only [List.map_cons, forL, h1, Option.bind_some, h2]
        exact i2
      · refine .inr ⟨by rw [e0]; exact i1, e', ?_, i3⟩
        simp only [List.map_cons, forL, h1, Option.bind_some, h2]
        exact i2
/-- the draws may go on -/
theorem forL_draw (emb : α → PyData) (R : SEnv → Prop) : ∀ (xs : List α) (env : SEnv) (W : List Int), R env → (∀ a ∈ xs, ∀ env W, R env → ∃ e1 e2 W', t (emb a) env = some e1 ∧ g e1 W = some (.nx e2 W') ∧ R e2) →
    ∃ e' W', forL t g (xs.map emb) env W = some (.nx e' W') ∧ R e'
  | [], env, W, h, _ => ⟨env, W, rfl, h⟩
  | a :: xs, env, W, h, st => by
    obtain ⟨e1, e2, W', h1, h2, h3⟩ := st a (by simp) env W h
    obtain ⟨e', W2, h4, h5⟩ := forL_draw emb R xs e2 W' h3 fun b hb => st b (by simp [hb])
    refine ⟨e', W2, ?_, h5⟩
    simp only [List.map_cons, forL, h1, Option.bind_some, h2]
    exact h4
end
theorem rgI_map (lo : Int) (n : Nat) : rgI lo n = ((List.range n).map fun i : Nat => lo + (i : Int)).map PyData.int := by
  unfold rgI
  rw [List.map_map]
  refine List.map_congr_left fun i _ => ?_
  simp
end PX

namespace PX
open PySem PySem.Spec PyProof.Rows L2
/-! ### sets of sets -/
def comb : Nat → List Int → List (List Int)
  | 0, _ => [[]]
  | _ + 1, [] => []
  | k + 1, x :: r => (comb k r).map (x :: ·) ++ comb (k + 1) r
theorem comb_len : ∀ (k : Nat) (xs : List Int), (comb k xs).length ≤ 2 ^ xs.length
  | 0, xs => by simp only [comb, List.length_singleton]; exact Nat.one_le_two_pow
  | _ + 1, [] => by simp [comb]
  | k + 1, x :: r => by
    have h1 := comb_len k r
    have h2 := comb_len (k + 1) r
    rw [comb, List.length_append, List.length_map, List.length_cons, Nat.pow_succ]
    omega
theorem comb_row : ∀ (k : Nat) (xs row : List Int), row ∈ comb k xs → row.Sublist xs
  | 0, xs, row, h => by
    simp only [comb, List.mem_singleton] at h
    subst h
    exact List.nil_sublist _
  | _ + 1, [], row, h => by simp [comb] at h
  | k + 1, x :: r, row, h => by
    rw [comb, List.mem_append, List.mem_map] at h
    rcases h with ⟨q, hq, rfl⟩ | h
    · exact (comb_row k r q hq).cons₂ x
    · exact (comb_row (k + 1) r row h).cons x
/-- what the loop over i has from the i-th on -/
theorem comb_drop (k : Nat) (xs : List Int) (i : Nat) (h : i < xs.length) : comb (k + 1) (xs.drop i) = (comb k (xs.drop (i + 1))).map (xs[i] :: ·) ++ comb (k + 1) (xs.drop (i + 1)) := by
  rw [List.drop_eq_getElem_cons h, comb]
theorem cutD_from (ds : List PyData) (i : Nat) : PX.cutD ds (some ((i : Int) + 1)) none = ds.drop (i + 1) := by
  unfold PX.cutD
  have e : ((i : Int) + 1) = ((i + 1 : Nat) : Int) := by omega
  rw [e, HT.sIx_nat, HT.sIx_none]
  by_cases h : i + 1 ≤ ds.length
  · rw [Nat.min_eq_left h, List.take_of_length_le (by rw [List.length_drop]; exact Nat.le_refl _)]
  · rw [Nat.min_eq_right (by omega), List.drop_eq_nil_of_le (Nat.le_refl _), List.drop_eq_nil_of_le (by omega)]
    simp
theorem atI_I (xs : List Int) (i : Nat) (h : i < xs.length) : L2.atI (xs.map PyData.int) (i : Int) = some (.int xs[i]) := atI_nat (by rw [List.getElem?_map, List.getElem?_eq_getElem h]; rfl)
theorem evI_eq (a b : Int) (k k' : Kd) : oEq [(.int a, k), (.int b, k')] = some (.bool (decide (a = b)), .im) := ev_eq (α := Int) (by decide) a b k k'
theorem evI_ne (a b : Int) (k k' : Kd) : oNe [(.int a, k), (.int b, k')] = some (.bool (!decide (a = b)), .im) := ev_ne (α := Int) (by decide) a b k k'
theorem runF_eq {n np : Nat} {g : Sx} {ds : List PyData} (h : ds.length = np) : runF n np g ds = outF (g (env0 n ds) []) := if_pos h
/-- all sets, by their sizes -/
def allS (xs : List Int) : List (List Int) := (List.range (xs.length + 1)).flatMap fun k => comb k xs
theorem sum_comb (xs : List Int) : ∀ n, ((List.range n).flatMap fun k => comb k xs).length ≤ 2 ^ xs.length := by
  induction xs with
  | nil =>
    intro n
    induction n with
    | zero => simp
    | succ n ih =>
      rw [List.range_succ, List.flatMap_append, List.length_append]
      cases n with
      | zero => simp [comb]
      | succ n => simpa [comb] using ih
  | cons x r ihr =>
    intro n
    have key : ∀ n, ((List.range (n + 1)).flatMap fun k => comb k (x :: r)).length = ((List.range n).flatMap fun k => comb k r).length + ((List.range (n + 1)).flatMap fun k => comb k r).length := by
      intro n
      induction n with
      | zero => simp [comb]
      | succ n ih =>
        rw [List.range_succ, List.flatMap_append, List.length_append, ih]
        have r1 : List.range (n + 1 + 1) = List.range (n + 1) ++ [n + 1] := List.range_succ
        have r2 : List.range (n + 1) = List.range n ++ [n] := List.range_succ
        have l2 : ((List.range (n + 1)).flatMap fun k => comb k r).length = ((List.range n).flatMap fun k => comb k r).length + (comb n r).length := by rw [r2, List.flatMap_append, List.length_append]; simp
        rw [List.flatMap_append, List.length_append]
        simp only [List.flatMap_cons, List.flatMap_nil, List.append_nil, comb, List.length_append, List.length_map]
        omega
    cases n with
    | zero => simp
    | succ n =>
      rw [key n, List.length_cons, Nat.pow_succ]
      have h1 := ihr n
      have h2 := ihr (n + 1)
      omega

/-! ### sorting, plainly -/
theorem pair_any {α : Type} {R : α → α → Prop} : ∀ {l : List α}, l.Pairwise R → ∀ {a b : α}, a ∈ l → b ∈ l → a = b ∨ R a b ∨ R b a
  | x :: l, h, a, b, ha, hb => by
    have h' := List.pairwise_cons.mp h
    rcases List.mem_cons.mp ha with e | e
    · rcases List.mem_cons.mp hb with e2 | e2
      · exact .inl (e.trans e2.symm)
      · subst e; exact .inr (.inl (h'.1 b e2))
    · rcases List.mem_cons.mp hb with e2 | e2
      · subst e2; exact .inr (.inr (h'.1 a e))
      · exact pair_any h'.2 e e2
open PySem.W in
theorem sortD_of {ds out : List PyData} (hp : out.Perm ds) (hs : out.Pairwise (fun a b => dataLt a b = true)) : sortD ds = out := by
  unfold sortD
  have irr : ∀ a, dataLt a a = false := fun a => lex_irrefl _
  have tr : ∀ a b c, dataLt a b = true → dataLt b c = true → dataLt a c = true := fun a b c => lex_trans _ _ _
  have ng : ∀ a b c, dataLt a c = true → dataLt a b = true ∨ dataLt b c = true := fun a b c => lex_negTrans _ _ _
  have le : ∀ a b, dataLe false id a b = !dataLt b a := fun a b => rfl
  refine List.Perm.eq_of_pairwise (le := fun a b => dataLe false id a b = true) (fun a b ha hb h1 h2 => ?_) (List.pairwise_mergeSort (fun a b c h1 h2 => ?_) (fun a b => ?_) ds) (hs.imp fun {a b} h => ?_) ((List.mergeSort_perm _ _).trans hp.symm)
  · have ha' : a ∈ out := hp.mem_iff.mpr ((List.mergeSort_perm _ _).mem_iff.mp ha)
    rw [le] at h1 h2
    by_cases e : a = b
    · exact e
    · have := pair_any hs ha' hb
      rcases this with h | h | h
      · exact h
      · rw [h] at h2; exact absurd h2 (by decide)
      · rw [h] at h1; exact absurd h1 (by decide)
  · rw [le] at h1 h2 ⊢
    cases h : dataLt c a with
    | false => rfl
    | true =>
      rcases ng c b a h with q | q
      · rw [q] at h2; exact absurd h2 (by decide)
      · rw [q] at h1; exact absurd h1 (by decide)
  · rw [le, le]
    cases h : dataLt b a with
    | false => rfl
    | true =>
      cases h2 : dataLt a b with
      | false => rfl
      | true => exact absurd (tr _ _ _ h h2) (by rw [irr]; exact Bool.false_ne_true)
  · rw [le]
    cases h2 : dataLt b a with
    | false => rfl
    | true => exact absurd (tr _ _ _ h h2) (by rw [irr]; exact Bool.false_ne_true)
/-- (len(row), row) -/
def szP (row : List Int) : PyData := .tuple [.int row.length, T row]
theorem dataLt_T (xs ys : List Int) : PySem.W.dataLt (T xs) (T ys) = decide (xs < ys) := by
  rw [PySem.W.dataLt_tuple]
  exact PySem.W.dataLt_ints xs ys
theorem eqv_T (xs ys : List Int) : PyData.eqv (T xs) (T ys) = decide (xs = ys) := by
  have h := PySem.W.Datum.eqv (PySem.W.Tup.mk xs) (PySem.W.Tup.mk ys)
  have e : decide (PySem.W.Tup.mk xs = PySem.W.Tup.mk ys) = decide (xs = ys) := decide_eq_decide.mpr ⟨fun h => PySem.W.Tup.mk.inj h, fun h => by rw [h]⟩
  rw [e] at h
  exact h
theorem szP_lt (xs ys : List Int) : PySem.W.dataLt (szP xs) (szP ys) = decide (xs.length < ys.length ∨ (xs.length = ys.length ∧ xs < ys)) := by
  unfold szP
  rw [PySem.W.dataLt_pair (by simp [PySem.W.alike]) (by rw [PySem.W.alike]; exact PySem.W.alike_ints xs ys), PySem.W.dataLt_int, eqv_T, dataLt_T]
  simp only [PyData.eqv, beq_iff_eq, decide_eq_true_eq]
  by_cases h1 : xs.length = ys.length
  · have h1' : ((xs.length : Nat) : Int) = (ys.length : Nat) := by rw [h1]
    rw [if_pos h1']
    by_cases h2 : xs = ys
    · subst h2
      rw [if_pos rfl]
      have : ¬ xs < xs := List.lt_irrefl xs
      simp [this]
    · rw [if_neg h2]
      simp [h1]
  · have h1' : ¬ ((xs.length : Nat) : Int) = (ys.length : Nat) := by omega
    rw [if_neg h1']
    simp [h1]
theorem comb_lenE : ∀ (k : Nat) (xs row : List Int), row ∈ comb k xs → row.length = k
  | 0, xs, row, h => by
    simp only [comb, List.mem_singleton] at h
    subst h; rfl
  | _ + 1, [], row, h => by simp [comb] at h
  | k + 1, x :: r, row, h => by
    rw [comb, List.mem_append, List.mem_map] at h
    rcases h with ⟨q, hq, rfl⟩ | h
    · rw [List.length_cons, comb_lenE k r q hq]
    · exact comb_lenE (k + 1) r row h
theorem comb_lt : ∀ (k : Nat) (xs : List Int), xs.Pairwise (· < ·) → (comb k xs).Pairwise (fun a b => a < b)
  | 0, xs, _ => by simp [comb]
  | _ + 1, [], _ => by simp [comb]
  | k + 1, x :: r, h => by
    have h' := List.pairwise_cons.mp h
    rw [comb, List.pairwise_append]
    refine ⟨?_, comb_lt (k + 1) r h'.2, fun a ha b hb => ?_⟩
    · rw [List.pairwise_map]
      exact (comb_lt k r h'.2).imp fun {a b} q => by
        show x :: a < x :: b
        exact List.cons_lt_cons_iff.mpr (.inr ⟨rfl, q⟩)
    · rw [List.mem_map] at ha
      obtain ⟨q, hq, rfl⟩ := ha
      cases b with
      | nil => have := comb_lenE _ _ _ hb; simp at this
      | cons y t =>
        have hy : y ∈ r := (comb_row _ _ _ hb).subset (by simp)
        exact List.cons_lt_cons_iff.mpr (.inl (h'.1 y hy))
theorem allS_lt (xs : List Int) (h : xs.Pairwise (· < ·)) : ((allS xs).map szP).Pairwise (fun a b => PySem.W.dataLt a b = true) := by
  rw [List.pairwise_map]
  have : ∀ n, ((List.range n).flatMap fun k => comb k xs).Pairwise (fun a b => PySem.W.dataLt (szP a) (szP b) = true) := by
    intro n
    induction n with
    | zero => simp
    | succ n ih =>
      rw [List.range_succ, List.flatMap_append, List.pairwise_append]
      refine ⟨ih, ?_, fun a ha b hb => ?_⟩
      · simp only [List.flatMap_cons, List.flatMap_nil, List.append_nil]
        refine (List.Pairwise.and_mem.mp (comb_lt n xs h)).imp fun {a b} ⟨ha, hb, q⟩ => ?_
        rw [szP_lt, decide_eq_true_eq]
        exact .inr ⟨by rw [comb_lenE _ _ _ ha, comb_lenE _ _ _ hb], q⟩
      · simp only [List.flatMap_cons, List.flatMap_nil, List.append_nil] at hb
        obtain ⟨k, hk, ha⟩ := List.mem_flatMap.mp ha
        rw [szP_lt, decide_eq_true_eq]
        refine .inl ?_
        rw [comb_lenE _ _ _ ha, comb_lenE _ _ _ hb]
        exact List.mem_range.mp hk
  exact this _
/-- all rows that the doubling makes -/
def subsF : List Int → List (List Int) → List (List Int)
  | [], rows => rows
  | x :: xs, rows => subsF xs (rows ++ rows.map fun row => row ++ [x])
def allB : List Int → List (List Int)
  | [] => [[]]
  | x :: r => allB r ++ (allB r).map (x :: ·)
theorem subsF_perm : ∀ (xs : List Int) (rows : List (List Int)), (subsF xs rows).Perm (rows.flatMap fun row => (allB xs).map (row ++ ·))
  | [], rows => by simp [subsF, allB]
  | x :: xs, rows => by
    rw [subsF]
    refine (subsF_perm xs _).trans ?_
    rw [List.flatMap_append, List.flatMap_map]
    induction rows with
    | nil => simp
    | cons a t ih =>
      simp only [List.flatMap_cons, allB, List.map_append, List.map_map]
      have e : (allB xs).map ((fun b => a ++ b) ∘ fun b => x :: b) = (allB xs).map fun b => (a ++ [x]) ++ b := List.map_congr_left fun b _ => by simp
      rw [e]
      refine List.Perm.trans ?_ (List.Perm.append_left _ (by simpa only [allB, List.map_append, List.map_map] using ih))
      rw [List.append_assoc, List.append_assoc]
      refine List.Perm.append_left _ ?_
      rw [← List.append_assoc, ← List.append_assoc]
      exact List.Perm.append_right _ List.perm_append_comm
theorem allB_perm : ∀ xs : List Int, (allB xs).Perm (allS xs)
  | [] => by simp [allB, allS, comb, List.range_succ]
  | x :: r => by
    have ih := allB_perm r
    rw [allB]
    refine (List.Perm.append ih (ih.map _)).trans ?_
    have key : ∀ n, ((List.range (n + 1)).flatMap fun k => comb k (x :: r)).Perm (((List.range (n + 1)).flatMap fun k => comb k r) ++ ((List.range n).flatMap fun k => comb k r).map (x :: ·)) := by
      intro n
      induction n with
      | zero => simp [comb]
      | succ n ih =>
        rw [List.range_succ, List.flatMap_append]
        refine (List.Perm.append_right _ ih).trans ?_
        have r1 : List.range (n + 1) = List.range n ++ [n] := List.range_succ
        have e1 : ((List.range (n + 1)).flatMap fun k => comb k r).map (x :: ·) = ((List.range n).flatMap fun k => comb k r).map (x :: ·) ++ (comb n r).map (x :: ·) := by
          rw [r1, List.flatMap_append, List.map_append]; simp
        rw [e1, List.flatMap_append]
        simp only [List.flatMap_cons, List.flatMap_nil, List.append_nil, comb, List.append_assoc]
        refine List.Perm.append_left _ ?_
        have c := @List.perm_append_comm _ (((List.range n).flatMap fun k => comb k r).map (x :: ·) ++ (comb n r).map (x :: ·)) (comb (n + 1) r)
        rw [List.append_assoc] at c
        exact c
    unfold allS
    rw [List.length_cons]
    refine List.Perm.trans ?_ (key (r.length + 1)).symm
    have e2 : (List.range (r.length + 1 + 1)).flatMap (fun k => comb k r) = (List.range (r.length + 1)).flatMap fun k => comb k r := by
      rw [List.range_succ, List.flatMap_append]
      have : comb (r.length + 1) r = [] := by
        cases q : comb (r.length + 1) r with
        | nil => rfl
        | cons a t =>
          have ha : a ∈ comb (r.length + 1) r := by rw [q]; simp
          have h1 := comb_lenE _ _ _ ha
          have h2 := (comb_row _ _ _ ha).length_le
          omega
      simp [this]
    rw [e2]
theorem subs_perm (xs : List Int) : (subsF xs [[]]).Perm (allS xs) := by
  refine (subsF_perm xs [[]]).trans ?_
  simp only [List.flatMap_cons, List.flatMap_nil, List.append_nil, List.nil_append]
  rw [List.map_id'']
  · exact allB_perm xs
  · intro a; rfl
theorem sort_subs (xs : List Int) (h : xs.Pairwise (· < ·)) : sortD ((subsF xs [[]]).map szP) = (allS xs).map szP := sortD_of ((subs_perm xs).symm.map _) (allS_lt xs h)
theorem subsF_app : ∀ (xs : List Int) (a : Int) (rows : List (List Int)), subsF (xs ++ [a]) rows = subsF xs rows ++ (subsF xs rows).map fun row => row ++ [a]
  | [], a, rows => rfl
  | x :: xs, a, rows => by
    show subsF (xs ++ [a]) _ = _
    rw [subsF_app xs a]
    rfl
theorem subsF_len : ∀ (xs : List Int) (rows : List (List Int)), (subsF xs rows).length = rows.length * 2 ^ xs.length
  | [], rows => by simp [subsF]
  | x :: xs, rows => by
    rw [subsF, subsF_len xs, List.length_append, List.length_map, List.length_cons, Nat.pow_succ, Nat.mul_comm (2 ^ xs.length) 2, ← Nat.mul_assoc]
    congr 1
    omega
theorem allS_row {xs row : List Int} (h : row ∈ allS xs) : row.Sublist xs := by
  obtain ⟨k, _, hk⟩ := List.mem_flatMap.mp h
  exact comb_row k xs row hk
theorem allS_len (xs : List Int) : (allS xs).length ≤ 2 ^ xs.length := sum_comb xs _
theorem subs_row {xs row : List Int} (h : row ∈ subsF xs [[]]) : row.length ≤ xs.length := (allS_row ((subs_perm xs).mem_iff.mp h)).length_le
theorem sortB_sz (rows : List (List Int)) : sortB (rows.map szP) = true := by
  unfold sortB
  rw [Bool.and_eq_true, Bool.and_eq_true, Bool.or_eq_true]
  refine ⟨?_, ?_, .inl ?_⟩
  · rw [List.all_map]
    exact List.all_eq_true.mpr fun r _ => flat_D (α := Int × PySem.W.Tup Int) (by decide) ((r.length : Int), PySem.W.Tup.mk r)
  · unfold alikeB
    rw [List.all_map]
    refine List.all_eq_true.mpr fun r _ => ?_
    show ((rows.map szP).all fun e => PySem.W.alike (szP r) e) = true
    rw [List.all_map]
    refine List.all_eq_true.mpr fun q _ => ?_
    show PySem.W.alike (szP r) (szP q) = true
    unfold szP
    have := PySem.W.alike_ints r q
    simp only [PySem.W.alike, PySem.W.alikeAll, T, this, Bool.and_self]
  · rw [List.all_map]
    exact List.all_eq_true.mpr fun r _ => rfl
/-- a list or a tuple of whole numbers -/
def Sq (d : PyData) (xs : List Int) : Prop := d = .list (xs.map PyData.int) ∨ d = T xs
theorem iSeq_sq {f : Ex} {env : SEnv} {W W' : List Int} {d : PyData} {xs : List Int} (h : Sq d xs) (e : f env W = some (d, .im, W')) : iSeq f env W = some (xs.map PyData.int, .im, W') := by
  unfold iSeq
  rw [e]
  rcases h with rfl | rfl <;> rfl
end PX

namespace PX
open PySem
/-! ### forward steps -/
section
variable {env env' : SEnv} {W W1 W2 W3 : List Int} {f g h : Ex} {d d1 d2 d3 dr : PyData} {k k1 k2 k3 kr : Kd} {op : Op} {s s2 : Sx} {i : Nat} {t t2 : Ct}
theorem fw0 (o : op [] = some (dr, kr)) : cCall op [] env W = some (dr, kr, W) := by simp [cCall, cArgs, o]
theorem fw1 (e1 : f env W = some (d1, k1, W1)) (o : op [(d1, k1)] = some (dr, kr)) : cCall op [f] env W = some (dr, kr, W1) := by simp [cCall, cArgs, e1, o]
theorem fw2 (e1 : f env W = some (d1, k1, W1)) (e2 : g env W1 = some (d2, k2, W2)) (o : op [(d1, k1), (d2, k2)] = some (dr, kr)) : cCall op [f, g] env W = some (dr, kr, W2) := by simp [cCall, cArgs, e1, e2, o]
theorem fw3 (e1 : f env W = some (d1, k1, W1)) (e2 : g env W1 = some (d2, k2, W2)) (e3 : h env W2 = some (d3, k3, W3)) (o : op [(d1, k1), (d2, k2), (d3, k3)] = some (dr, kr)) : cCall op [f, g, h] env W = some (dr, kr, W3) := by simp [cCall, cArgs, e1, e2, e3, o]
variable {F : List PyData → Option PyData}
theorem fwF1 (e1 : f env W = some (d1, k1, W1)) (x1 : esc k1 = true) (o : F [d1] = some dr) : cFn F [f] env W = some (dr, .im, W1) := by simp [cFn, cArgs, e1, x1, o]
theorem fwF2 (e1 : f env W = some (d1, k1, W1)) (x1 : esc k1 = true) (e2 : g env W1 = some (d2, k2, W2)) (x2 : esc k2 = true) (o : F [d1, d2] = some dr) : cFn F [f, g] env W = some (dr, .im, W2) := by simp [cFn, cArgs, e1, x1, e2, x2, o]
theorem fwF3 (e1 : f env W = some (d1, k1, W1)) (x1 : esc k1 = true) (e2 : g env W1 = some (d2, k2, W2)) (x2 : esc k2 = true) (e3 : h env W2 = some (d3, k3, W3)) (x3 : esc k3 = true) (o : F [d1, d2, d3] = some dr) : cFn F [f, g, h] env W = some (dr, .im, W3) := by simp [cFn, cArgs, e1, x1, e2, x2, e3, x3, o]
theorem fwB {b : Bool} (e : f env W = some (.bool b, k, W1)) : bOf f env W = some (b, W1) := by simp [bOf, e]
theorem fwAnd {b c : Bool} (e1 : t env W = some (b, W1)) (e2 : b = true → t2 env W1 = some (c, W1)) : kAnd t t2 env W = some (b && c, W1) := by
  unfold kAnd
  rw [e1, Option.bind_some]
  cases b with
  | true => dsimp only; rw [if_pos rfl, e2 rfl]; rfl
  | false => rfl
theorem fwOr {b c : Bool} (e1 : t env W = some (b, W1)) (e2 : b = false → t2 env W1 = some (c, W1)) : kOr t t2 env W = some (b || c, W1) := by
  unfold kOr
  rw [e1, Option.bind_some]
  cases b with
  | true => rfl
  | false => dsimp only; rw [if_neg Bool.false_ne_true, e2 rfl]; rfl
theorem fwNot {b : Bool} (e1 : t env W = some (b, W1)) : kNot t env W = some (!b, W1) := by simp [kNot, e1]
theorem fwIfT (e1 : t env W = some (true, W1)) (e2 : f env W1 = some (dr, kr, W2)) : cIf t f g env W = some (dr, kr, W2) := by simp [cIf, e1, e2]
theorem fwIfF (e1 : t env W = some (false, W1)) (e2 : g env W1 = some (dr, kr, W2)) : cIf t f g env W = some (dr, kr, W2) := by simp [cIf, e1, e2]
theorem fwLc {it : Ci} {tg : Tg} {c : Ct} {vs : List Nat} {ds q : List PyData} (hn : noOwn env vs = true) (e1 : it env W = some (ds, k, W1)) (hk : kOk vs k = true) (e2 : lcL tg c f ds (wipeE env vs) W1 = some (q, W2)) : cLc it tg c f vs env W = some (.list q, .fr, W2) := by
  unfold cLc
  rw [if_pos hn, e1, Option.bind_some]
  dsimp only
  rw [if_pos hk, e2]
  rfl
theorem fwLc2 {it it1 : Ci} {tg tg1 : Tg} {c c1 : Ct} {vs vs1 : List Nat} {ds q : List PyData} (hn : noOwn env vs = true) (e1 : it env W = some (ds, k, W1)) (hk : kOk vs k = true) (e2 : lc2L tg c it1 tg1 c1 f vs1 ds (wipeE env vs) W1 = some (q, W2)) (hl : q.length ≤ 16777216) : cLc2 it tg c it1 tg1 c1 f vs vs1 env W = some (.list q, .fr, W2) := by
  unfold cLc2
  rw [if_pos hn, e1, Option.bind_some]
  dsimp only
  rw [if_pos hk, e2, Option.bind_some]
  dsimp only
  rw [if_pos hl]
theorem fwSet {own : Bool} (e : f env W = some (d, .im, W1)) : sSet i own f env W = some (.nx (env.set i (.pl d)) W1) := by simp [sSet, e]
theorem fwSetF (e : f env W = some (d, .fr, W1)) : sSet i false f env W = some (.nx (env.set i (.pl d)) W1) := by simp [sSet, e]
theorem fwSetO (e : f env W = some (d, .fr, W1)) : sSet i true f env W = some (.nx (env.set i (.ow d)) W1) := by simp [sSet, e]
theorem fwRet (e : f env W = some (d, k, W1)) (hk : esc k = true) : sRetK f env W = some (.rt d W1) := by
  unfold sRetK
  rw [e, Option.bind_some]
  cases k with
  | im => rfl
  | fr => rfl
  | pk i => exact absurd hk Bool.false_ne_true
theorem fwT {o : Ou} (e1 : t env W = some (true, W1)) (e2 : s env W1 = some o) : sIf t s s2 env W = some o := by simp [sIf, e1, e2]
theorem fwE {o : Ou} (e1 : t env W = some (false, W1)) (e2 : s2 env W1 = some o) : sIf t s s2 env W = some o := by simp [sIf, e1, e2]
theorem fwNil : sNil env W = some (.nx env W) := rfl
/-- if test: return False, the test being false -/
theorem fwPass (e1 : t env W = some (false, W1)) : sIf t s sNil env W = some (.nx env W1) := fwE e1 fwNil
theorem fwSeqR {d : PyData} (e : s env W = some (.rt d W1)) : sSeq s s2 env W = some (.rt d W1) := by simp [sSeq, e]
theorem fwApp {ds : List PyData} (ho : env[i]? = some (.ow (.list ds))) (e : f env W = some (d, k, W1)) (hk : esc k = true) (hl : ds.length < 16777216) : sApp i f env W = some (.nx (env.set i (.ow (.list (ds ++ [d])))) W1) := by
  unfold sApp
  rw [e, Option.bind_some]
  dsimp only
  rw [ho]
  dsimp only
  rw [if_pos ⟨hk, hl⟩]
theorem fwExt {ds es : List PyData} (ho : env[i]? = some (.ow (.list ds))) (e : f env W = some (.list es, k, W1)) (hl : ds.length + es.length ≤ 16777216) : sExt i f env W = some (.nx (env.set i (.ow (.list (ds ++ es)))) W1) := by
  unfold sExt
  rw [e]
  dsimp only
  rw [ho]
  dsimp only
  rw [if_pos hl]
theorem fwSeqL {ds : List PyData} (e : f env W = some (.list ds, .im, W1)) : iSeq f env W = some (ds, .im, W1) := by simp [iSeq, e, kdI]
theorem fwSeqF {ds : List PyData} (e : f env W = some (.list ds, .fr, W1)) : iSeq f env W = some (ds, .im, W1) := by simp [iSeq, e, kdI]
theorem fwSeqT {ds : List PyData} (e : f env W = some (.tuple ds, k, W1)) : iSeq f env W = some (ds, .im, W1) := by simp [iSeq, e]
theorem fwR2 {lo hi : Int} (e1 : f env W = some (.int lo, k1, W1)) (e2 : g env W1 = some (.int hi, k2, W2)) (h1 : lo ≤ 1000000) (h2 : -1000000 ≤ lo) (h3 : hi ≤ 1000000) (h4 : -1000000 ≤ hi) : iR2 f g env W = some (rgI lo (hi - lo).toNat, .im, W2) := by
  unfold iR2
  rw [e1]
  dsimp only
  rw [e2]
  dsimp only
  rw [if_pos ⟨h1, h2, h3, h4⟩]
theorem fwR1 {hi : Int} (e1 : f env W = some (.int hi, k1, W1)) (h3 : hi ≤ 1000000) (h4 : -1000000 ≤ hi) : iR1 f env W = some (rgI 0 hi.toNat, .im, W1) := by
  unfold iR1
  rw [e1]
  dsimp only
  rw [if_pos ⟨h3, h4⟩]
theorem fwFor {it : Ci} {tg : Tg} {ds : List PyData} (e : it env W = some (ds, k, W1)) (hk : esc k = true) : sFor it tg s env W = forL tg s ds env W1 := by
  unfold sFor
  rw [e, Option.bind_some]
  dsimp only
  rw [if_pos hk]
theorem fwLst0 : cCall oLst [] env W = some (.list [], .fr, W) := by simp [cCall, cArgs, oLst]
theorem fwTup0 : cCall oTup [] env W = some (.tuple [], .im, W) := by simp [cCall, cArgs, oTup]
theorem fwTup1 (e1 : f env W = some (d1, k1, W1)) (x1 : esc k1 = true) : cCall oTup [f] env W = some (.tuple [d1], .im, W1) := fw1 e1 (by simp [oTup, x1])
theorem fwTup2 (e1 : f env W = some (d1, k1, W1)) (x1 : esc k1 = true) (e2 : g env W1 = some (d2, k2, W2)) (x2 : esc k2 = true) : cCall oTup [f, g] env W = some (.tuple [d1, d2], .im, W2) := fw2 e1 e2 (by simp [oTup, x1, x2])
theorem fwIx0 {ds : List PyData} (k k' : Kd) : oIx [(.list (d :: ds), k), (.int 0, k')] = some (d, .im) := by
  have e : L2.atI (d :: ds) (0 : Int) = some d := L2.atI_nat (j := 0) rfl
  simp only [oIx, e, Option.map_some]
theorem fwIx0T {ds : List PyData} (k k' : Kd) : oIx [(.tuple (d :: ds), k), (.int 0, k')] = some (d, .im) := by
  have e : L2.atI (d :: ds) (0 : Int) = some d := L2.atI_nat (j := 0) rfl
  simp only [oIx, e, Option.map_some]
end
/-! ### lists and tuples of numbers compared -/
theorem eqT (a b : List Int) (k k' : Kd) : oEq [(T a, k), (T b, k')] = some (.bool (decide (a = b)), .im) := by
  have h := ev_eq (α := PySem.W.Tup Int) (by decide) ⟨a⟩ ⟨b⟩ k k'
  have e : decide (PySem.W.Tup.mk a = PySem.W.Tup.mk b) = decide (a = b) := decide_eq_decide.mpr ⟨fun h => PySem.W.Tup.mk.inj h, fun h => by rw [h]⟩
  rw [e] at h
  exact h
theorem neT (a b : List Int) (k k' : Kd) : oNe [(T a, k), (T b, k')] = some (.bool (!decide (a = b)), .im) := by
  have h := ev_ne (α := PySem.W.Tup Int) (by decide) ⟨a⟩ ⟨b⟩ k k'
  have e : decide (PySem.W.Tup.mk a = PySem.W.Tup.mk b) = decide (a = b) := decide_eq_decide.mpr ⟨fun h => PySem.W.Tup.mk.inj h, fun h => by rw [h]⟩
  rw [e] at h
  exact h
theorem eqL (a b : List Int) (k k' : Kd) : oEq [(.list (a.map PyData.int), k), (.list (b.map PyData.int), k')] = some (.bool (decide (a = b)), .im) := ev_eq (α := List Int) (by decide) a b k k'
theorem neL (a b : List Int) (k k' : Kd) : oNe [(.list (a.map PyData.int), k), (.list (b.map PyData.int), k')] = some (.bool (!decide (a = b)), .im) := ev_ne (α := List Int) (by decide) a b k k'
theorem niT (x : Int) (xs : List Int) (k k' : Kd) : oNotIn [(.int x, k), (T xs, k')] = some (.bool (!decide (x ∈ xs)), .im) := ev_niT (α := Int) (by decide) x xs k k'
theorem inT (x : Int) (xs : List Int) (k k' : Kd) : oIn [(.int x, k), (T xs, k')] = some (.bool (decide (x ∈ xs)), .im) := ev_inT (α := Int) (by decide) x xs k k'
theorem nnil (rs : List (List Int)) (k k' : Kd) : oNe [(.list (rs.map T), k), (.list [], k')] = some (.bool (!rs.isEmpty), .im) := by
  have hh := ev_ne (α := List (PySem.W.Tup Int)) (by decide) (rs.map PySem.W.Tup.mk) [] k k'
  have e1 : (D (rs.map PySem.W.Tup.mk) : PyData) = .list (rs.map T) := by
    show PyData.list ((rs.map PySem.W.Tup.mk).map _) = _
    rw [List.map_map]; rfl
  have e2 : decide (rs.map PySem.W.Tup.mk = []) = rs.isEmpty := by cases rs <;> simp
  rw [e1, e2] at hh
  exact hh
/-- [x for x in a if x not in b] -/
theorem notin_lc {env : SEnv} {W : List Int} {i : Nat} {fb : Ex} {as bs : List Int} (hb : ∀ x, fb (env.set i (.pl (.int x))) W = some (T bs, .im, W)) (hi : ∀ x, cVar i (env.set i (.pl (.int x))) W = some (.int x, .im, W)) :
    lcL (gN i) (bOf (cCall oNotIn [cVar i, fb])) (cVar i) (as.map PyData.int) env W = some ((as.filter fun x => !decide (x ∈ bs)).map PyData.int, W) := lcL_fm PyData.int _ PyData.int as (fun x _ => ⟨_, rfl, fwB (fw2 (hi x) (hb x) (niT x bs _ _)), fun _ => ⟨.im, hi x, rfl⟩⟩)
theorem in_lc {env : SEnv} {W : List Int} {i : Nat} {fb : Ex} {as bs : List Int} (hb : ∀ x, fb (env.set i (.pl (.int x))) W = some (T bs, .im, W)) (hi : ∀ x, cVar i (env.set i (.pl (.int x))) W = some (.int x, .im, W)) :
    lcL (gN i) (bOf (cCall oIn [cVar i, fb])) (cVar i) (as.map PyData.int) env W = some ((as.filter fun x => decide (x ∈ bs)).map PyData.int, W) := lcL_fm PyData.int _ PyData.int as (fun x _ => ⟨_, rfl, fwB (fw2 (hi x) (hb x) (inT x bs _ _)), fun _ => ⟨.im, hi x, rfl⟩⟩)
end PX

namespace PX
open PySem PySem.Spec PyProof.Rows L2
/-! ### isinstance(x, T), T one of int, bool, str, tuple -/
def tyD : PyData → String
  | .none => "NoneType"
  | .bool _ => "bool"
  | .int _ => "int"
  | .str _ => "str"
  | .list _ => "list"
  | .tuple _ => "tuple"
  | .dict _ => "dict"
def isiD (T : String) (d : PyData) : Bool := tyD d == T || (T == "int" && tyD d == "bool")
def noD0 : PyData → Bool
  | .dict _ => false
  | _ => true
def oIsi (T : String) : Op
  | [(d, _)] => if noD0 d && (T == "int" || T == "bool" || T == "str" || T == "tuple") then some (.bool (isiD T d), .im) else none
  | _ => none
section
variable {X : Cx} {a : Expr} {f : Ex} {p p2 pos : Pos}
theorem rp_ty {K : PySem.W.Frag} {H : Hp} {v : V} {d : PyData} (h : Rp K H v d) (n : noD0 d = true) : TyX K H v (.type (tyD d)) := by
  cases h with
  | non => exact .base .non
  | bl b => exact .base (.bl b)
  | int i => exact .base (.int i)
  | str x h => exact .base (.str x)
  | lst ha hr => exact .base (.lst ha)
  | tup ha hr =>
    rcases ha.sqT with (h | ⟨o, h⟩) | ⟨o, its, n, e, c, _⟩
    · exact .base (.tup h)
    · exact .fTuple h
    · exact .kTuple e c
  | dK ha hr => cases n
  | dT ha hr => cases n
theorem kitB_ok {T : String} (hT : (T == "int" || T == "bool" || T == "str" || T == "tuple") = true) (d : PyData) (n : noD0 d = true) : kitB (tyD d) T = some (isiD T d) := by
  simp only [Bool.or_eq_true, beq_iff_eq] at hT
  have key : ∀ t ∈ ["NoneType", "bool", "int", "str", "list", "tuple"], ∀ T ∈ ["int", "bool", "str", "tuple"], kitB t T = some (t == T || (T == "int" && t == "bool")) := by decide +kernel
  have ht : tyD d ∈ ["NoneType", "bool", "int", "str", "list", "tuple"] := by cases d <;> simp [tyD] <;> cases n
  have hT' : T ∈ ["int", "bool", "str", "tuple"] := by rcases hT with ((h | h) | h) | h <;> simp [h]
  exact key _ ht _ hT'
theorem px_isi {T : String} {x : Str} (hg : Gl X "isinstance") (hm : X.mg "isinstance" = none) (hg2 : Gl X x) (hm2 : X.mg x = none) (hv : bootBuiltins x = some (.type T)) (ha : PX X a f) (hn : x ≠ "__name__" := by decide) (hd : (x == ("__debug__" : Str)) = false := by decide)
    (h1 : starEach [a, .Name x p2] X.env = (false, eval a X.env) :: starEach [.Name x p2] X.env := by rfl) (h2 : starEach [.Name x p2] X.env = (false, eval (.Name x p2) X.env) :: starEach [] X.env := by rfl) (hpl : (backTo pos (starEach [.Name x p2] X.env)).any (·.1) = false := by rfl) :
    PX X (.Call (.Name "isinstance" p) [a, .Name x p2] [] pos) (cCall (oIsi T) [f]) :=
  PE.imp (pe_callB call_isi hg hm PyProof.Rows.boot_isinstance (pa_cons ha (pa_cons (pe_bltn (v := .ty T) hg2 hm2 hv rfl hn hd) pa_nil h2) h1) (by decide) (by decide) h1 hpl) fun σ H Q q => by
    obtain ⟨B, Gb, G, env, W, d, k, W', S, e, c⟩ := q
    obtain ⟨d1, k1, e1, e2⟩ := cCall_one e
    have e3 : (if (noD0 d1 && (T == "int" || T == "bool" || T == "str" || T == "tuple")) = true then some (PyData.bool (isiD T d1), Kd.im) else none) = some (d, k) := e2
    by_cases hc : (noD0 d1 && (T == "int" || T == "bool" || T == "str" || T == "tuple")) = true
    · rw [if_pos hc] at e3
      rw [Bool.and_eq_true] at hc
      cases e3
      refine ⟨B, Gb, G, env, W, _, _, W', S, e1, fun v1 G1 H1 s1 S1 h1' => ?_⟩
      exact ⟨v1, .ty T, .type (tyD d1), .type T, _, rfl, .ty T, rp_ty (h1'.rp S1) hc.1, kit_ty (kitB_ok hc.2 d1 hc.1), (c.sub s1).bool S1⟩
    · rw [if_neg hc] at e3
      cases e3
end
end PX

namespace PX
open PySem
/-! ### draws as values -/
def nx : List Int → Int → Int
  | [], _ => 0
  | x :: _, m => x % m
theorem nx_bd (W : List Int) {m : Int} (h : 0 < m) : 0 ≤ nx W m ∧ nx W m < m := by
  cases W with
  | nil => exact ⟨Int.le_refl _, h⟩
  | cons x r => exact ⟨Int.emod_nonneg _ (by omega), Int.emod_lt_of_pos _ h⟩
section
variable {env env' e1 : SEnv} {W W1 W2 W3 : List Int} {f g h : Ex} {d d1 d2 d3 dr : PyData} {k k1 k2 k3 kr : Kd} {op : Op} {s s2 s3 : Sx} {i j : Nat} {t t2 : Ct} {Q : Ou → Prop} {own own2 : Bool} {sl sl2 : Sl}
theorem fwNext {m : Int} {q : Addr} (hw : env[i]? = some (.wd q)) (hf : f env W = some (.int m, k, W1)) (hm : 0 < m) : cNext i f env W = some (.int (nx W1 m), .im, W1.tail) := by
  unfold cNext
  rw [hw, hf]
  dsimp only
  rw [if_pos hm]
  cases W1 <;> rfl
theorem fwVar (h : env[i]? = some (.pl d)) : cVar i env W = some (d, .im, W) := by unfold cVar; rw [h]
theorem fwVarO (h : env[i]? = some (.ow d)) : cVar i env W = some (d, .pk i, W) := by unfold cVar; rw [h]
theorem fwK : cK d env W = some (d, .im, W) := rfl
theorem fwIf {b : Bool} (e1 : t env W = some (b, W1)) (e2 : f env W1 = some (d1, k, W2)) (e3 : g env W1 = some (d2, k, W2)) : cIf t f g env W = some (if b = true then d1 else d2, k, W2) := by
  cases b with
  | true => exact fwIfT e1 e2
  | false => exact fwIfF e1 e3
theorem fwTup3 (e1 : f env W = some (d1, k1, W1)) (x1 : esc k1 = true) (e2 : g env W1 = some (d2, k2, W2)) (x2 : esc k2 = true) (e3 : h env W2 = some (d3, k3, W3)) (x3 : esc k3 = true) : cCall oTup [f, g, h] env W = some (.tuple [d1, d2, d3], .im, W3) := fw3 e1 e2 e3 (by simp [oTup, x1, x2, x3])
theorem fwLst1 (e1 : f env W = some (d1, k1, W1)) (x1 : esc k1 = true) : cCall oLst [f] env W = some (.list [d1], .fr, W1) := fw1 e1 (by simp [oLst, x1])
theorem fwLst2 (e1 : f env W = some (d1, k1, W1)) (x1 : esc k1 = true) (e2 : g env W1 = some (d2, k2, W2)) (x2 : esc k2 = true) : cCall oLst [f, g] env W = some (.list [d1, d2], .fr, W2) := fw2 e1 e2 (by simp [oLst, x1, x2])
theorem fwIx1T {ds : List PyData} (k k' : Kd) : oIx [(.tuple (d1 :: d :: ds), k), (.int 1, k')] = some (d, .im) := by
  have e : L2.atI (d1 :: d :: ds) (1 : Int) = some d := L2.atI_nat (j := 1) rfl
  simp only [oIx, e, Option.map_some]
theorem fwIx2T {ds : List PyData} (k k' : Kd) : oIx [(.tuple (d1 :: d2 :: d :: ds), k), (.int 2, k')] = some (d, .im) := by
  have e : L2.atI (d1 :: d2 :: d :: ds) (2 : Int) = some d := L2.atI_nat (j := 2) rfl
  simp only [oIx, e, Option.map_some]
theorem fwIx1L {ds : List PyData} (k k' : Kd) : oIx [(.list (d1 :: d :: ds), k), (.int 1, k')] = some (d, .im) := by
  have e : L2.atI (d1 :: d :: ds) (1 : Int) = some d := L2.atI_nat (j := 1) rfl
  simp only [oIx, e, Option.map_some]
theorem fwIxN {ds : List PyData} {n : Nat} (h : ds[n]? = some d) (k k' : Kd) : oIx [(.tuple ds, k), (.int (n : Nat), k')] = some (d, .im) := by
  have e : L2.atI ds (n : Int) = some d := L2.atI_nat h
  simp only [oIx, e, Option.map_some]
theorem fwIxNL {ds : List PyData} {n : Nat} (h : ds[n]? = some d) (k k' : Kd) : oIx [(.list ds, k), (.int (n : Nat), k')] = some (d, .im) := by
  have e : L2.atI ds (n : Int) = some d := L2.atI_nat h
  simp only [oIx, e, Option.map_some]
theorem mulI (a b : Int) (h : b.natAbs < 18446744073709551616) (k k' : Kd) : oMul [(.int a, k), (.int b, k')] = some (.int (a * b), .im) := oMul_e a b k k' h
theorem divI (a b : Int) (h0 : b ≠ 0) (h1 : b.natAbs < 1073741824) (k k' : Kd) : oDiv [(.int a, k), (.int b, k')] = some (.int (a.fdiv b), .im) := by
  unfold oDiv
  exact if_pos ⟨h0, h1⟩
theorem modI (a b : Int) (hb : 0 < b) (k k' : Kd) : oMod [(.int a, k), (.int b, k')] = some (.int (a % b), .im) := by
  unfold oMod
  dsimp only
  rw [if_pos (by omega), Int.fmod_eq_emod_of_nonneg a (by omega)]
theorem absI (a : Int) (k : Kd) : oAbs [(.int a, k)] = some (.int (a.natAbs : Int), .im) := by
  have : (if a < 0 then -a else a) = (a.natAbs : Int) := by split <;> omega
  show some (PyData.int (if a < 0 then -a else a), Kd.im) = _
  rw [this]
theorem addI (a b : Int) (k k' : Kd) : oAdd [(.int a, k), (.int b, k')] = some (.int (a + b), .im) := rfl
theorem subI (a b : Int) (k k' : Kd) : oSub [(.int a, k), (.int b, k')] = some (.int (a - b), .im) := rfl
theorem negI (a : Int) (k : Kd) : oNeg [(.int a, k)] = some (.int (-a), .im) := rfl
theorem ltI (a b : Int) (k k' : Kd) : oLt [(.int a, k), (.int b, k')] = some (.bool (decide (a < b)), .im) := rfl
theorem leI (a b : Int) (k k' : Kd) : oLe [(.int a, k), (.int b, k')] = some (.bool (decide (a ≤ b)), .im) := rfl
theorem gtI (a b : Int) (k k' : Kd) : oGt [(.int a, k), (.int b, k')] = some (.bool (decide (b < a)), .im) := rfl
theorem geI (a b : Int) (k k' : Kd) : oGe [(.int a, k), (.int b, k')] = some (.bool (decide (b ≤ a)), .im) := rfl
theorem isNonN (k k' : Kd) : oIs [(.none, k), (.none, k')] = some (.bool true, .im) := rfl
theorem lenL {ds : List PyData} (k : Kd) : oLen [(.list ds, k)] = some (.int ds.length, .im) := rfl
theorem lenT {ds : List PyData} (k : Kd) : oLen [(.tuple ds, k)] = some (.int ds.length, .im) := rfl
theorem fwSetG (e : f env W = some (d, k, W1)) (hs : slOf own d k = some sl) : sSet i own f env W = some (.nx (env.set i sl) W1) := by
  unfold sSet
  rw [e, Option.bind_some]
  cases k with
  | im => cases hs; rfl
  | fr => cases hs; rfl
  | pk j => cases hs
theorem fwParG (e1 : f env W = some (d1, k1, W1)) (h1 : slOf own d1 k1 = some sl) (e2 : g env W1 = some (d2, k2, W2)) (h2 : slOf own2 d2 k2 = some sl2) : sPar i own j own2 f g env W = some (.nx ((env.set i sl).set j sl2) W2) := by
  unfold sPar
  rw [e1, Option.bind_some, e2, Option.bind_some, h1, Option.bind_some, h2, Option.map_some]
/-! ### a run and what is wanted at its end -/
def Runs (s : Sx) (env : SEnv) (W : List Int) (Q : Ou → Prop) : Prop := ∃ o, s env W = some o ∧ Q o
theorem ru_seq (h : s env W = some (.nx e1 W1)) (h2 : Runs s2 e1 W1 Q) : Runs (sSeq s s2) env W Q := by
  obtain ⟨o, q1, q2⟩ := h2
  exact ⟨o, by unfold sSeq; rw [h]; exact q1, q2⟩
theorem ru_nil (q : Q (.nx env W)) : Runs sNil env W Q := ⟨_, rfl, q⟩
theorem ru_ret (e : f env W = some (d, k, W1)) (hk : esc k = true) (q : Q (.rt d W1)) : Runs (sSeq (sRetK f) s2) env W Q := ⟨_, fwSeqR (fwRet e hk), q⟩
theorem ru_set (e : f env W = some (d, k, W1)) (hs : slOf own d k = some sl) (h : Runs s2 (env.set i sl) W1 Q) : Runs (sSeq (sSet i own f) s2) env W Q := ru_seq (fwSetG e hs) h
theorem ru_par (e1 : f env W = some (d1, k1, W1)) (h1 : slOf own d1 k1 = some sl) (e2 : g env W1 = some (d2, k2, W2)) (h2 : slOf own2 d2 k2 = some sl2) (h : Runs s2 ((env.set i sl).set j sl2) W2 Q) : Runs (sSeq (sPar i own j own2 f g) s2) env W Q := ru_seq (fwParG e1 h1 e2 h2) h
theorem ru_wipe {is : List Nat} (h : Runs s (wipeE env is) W Q) : Runs (sWipe is s) env W Q := h
theorem ru_frz (e : env[i]? = some (.ow d)) (h : Runs s (env.set i (.pl d)) W Q) : Runs (sFrz i s) env W Q := by
  obtain ⟨o, q1, q2⟩ := h
  exact ⟨o, by unfold sFrz; rw [e]; exact q1, q2⟩
theorem ru_frz0 (e : env[i]? = some (.pl d)) (h : Runs s env W Q) : Runs (sFrz i s) env W Q := by
  obtain ⟨o, q1, q2⟩ := h
  exact ⟨o, by unfold sFrz; rw [e]; exact q1, q2⟩
theorem ru_frzS (h : Runs (sFrz i (sSeq s s2)) env W Q) : Runs (sSeq (sFrz i s) s2) env W Q := by
  obtain ⟨o, q1, q2⟩ := h
  refine ⟨o, ?_, q2⟩
  unfold sFrz at q1
  unfold sSeq sFrz
  cases he : env[i]? with
  | none => rw [he] at q1; exact q1
  | some z => rw [he] at q1; cases z <;> exact q1
theorem ru_wipeS {is : List Nat} (h : Runs (sWipe is (sSeq s s2)) env W Q) : Runs (sSeq (sWipe is s) s2) env W Q := h
theorem ru_assoc (h : Runs (sSeq s (sSeq s2 s3)) env W Q) : Runs (sSeq (sSeq s s2) s3) env W Q := by
  obtain ⟨o, q1, q2⟩ := h
  refine ⟨o, ?_, q2⟩
  unfold sSeq at *
  cases he : s env W with
  | none => rw [he] at q1; exact q1
  | some z => rw [he] at q1; cases z <;> exact q1
theorem ru_nilS (h : Runs s2 env W Q) : Runs (sSeq sNil s2) env W Q := h
theorem ru_pass (e : t env W = some (false, W1)) (h : Runs s2 env W1 Q) : Runs (sSeq (sIf t s sNil) s2) env W Q := ru_seq (fwPass e) h
theorem ru_ifT (e : t env W = some (true, W1)) (h : Runs (sSeq s s2) env W1 Q) : Runs (sSeq (sIf t s s3) s2) env W Q := by
  obtain ⟨o, q1, q2⟩ := h
  refine ⟨o, ?_, q2⟩
  unfold sSeq sIf at *
  rw [e]
  exact q1
theorem ru_ifF (e : t env W = some (false, W1)) (h : Runs (sSeq s3 s2) env W1 Q) : Runs (sSeq (sIf t s s3) s2) env W Q := by
  obtain ⟨o, q1, q2⟩ := h
  refine ⟨o, ?_, q2⟩
  unfold sSeq sIf at *
  rw [e]
  exact q1
/-- both ways -/
theorem ru_if {b : Bool} (e : t env W = some (b, W1)) (h : b = true → Runs (sSeq s s2) env W1 Q) (h' : b = false → Runs (sSeq s3 s2) env W1 Q) : Runs (sSeq (sIf t s s3) s2) env W Q := by
  cases b with
  | true => exact ru_ifT e (h rfl)
  | false => exact ru_ifF e (h' rfl)
theorem ru_aug {o : Int → Int → Int} {x y : Int} (h : env[i]? = some (.pl (.int x))) (e : f env W = some (.int y, k, W1)) (h2 : Runs s2 (env.set i (.pl (.int (o x y)))) W1 Q) : Runs (sSeq (sAug i o f) s2) env W Q := ru_seq (by unfold sAug; rw [h, e]) h2
theorem ru_app {ds : List PyData} (ho : env[i]? = some (.ow (.list ds))) (e : f env W = some (d, k, W1)) (hk : esc k = true) (hl : ds.length < 16777216) (h2 : Runs s2 (env.set i (.ow (.list (ds ++ [d])))) W1 Q) : Runs (sSeq (sApp i f) s2) env W Q := ru_seq (fwApp ho e hk hl) h2
theorem ru_ext {ds es : List PyData} (ho : env[i]? = some (.ow (.list ds))) (e : f env W = some (.list es, k, W1)) (hl : ds.length + es.length ≤ 16777216) (h2 : Runs s2 (env.set i (.ow (.list (ds ++ es)))) W1 Q) : Runs (sSeq (sExt i f) s2) env W Q := ru_seq (fwExt ho e hl) h2
theorem ru_asg {tg : Tg} {e' : SEnv} (e : f env W = some (d, k, W1)) (hk : esc k = true) (ht : tg d env = some e') (h2 : Runs s2 e' W1 Q) : Runs (sSeq (sAsg f tg) s2) env W Q := ru_seq (by
  unfold sAsg
  rw [e, Option.bind_some]
  cases k with
  | im => dsimp only; rw [ht]; rfl
  | fr => dsimp only; rw [ht]; rfl
  | pk j => exact absurd hk Bool.false_ne_true) h2
/-- the end of a def -/
def Rt (d : PyData) : Ou → Prop := fun o => ∃ W, o = .rt d W
theorem rt_i : Rt d (.rt d W) := ⟨W, rfl⟩
theorem runF_of {n np : Nat} {ds : List PyData} (hl : ds.length = np) (h : Runs s (env0 n ds) [] (Rt d)) : runF n np s ds = some d := by
  obtain ⟨o, q1, W, rfl⟩ := h
  refine (runF_eq hl).trans ?_
  rw [q1]
  rfl
def Nxt (R : SEnv → Prop) : Ou → Prop := fun o => ∃ e W, o = .nx e W ∧ R e
theorem nxt_of {R : SEnv → Prop} (h : Runs s env W (Nxt R)) : ∃ e2 W2, s env W = some (.nx e2 W2) ∧ R e2 := by
  obtain ⟨o, q1, e, W', rfl, q2⟩ := h
  exact ⟨e, W', q1, q2⟩
/-- exactly this end -/
theorem end_of {o : Ou} (h : Runs s env W (fun x => x = o)) : s env W = some o := by
  obtain ⟨o', q1, rfl⟩ := h
  exact q1
end
end PX

namespace PX
open PySem
/-! ### pairs of numbers: the least and the greatest -/
def Q2 (p : Int × Int) : PyData := .tuple [.int p.1, .int p.2]
def lt2 (x y : Int × Int) : Bool := decide (x.1 < y.1 ∨ (x.1 = y.1 ∧ x.2 < y.2))
theorem dl2 (x y : Int × Int) : PySem.W.dataLt (Q2 x) (Q2 y) = lt2 x y := by
  unfold Q2 lt2
  rw [PySem.W.dataLt_pair (by simp [PySem.W.alike]) (by simp [PySem.W.alike]), PySem.W.dataLt_int, PySem.W.dataLt_int]
  simp only [PyData.eqv, beq_iff_eq]
  by_cases h1 : x.1 = y.1
  · rw [if_pos h1]
    by_cases h2 : x.2 = y.2
    · rw [if_pos h2]; simp [h1, h2]
    · rw [if_neg h2]; simp [h1]
  · rw [if_neg h1]; simp [h1]
theorem minOk2 (as : List (Int × Int)) : minOk (as.map Q2) = true := by
  unfold minOk
  rw [Bool.and_eq_true, Bool.and_eq_true]
  refine ⟨flats_D (α := Int × Int) (by decide) as, ?_, ?_⟩
  · unfold alikeB
    rw [List.all_map]
    refine List.all_eq_true.mpr fun r _ => ?_
    show ((as.map Q2).all fun e => PySem.W.alike (Q2 r) e) = true
    rw [List.all_map]
    refine List.all_eq_true.mpr fun q _ => ?_
    show PySem.W.alike (Q2 r) (Q2 q) = true
    simp [Q2, PySem.W.alike, PySem.W.alikeAll]
  · rw [List.all_map]
    exact List.all_eq_true.mpr fun r _ => rfl
def min2 (a : Int × Int) (as : List (Int × Int)) : Int × Int := as.foldl (fun a y => if lt2 y a = true then y else a) a
def max2 (a : Int × Int) (as : List (Int × Int)) : Int × Int := as.foldl (fun a y => if lt2 a y = true then y else a) a
theorem minD2 : ∀ (as : List (Int × Int)) (a : Int × Int), PySem.W.minD (Q2 a) (as.map Q2) = Q2 (min2 a as)
  | [], _ => rfl
  | b :: r, a => by
    show PySem.W.minD (if PySem.W.dataLt (Q2 b) (Q2 a) = true then Q2 b else Q2 a) (r.map Q2) = Q2 (min2 (if lt2 b a = true then b else a) r)
    rw [dl2, ← minD2 r]
    cases lt2 b a <;> rfl
theorem maxD2 : ∀ (as : List (Int × Int)) (a : Int × Int), PySem.W.maxD (Q2 a) (as.map Q2) = Q2 (max2 a as)
  | [], _ => rfl
  | b :: r, a => by
    show PySem.W.maxD (if PySem.W.dataLt (Q2 a) (Q2 b) = true then Q2 b else Q2 a) (r.map Q2) = Q2 (max2 (if lt2 a b = true then b else a) r)
    rw [dl2, ← maxD2 r]
    cases lt2 a b <;> rfl
theorem oMin2 (a : Int × Int) (as : List (Int × Int)) (k : Kd) : oMin [(.list ((a :: as).map Q2), k)] = some (Q2 (min2 a as), .im) := by
  have := minOk2 (a :: as)
  rw [List.map_cons] at *
  unfold oMin
  dsimp only
  rw [if_pos this, minD2]
theorem oMax2 (a : Int × Int) (as : List (Int × Int)) (k : Kd) : oMax [(.list ((a :: as).map Q2), k)] = some (Q2 (max2 a as), .im) := by
  have := minOk2 (a :: as)
  rw [List.map_cons] at *
  unfold oMax
  dsimp only
  rw [if_pos this, maxD2]
/-- turned round, the greatest is the least -/
theorem min2_map (φ : Int × Int → Int × Int) (h : ∀ x y, lt2 (φ y) (φ x) = lt2 x y) : ∀ (as : List (Int × Int)) (a : Int × Int), min2 (φ a) (as.map φ) = φ (max2 a as)
  | [], _ => rfl
  | b :: r, a => by
    show min2 (if lt2 (φ b) (φ a) = true then φ b else φ a) (r.map φ) = φ (max2 (if lt2 a b = true then b else a) r)
    rw [h, ← min2_map φ h r]
    cases lt2 a b <;> rfl
theorem pairs_eqnil (rs : List (Int × Int)) (k k' : Kd) : oEq [(.list (rs.map Q2), k), (.list [], k')] = some (.bool rs.isEmpty, .im) := by
  have hh := ev_eq (α := List (Int × Int)) (by decide) rs [] k k'
  have e2 : decide (rs = []) = rs.isEmpty := by cases rs <;> simp
  rw [e2] at hh
  exact hh
theorem eqQ2 (x y : Int × Int) (k k' : Kd) : oEq [(Q2 x, k), (Q2 y, k')] = some (.bool (decide (x = y)), .im) := ev_eq (α := Int × Int) (by decide) x y k k'
theorem neQ2 (x y : Int × Int) (k k' : Kd) : oNe [(Q2 x, k), (Q2 y, k')] = some (.bool (!decide (x = y)), .im) := ev_ne (α := Int × Int) (by decide) x y k k'
theorem ints_eqnil (rs : List Int) (k k' : Kd) : oEq [(.list (rs.map PyData.int), k), (.list [], k')] = some (.bool rs.isEmpty, .im) := by
  have hh := ev_eq (α := List Int) (by decide) rs [] k k'
  have e2 : decide (rs = []) = rs.isEmpty := by cases rs <;> simp
  rw [e2] at hh
  exact hh
theorem ints_nenil (rs : List Int) (k k' : Kd) : oNe [(.list (rs.map PyData.int), k), (.list [], k')] = some (.bool (!rs.isEmpty), .im) := by
  have hh := ev_ne (α := List Int) (by decide) rs [] k k'
  have e2 : decide (rs = []) = rs.isEmpty := by cases rs <;> simp
  rw [e2] at hh
  exact hh
/-! ### ranges -/
/-- lo, lo + 1, .. -/
def rgZ (lo : Int) (n : Nat) : List Int := (List.range n).map fun i : Nat => lo + (i : Int)
theorem rgI_Z (lo : Int) (n : Nat) : rgI lo n = (rgZ lo n).map PyData.int := rgI_map lo n
theorem rgZ_mem {lo : Int} {n : Nat} {x : Int} : x ∈ rgZ lo n ↔ lo ≤ x ∧ x < lo + n := by
  unfold rgZ
  rw [List.mem_map]
  constructor
  · rintro ⟨i, hi, rfl⟩
    have := List.mem_range.mp hi
    omega
  · intro h
    exact ⟨(x - lo).toNat, List.mem_range.mpr (by omega), by omega⟩
theorem rgZ_len (lo : Int) (n : Nat) : (rgZ lo n).length = n := by unfold rgZ; rw [List.length_map, List.length_range]
theorem rgZ_add (lo : Int) (a b : Nat) : rgZ lo (a + b) = rgZ lo a ++ rgZ (lo + a) b := by
  unfold rgZ
  rw [List.range_add, List.map_append, List.map_map]
  congr 1
  refine List.map_congr_left fun i _ => ?_
  simp only [Function.comp_apply]
  omega
theorem rgZ_get {lo : Int} {n i : Nat} (h : i < n) : (rgZ lo n)[i]? = some (lo + (i : Int)) := by
  unfold rgZ
  rw [List.getElem?_map, List.getElem?_range h]
  rfl
theorem rgZ_lt (lo : Int) (n : Nat) : (rgZ lo n).Pairwise (· < ·) := by
  unfold rgZ
  rw [List.pairwise_map]
  exact List.pairwise_lt_range.imp fun h => by omega
theorem rgZ_nodup (lo : Int) (n : Nat) : (rgZ lo n).Nodup := (rgZ_lt lo n).imp fun h => by omega
/-- those of a range within bounds -/
theorem rgZ_filter (p : Int → Bool) (A B : Int) (n : Nat) (hA : 0 ≤ A) (hAB : A ≤ B + 1) (hB : B < n) (hp : ∀ i : Int, 0 ≤ i → i < (n : Int) → (p i = true ↔ A ≤ i ∧ i ≤ B)) : (rgZ 0 n).filter p = rgZ A (B + 1 - A).toNat := by
  have e : n = A.toNat + ((B + 1 - A).toNat + (n - (B + 1).toNat)) := by omega
  rw [e, rgZ_add, rgZ_add, List.filter_append, List.filter_append]
  have e1 : (rgZ 0 A.toNat).filter p = [] := List.filter_eq_nil_iff.mpr fun x hx => by
    have h := rgZ_mem.mp hx
    rw [hp x (by omega) (by omega)]
    omega
  have e0 : (0 : Int) + (A.toNat : Int) = A := by omega
  rw [e0]
  have e2 : (rgZ A (B + 1 - A).toNat).filter p = rgZ A (B + 1 - A).toNat := List.filter_eq_self.mpr fun x hx => by
    have h := rgZ_mem.mp hx
    exact (hp x (by omega) (by omega)).mpr (by omega)
  have e3 : (rgZ (A + ((B + 1 - A).toNat : Int)) (n - (B + 1).toNat)).filter p = [] := List.filter_eq_nil_iff.mpr fun x hx => by
    have h := rgZ_mem.mp hx
    rw [hp x (by omega) (by omega)]
    omega
  rw [e1, e2, e3, List.nil_append, List.append_nil]
/-- the first and the last of a list -/
theorem ix_last {ds : List PyData} {d : PyData} (k k' : Kd) : oIx [(.list (ds ++ [d]), k), (.int (-1), k')] = some (d, .im) := by
  have e : L2.atI (ds ++ [d]) (-1 : Int) = some d := by
    unfold L2.atI
    have e2 : L2.ixN (ds ++ [d]).length (-1) = some ds.length := by
      unfold L2.ixN
      rw [List.length_append]
      simp
      omega
    rw [e2]
    simp
  simp only [oIx, e, Option.map_some]
theorem rgZ_last (lo : Int) (n : Nat) : rgZ lo (n + 1) = rgZ lo n ++ [lo + (n : Int)] := by
  rw [rgZ_add]
  simp [rgZ]
theorem rgZ_head (lo : Int) (n : Nat) : rgZ lo (n + 1) = lo :: rgZ (lo + 1) n := by
  rw [Nat.add_comm n 1, rgZ_add]
  simp [rgZ]
/-- f(first), f(second), .. of a comprehension with nothing left out -/
theorem lcL_map {α : Type} {t : Tg} {e : Ex} {env : SEnv} {W : List Int} (emb : α → PyData) (r : α → PyData) (xs : List α) (h : ∀ a ∈ xs, ∃ e1 kd, t (emb a) env = some e1 ∧ e e1 W = some (r a, kd, W) ∧ esc kd = true) : lcL t kTrue e (xs.map emb) env W = some (xs.map r, W) := by
  have := lcL_fm (t := t) (c := kTrue) (e := e) (env := env) (W := W) emb (fun _ => true) r xs (fun a ha => by
    obtain ⟨e1, kd, h1, h2, h3⟩ := h a ha
    exact ⟨e1, h1, rfl, fun _ => ⟨kd, h2, h3⟩⟩)
  rwa [show xs.filter (fun _ => true) = xs by simp] at this
end PX
namespace PX
open PySem
section
variable {env : SEnv} {W W1 W2 : List Int} {f g : Ex} {k1 k2 : Kd}
theorem fwR1Z {hi : Int} (e1 : f env W = some (.int hi, k1, W1)) (h3 : hi ≤ 1000000) (h4 : -1000000 ≤ hi) : iR1 f env W = some ((rgZ 0 hi.toNat).map PyData.int, .im, W1) := by rw [← rgI_Z]; exact fwR1 e1 h3 h4
theorem fwR2Z {lo hi : Int} (e1 : f env W = some (.int lo, k1, W1)) (e2 : g env W1 = some (.int hi, k2, W2)) (h1 : lo ≤ 1000000) (h2 : -1000000 ≤ lo) (h3 : hi ≤ 1000000) (h4 : -1000000 ≤ hi) : iR2 f g env W = some ((rgZ lo (hi - lo).toNat).map PyData.int, .im, W2) := by rw [← rgI_Z]; exact fwR2 e1 e2 h1 h2 h3 h4
end
end PX
namespace PX
open PySem
/-- a list made of a list, compared with [] -/
theorem lst_eqnil {α β : Type} [DecidableEq β] [PySem.W.Datum β] (hd : PySem.W.Datum.depth (List β) ≤ 60) (f : α → PyData) (g : α → β) (h : ∀ a, f a = D (g a)) (xs : List α) (k k' : Kd) : oEq [(.list (xs.map f), k), (.list [], k')] = some (.bool xs.isEmpty, .im) := by
  have hh := ev_eq (α := List β) hd (xs.map g) [] k k'
  have e1 : (D (xs.map g) : PyData) = .list (xs.map f) := by
    show PyData.list ((xs.map g).map _) = _
    rw [List.map_map]
    congr 1
    exact List.map_congr_left fun a _ => (h a).symm
  have e2 : decide (xs.map g = []) = xs.isEmpty := by cases xs <;> simp
  rw [e1, e2] at hh
  exact hh
end PX

namespace PX
open PySem
section
variable {env : SEnv} {W W1 W2 : List Int} {f g h : Ex} {d1 d2 d3 : PyData} {k1 k3 : Kd} {op op' : Op}
theorem fwChain {b c : Bool} (e1 : f env W = some (d1, k1, W1)) (e2 : g env W1 = some (d2, .im, W2)) (o1 : op [(d1, k1), (d2, .im)] = some (.bool b, .im)) (e3 : b = true → h env W2 = some (d3, k3, W2)) (o2 : b = true → op' [(d2, .im), (d3, k3)] = some (.bool c, .im)) : cChain op op' f g h env W = some (.bool (b && c), .im, W2) := by
  unfold cChain
  rw [e1, Option.bind_some, e2, Option.bind_some]
  dsimp only
  rw [o1]
  dsimp only
  cases b with
  | true => rw [if_pos rfl, e3 rfl, Option.bind_some, o2 rfl]; rfl
  | false => rfl
end
theorem lenI (xs : List Int) (k : Kd) : oLen [(T xs, k)] = some (.int xs.length, .im) := by
  show some (PyData.int ((xs.map PyData.int).length : Nat), Kd.im) = _
  rw [List.length_map]
theorem lenIL (xs : List Int) (k : Kd) : oLen [(.list (xs.map PyData.int), k)] = some (.int xs.length, .im) := by
  show some (PyData.int ((xs.map PyData.int).length : Nat), Kd.im) = _
  rw [List.length_map]
theorem lenM {α : Type} (f : α → PyData) (xs : List α) (k : Kd) : oLen [(.tuple (xs.map f), k)] = some (.int xs.length, .im) := by
  show some (PyData.int ((xs.map f).length : Nat), Kd.im) = _
  rw [List.length_map]
theorem lenML {α : Type} (f : α → PyData) (xs : List α) (k : Kd) : oLen [(.list (xs.map f), k)] = some (.int xs.length, .im) := by
  show some (PyData.int ((xs.map f).length : Nat), Kd.im) = _
  rw [List.length_map]
/-- the draws may go on, the rounds are counted -/
theorem forL_drawC {α : Type} {t : Tg} {g : Sx} (emb : α → PyData) (N : Nat) (R : Nat → SEnv → Prop) : ∀ (xs : List α) (n : Nat) (env : SEnv) (W : List Int), n + xs.length ≤ N → R n env → (∀ a ∈ xs, ∀ n env W, n < N → R n env → ∃ e1 e2 W', t (emb a) env = some e1 ∧ g e1 W = some (.nx e2 W') ∧ R (n + 1) e2) →
    ∃ e' W', forL t g (xs.map emb) env W = some (.nx e' W') ∧ R (n + xs.length) e'
  | [], _, env, W, _, h, _ => ⟨env, W, rfl, h⟩
  | a :: xs, n, env, W, hN, h, st => by
    rw [List.length_cons] at hN
    obtain ⟨e1, e2, W', h1, h2, h3⟩ := st a (by simp) n env W (by omega) h
    obtain ⟨e', W2, h4, h5⟩ := forL_drawC emb N R xs (n + 1) e2 W' (by omega) h3 fun b hb => st b (by simp [hb])
    refine ⟨e', W2, ?_, by rw [List.length_cons, Nat.add_comm xs.length 1, ← Nat.add_assoc]; exact h5⟩
    simp only [List.map_cons, forL, h1, Option.bind_some, h2]
    exact h4
/-- law(): so many turns, then True -/
theorem law_of {m : Int} {turn : Sx} {is : List Nat} {e0 : SEnv} {W : List Int} (R : SEnv → Prop) (hm : 0 ≤ m) (h2 : m ≤ 1000) (h0 : R e0) (ht : ∀ env W a, R env → Runs turn (env.set 2 (.pl (.int a))) W (Nxt R)) :
    ∃ W', sSeq (sFor (iR1 (cK (.int m))) (gN 2) turn) (sWipe is (sSeq (sRetK (cK (.bool true))) sNil)) e0 W = some (.rt (.bool true) W') := by
  have hit : iR1 (cK (.int m)) e0 W = some ((rgZ 0 m.toNat).map PyData.int, .im, W) := fwR1Z rfl (by omega) (by omega)
  obtain ⟨e', W', h1, _⟩ := forL_draw (t := gN 2) (g := turn) PyData.int R (rgZ 0 m.toNat) e0 W h0 (fun a _ env W hR => by
    obtain ⟨e2, W2, q1, q2⟩ := nxt_of (ht env W a hR)
    exact ⟨_, e2, W2, rfl, q1, q2⟩)
  refine ⟨W', ?_⟩
  rw [sSeq_nx ((fwFor hit rfl).trans h1)]
  exact fwSeqR (fwRet rfl rfl)
end PX

namespace PX
open PySem
/-! ### sums, the greatest and the least of numbers -/
theorem sumI (xs : List Int) (k : Kd) : oSum [(.list (xs.map PyData.int), k)] = some (.int xs.sum, .im) := by
  unfold oSum
  dsimp only
  rw [intsOf_map]
  rfl
theorem sumT (xs : List Int) (k : Kd) : oSum [(T xs, k)] = some (.int xs.sum, .im) := by
  show (intsOf (xs.map PyData.int)).map _ = _
  rw [intsOf_map]
  rfl
theorem sumM {α : Type} (g : α → Int) (xs : List α) (k : Kd) : oSum [(.list (xs.map fun a => PyData.int (g a)), k)] = some (.int (xs.map g).sum, .im) := by
  have := sumI (xs.map g) k
  rw [List.map_map] at this
  exact this
theorem minOkI (xs : List Int) : minOk (xs.map PyData.int) = true := by
  unfold minOk
  rw [Bool.and_eq_true, Bool.and_eq_true]
  refine ⟨flats_D (α := Int) (by decide) xs, ?_, ?_⟩
  · unfold alikeB
    rw [List.all_map]
    refine List.all_eq_true.mpr fun r _ => ?_
    show ((xs.map PyData.int).all fun e => PySem.W.alike (.int r) e) = true
    rw [List.all_map]
    exact List.all_eq_true.mpr fun q _ => by simp [PySem.W.alike]
  · rw [List.all_map]
    exact List.all_eq_true.mpr fun r _ => rfl
theorem oMaxI (a : Int) (xs : List Int) (k : Kd) : oMax [(.list ((a :: xs).map PyData.int), k)] = some (.int (xs.foldl max a), .im) := by
  have h := minOkI (a :: xs)
  rw [List.map_cons] at *
  unfold oMax
  dsimp only
  rw [if_pos h, PySem.W.maxD_ints]
theorem oMinI (a : Int) (xs : List Int) (k : Kd) : oMin [(.list ((a :: xs).map PyData.int), k)] = some (.int (xs.foldl min a), .im) := by
  have h := minOkI (a :: xs)
  rw [List.map_cons] at *
  unfold oMin
  dsimp only
  rw [if_pos h, PySem.W.minD_ints]
theorem max2I (a b : Int) (k k' : Kd) : oMax [(.int a, k), (.int b, k')] = some (.int (max a b), .im) := by
  show some (PyData.int (if b > a then b else a), Kd.im) = _
  congr 3
  split <;> omega
theorem min2I (a b : Int) (k k' : Kd) : oMin [(.int a, k), (.int b, k')] = some (.int (min a b), .im) := by
  show some (PyData.int (if b < a then b else a), Kd.im) = _
  congr 3
  split <;> omega
theorem foldl_max_le : ∀ (xs : List Int) (a : Int), a ≤ xs.foldl max a ∧ ∀ x ∈ xs, x ≤ xs.foldl max a
  | [], a => ⟨Int.le_refl _, fun x h => by simp at h⟩
  | y :: r, a => by
    obtain ⟨h1, h2⟩ := foldl_max_le r (max a y)
    rw [List.foldl_cons]
    refine ⟨by omega, fun x hx => ?_⟩
    rcases List.mem_cons.mp hx with e | e
    · omega
    · exact h2 x e
theorem foldl_max_mem : ∀ (xs : List Int) (a : Int), xs.foldl max a = a ∨ xs.foldl max a ∈ xs
  | [], a => .inl rfl
  | y :: r, a => by
    rw [List.foldl_cons]
    rcases foldl_max_mem r (max a y) with h | h
    · rcases (show max a y = a ∨ max a y = y by omega) with e | e
      · exact .inl (by rw [h, e])
      · exact .inr (by rw [h, e]; simp)
    · exact .inr (by simp [h])
theorem foldl_max_lub {xs : List Int} {a b : Int} (h0 : a ≤ b) (h : ∀ x ∈ xs, x ≤ b) : xs.foldl max a ≤ b := by
  rcases foldl_max_mem xs a with e | e
  · rw [e]; exact h0
  · exact h _ e
/-! ### lists put together -/
theorem addL (a b : List PyData) (h : a.length + b.length ≤ 16777216) (k k' : Kd) : oAdd [(.list a, k), (.list b, k')] = some (.list (a ++ b), .fr) := by
  show (if a.length + b.length ≤ 16777216 then _ else _) = _
  rw [if_pos h]
theorem addT (a b : List PyData) (h : a.length + b.length ≤ 16777216) (k k' : Kd) : oAdd [(.tuple a, k), (.tuple b, k')] = some (.tuple (a ++ b), .im) := by
  show (if a.length + b.length ≤ 16777216 then _ else _) = _
  rw [if_pos h]
/-! ### the first of the greatest -/
theorem first_max {α : Type} (f : α → Int) : ∀ (xs : List α) (b : α), (b :: xs).find? (fun s => decide (f s = (xs.map f).foldl max (f b))) = some (xs.foldl (fun b s => if f b < f s then s else b) b)
  | [], b => by simp
  | y :: r, b => by
    rw [List.map_cons, List.foldl_cons, List.foldl_cons]
    by_cases h : f b < f y
    · have e : max (f b) (f y) = f y := by omega
      rw [e, if_pos h]
      have hm := (foldl_max_le (r.map f) (f y)).1
      rw [List.find?_cons_of_neg (by simp; omega)]
      exact first_max f r y
    · have e : max (f b) (f y) = f b := by omega
      rw [e, if_neg h]
      have ih := first_max f r b
      have hm := (foldl_max_le (r.map f) (f b)).1
      by_cases hb : f b = (r.map f).foldl max (f b)
      · rw [List.find?_cons_of_pos (by simpa using hb)] at ih ⊢
        exact ih
      · rw [List.find?_cons_of_neg (by simpa using hb)] at ih ⊢
        rw [List.find?_cons_of_neg (by simp; omega)]
        exact ih
theorem foldl_if_filter {α β : Type} (p : α → Bool) (q : β → α → Bool) (g : β → α → β) : ∀ (xs : List α) (b : β), xs.foldl (fun b s => if (q b s && p s) = true then g b s else b) b = (xs.filter p).foldl (fun b s => if q b s = true then g b s else b) b
  | [], _ => rfl
  | y :: r, b => by
    rw [List.foldl_cons, foldl_if_filter p q g r]
    cases hp : p y with
    | true => rw [List.filter_cons_of_pos hp, List.foldl_cons, Bool.and_true]
    | false => rw [List.filter_cons_of_neg (by rw [hp]; exact Bool.false_ne_true), Bool.and_false]; rfl
/-! ### slices -/
theorem cutD_to (ds : List PyData) (n : Nat) : cutD ds none (some (n : Int)) = ds.take n := by
  unfold cutD
  rw [HT.sIx_none, HT.sIx_nat]
  simp only [List.drop_zero, Nat.sub_zero]
  rcases Nat.le_total n ds.length with h | h
  · rw [Nat.min_eq_left h]
  · rw [Nat.min_eq_right h, List.take_of_length_le (Nat.le_refl _), List.take_of_length_le h]
section
variable {env : SEnv} {W W1 W2 W3 : List Int} {f g h : Ex} {k k1 k2 : Kd} {d : PyData}
theorem fwTo {ds : List PyData} {n : Nat} (e1 : f env W = some (.tuple ds, k1, W1)) (e2 : g env W1 = some (.int (n : Nat), k2, W2)) : cSlice f none (some g) env W = some (.tuple (ds.take n), .im, W2) := by
  unfold cSlice
  rw [e1, Option.bind_some]
  simp only [PX.part, Option.bind_some, e2, oSl, Option.map_some, cutD_to]
theorem fwToL {ds : List PyData} {n : Nat} (e1 : f env W = some (.list ds, k1, W1)) (e2 : g env W1 = some (.int (n : Nat), k2, W2)) : cSlice f none (some g) env W = some (.list (ds.take n), .fr, W2) := by
  unfold cSlice
  rw [e1, Option.bind_some]
  simp only [PX.part, Option.bind_some, e2, oSl, Option.map_some, cutD_to]
theorem cutD_but (ds : List PyData) : cutD ds none (some (-1)) = ds.dropLast := by
  unfold cutD
  rw [HT.sIx_none]
  have e : HT.sIx ds.length ds.length (some (-1)) = ds.length - 1 := by
    unfold HT.sIx
    simp
    omega
  rw [e, List.drop_zero, Nat.sub_zero, List.dropLast_eq_take]
theorem fwBut {ds : List PyData} (e1 : f env W = some (.tuple ds, k1, W1)) (e2 : g env W1 = some (.int (-1), k2, W2)) : cSlice f none (some g) env W = some (.tuple ds.dropLast, .im, W2) := by
  unfold cSlice
  rw [e1, Option.bind_some]
  simp only [PX.part, Option.bind_some, e2, oSl, Option.map_some, cutD_but]
theorem fwCAnd {b c : Bool} (e1 : f env W = some (.bool b, k1, W1)) (e2 : b = true → g env W1 = some (.bool c, .im, W1)) : cAnd f g env W = some (.bool (b && c), .im, W1) := by
  unfold cAnd
  rw [e1]
  cases b with
  | true => dsimp only; rw [if_pos rfl, e2 rfl]; rfl
  | false => rfl
theorem fwCNot {b : Bool} (e1 : f env W = some (.bool b, k1, W1)) : cNot f env W = some (.bool (!b), .im, W1) := by
  unfold cNot
  rw [e1]
theorem fwR3 {lo hi : Int} (e1 : f env W = some (.int lo, k, W1)) (e2 : g env W1 = some (.int hi, k1, W2)) (e3 : h env W2 = some (.int (-1), k2, W3)) (h1 : lo ≤ 1000000) (h2 : -1000000 ≤ lo) (h3 : hi ≤ 1000000) (h4 : -1000000 ≤ hi) : iR3 f g h env W = some (((List.range (lo - hi).toNat).map fun i : Nat => lo - (i : Int)).map PyData.int, .im, W3) := by
  unfold iR3
  rw [e1]
  simp only [e2, e3]
  rw [if_pos ⟨h1, h2, h3, h4⟩]
  unfold rgD
  rw [List.map_map]
  congr 2
  refine List.map_congr_left fun i _ => ?_
  show PyData.int (lo + (i : Nat) * (-1)) = PyData.int (lo - (i : Int))
  congr 1
  omega
end
theorem allBo {α : Type} (p : α → Bool) (xs : List α) (k : Kd) : oAll [(.list (xs.map fun a => PyData.bool (p a)), k)] = some (.bool (xs.all p), .im) := by
  have e : ∀ xs : List α, boolsOf (xs.map fun a => PyData.bool (p a)) = some (xs.map p) := fun xs => by
    induction xs with
    | nil => rfl
    | cons x r ih => rw [List.map_cons, boolsOf, ih]; rfl
  unfold oAll
  dsimp only
  rw [e, Option.map_some, List.all_map]
  rfl
/-- a list or a tuple of pairs -/
def SqQ (d : PyData) (as : List (Int × Int)) : Prop := d = .list (as.map Q2) ∨ d = .tuple (as.map Q2)
theorem iSeq_q {f : Ex} {env : SEnv} {W W' : List Int} {d : PyData} {as : List (Int × Int)} (h : SqQ d as) (e : f env W = some (d, .im, W')) : iSeq f env W = some (as.map Q2, .im, W') := by
  rcases h with rfl | rfl
  · exact fwSeqL e
  · exact fwSeqT e
theorem len_q {d : PyData} {as : List (Int × Int)} (h : SqQ d as) (k : Kd) : oLen [(d, k)] = some (.int as.length, .im) := by
  rcases h with rfl | rfl
  · exact lenML _ _ _
  · exact lenM _ _ _
theorem ixI {xs : List Int} {i : Int} (h0 : 0 ≤ i) (h1 : i < xs.length) (k k' : Kd) : oIx [(.list (xs.map PyData.int), k), (.int i, k')] = some (.int ((xs[i.toNat]?).getD 0), .im) := by
  obtain ⟨n, rfl⟩ : ∃ n : Nat, i = n := ⟨i.toNat, by omega⟩
  have hn : n < xs.length := by omega
  rw [show ((n : Nat) : Int).toNat = n from rfl, List.getElem?_eq_getElem hn]
  exact fwIxNL (by rw [List.getElem?_map, List.getElem?_eq_getElem hn]; rfl) _ _
theorem ixT {xs : List Int} {i : Int} (h0 : 0 ≤ i) (h1 : i < xs.length) (k k' : Kd) : oIx [(T xs, k), (.int i, k')] = some (.int ((xs[i.toNat]?).getD 0), .im) := by
  obtain ⟨n, rfl⟩ : ∃ n : Nat, i = n := ⟨i.toNat, by omega⟩
  have hn : n < xs.length := by omega
  rw [show ((n : Nat) : Int).toNat = n from rfl, List.getElem?_eq_getElem hn]
  exact fwIxN (by rw [List.getElem?_map, List.getElem?_eq_getElem hn]; rfl) _ _
def pAt (as : List (Int × Int)) (k : Int) : Int × Int := (as[k.toNat]?).getD (0, 0)
theorem ix_q {d : PyData} {as : List (Int × Int)} (h : SqQ d as) {i : Int} (h0 : 0 ≤ i) (h1 : i < as.length) (k k' : Kd) : oIx [(d, k), (.int i, k')] = some (Q2 (pAt as i), .im) := by
  obtain ⟨n, rfl⟩ : ∃ n : Nat, i = n := ⟨i.toNat, by omega⟩
  have hn : n < as.length := by omega
  have e : pAt as n = as[n] := by
    unfold pAt
    rw [show ((n : Nat) : Int).toNat = n from rfl, List.getElem?_eq_getElem hn]
    rfl
  rw [e]
  rcases h with rfl | rfl
  · exact fwIxNL (by rw [List.getElem?_map, List.getElem?_eq_getElem hn]; rfl) _ _
  · exact fwIxN (by rw [List.getElem?_map, List.getElem?_eq_getElem hn]; rfl) _ _
end PX

namespace PX
open PySem PySem.Spec PyProof.Rows L2
/-! ### (number, number, row of numbers): the least -/
def trD (a b : Int) (s : List Int) : PyData := .tuple [.int a, .int b, T s]
def ltTr (x y : Int × Int × List Int) : Bool := decide (x.1 < y.1 ∨ (x.1 = y.1 ∧ (x.2.1 < y.2.1 ∨ (x.2.1 = y.2.1 ∧ x.2.2 < y.2.2))))
def tr (x : Int × Int × List Int) : PyData := trD x.1 x.2.1 x.2.2
theorem dl_tr (x y : Int × Int × List Int) : PySem.W.dataLt (tr x) (tr y) = ltTr x y := by
  obtain ⟨a, b, s⟩ := x
  obtain ⟨a', b', s'⟩ := y
  unfold tr trD ltTr
  have al : PySem.W.alike (T s) (T s') = true := by rw [PySem.W.alike]; exact PySem.W.alike_ints s s'
  rw [PySem.W.dataLt_tuple, PySem.W.dataLt_cons (by simp [PySem.W.alike]), PySem.W.dataLt_cons (by simp [PySem.W.alike]), PySem.W.dataLt_cons al, PySem.W.dataLt_int, PySem.W.dataLt_int, dataLt_T, eqv_T]
  have e : PyProof.Rows.lexLt itemOrd (PySem.W.keyToksAll []) (PySem.W.keyToksAll []) = false := lex_irrefl _
  rw [e]
  simp only [PyData.eqv, beq_iff_eq]
  by_cases h1 : a = a'
  · rw [if_pos h1]
    by_cases h2 : b = b'
    · rw [if_pos h2]
      by_cases h3 : s = s'
      · subst h3
        have : ¬ s < s := List.lt_irrefl s
        simp [h1, h2, this]
      · simp [h1, h2, h3]
    · rw [if_neg h2]; simp [h1, h2]
  · rw [if_neg h1]; simp [h1]
theorem flat_tr (x : Int × Int × List Int) : flat (tr x) = true := by
  have h := flat_D (α := PySem.W.Tup Int) (by decide) (PySem.W.Tup.mk x.2.2)
  have h2 : (T x.2.2).depth ≤ 1 := PySem.W.Datum.depth_le (PySem.W.Tup.mk x.2.2)
  unfold flat at *
  rw [Bool.and_eq_true] at *
  have h3 : noDs (x.2.2.map PyData.int) = true := by
    have h4 : noD (T x.2.2) = true := h.1
    rwa [noD] at h4
  refine ⟨by simp [tr, trD, noD, noDs, h3], ?_⟩
  rw [decide_eq_true_eq]
  unfold tr trD
  simp only [PyData.depth, PyData.depthAll] at h2 ⊢
  omega
theorem minOk_tr (xs : List (Int × Int × List Int)) : minOk (xs.map tr) = true := by
  unfold minOk
  rw [Bool.and_eq_true, Bool.and_eq_true]
  refine ⟨?_, ?_, ?_⟩
  · rw [List.all_map]
    exact List.all_eq_true.mpr fun r _ => flat_tr r
  · unfold alikeB
    rw [List.all_map]
    refine List.all_eq_true.mpr fun r _ => ?_
    show ((xs.map tr).all fun e => PySem.W.alike (tr r) e) = true
    rw [List.all_map]
    refine List.all_eq_true.mpr fun q _ => ?_
    have al : PySem.W.alike (T r.2.2) (T q.2.2) = true := by rw [PySem.W.alike]; exact PySem.W.alike_ints _ _
    show PySem.W.alike (tr r) (tr q) = true
    unfold tr trD
    simp [PySem.W.alike, PySem.W.alikeAll]
    simpa [PySem.W.alike] using al
  · rw [List.all_map]
    exact List.all_eq_true.mpr fun r _ => rfl
theorem minD_tr : ∀ (xs : List (Int × Int × List Int)) (a : Int × Int × List Int), PySem.W.minD (tr a) (xs.map tr) = tr (xs.foldl (fun a y => if ltTr y a = true then y else a) a)
  | [], _ => rfl
  | b :: r, a => by
    show PySem.W.minD (if PySem.W.dataLt (tr b) (tr a) = true then tr b else tr a) (r.map tr) = tr (r.foldl _ (if ltTr b a = true then b else a))
    rw [dl_tr, ← minD_tr r]
    cases ltTr b a <;> rfl
theorem oMin_tr (a : Int × Int × List Int) (xs : List (Int × Int × List Int)) (k : Kd) : oMin [(.list ((a :: xs).map tr), k)] = some (tr (xs.foldl (fun a y => if ltTr y a = true then y else a) a), .im) := by
  have h := minOk_tr (a :: xs)
  rw [List.map_cons] at *
  unfold oMin
  dsimp only
  rw [if_pos h, minD_tr]
/-- sets by their sizes: the least (less worth, size, set) is the first of the greatest worth -/
theorem min_sets (w : List Int → Int) : ∀ (xs : List (List Int)) (b : List Int), (b :: xs).Pairwise (fun a c => a.length < c.length ∨ (a.length = c.length ∧ a < c)) →
    ((xs.map fun s => ((0 - w s, (s.length : Int), s) : Int × Int × List Int)).foldl (fun a y => if ltTr y a = true then y else a) (0 - w b, (b.length : Int), b)) = (fun s => (0 - w s, (s.length : Int), s)) (xs.foldl (fun b s => if w b < w s then s else b) b)
  | [], _, _ => rfl
  | y :: r, b, hp => by
    rw [List.map_cons, List.foldl_cons, List.foldl_cons]
    have hby : b.length < y.length ∨ (b.length = y.length ∧ b < y) := (List.pairwise_cons.mp hp).1 y (by simp)
    have hyr := (List.pairwise_cons.mp hp).2
    have hbr : (b :: r).Pairwise (fun a c => a.length < c.length ∨ (a.length = c.length ∧ a < c)) := List.pairwise_cons.mpr ⟨fun c hc => (List.pairwise_cons.mp hp).1 c (by simp [hc]), (List.pairwise_cons.mp hyr).2⟩
    have key : ltTr (0 - w y, (y.length : Int), y) (0 - w b, (b.length : Int), b) = decide (w b < w y) := by
      unfold ltTr
      refine decide_eq_decide.mpr ?_
      show (0 - w y < 0 - w b ∨ (0 - w y = 0 - w b ∧ ((y.length : Int) < b.length ∨ ((y.length : Int) = b.length ∧ y < b)))) ↔ _
      constructor
      · rintro (h | ⟨_, h | ⟨h1, h2⟩⟩)
        · omega
        · omega
        · rcases hby with h3 | ⟨_, h3⟩
          · omega
          · exact absurd (List.lt_trans h2 h3) (List.lt_irrefl y)
      · intro h
        exact .inl (by omega)
    rw [key]
    by_cases h : w b < w y
    · rw [if_pos h, if_pos (by simpa using h)]
      exact min_sets w r y hyr
    · rw [if_neg h, if_neg (by simpa using h)]
      exact min_sets w r b hbr
theorem allS_sz (n : Nat) : (allS (rgZ 0 n)).Pairwise (fun a c => a.length < c.length ∨ (a.length = c.length ∧ a < c)) := by
  have := allS_lt (rgZ 0 n) (rgZ_lt 0 n)
  rw [List.pairwise_map] at this
  refine this.imp fun h => ?_
  rw [szP_lt] at h
  simpa using h
end PX
namespace PX
open PySem
/-- with draws -/
theorem lcL_drawG {α β : Type} {t : Tg} {c : Ct} {e : Ex} {env : SEnv} (emb : α → PyData) (r : β → PyData) (P : β → Prop) : ∀ (xs : List α) (W : List Int), (∀ a ∈ xs, ∀ W, ∃ e1 b kd W', t (emb a) env = some e1 ∧ c e1 W = some (true, W) ∧ e e1 W = some (r b, kd, W') ∧ esc kd = true ∧ P b) →
    ∃ (bs : List β) (W' : List Int), lcL t c e (xs.map emb) env W = some (bs.map r, W') ∧ bs.length = xs.length ∧ ∀ b ∈ bs, P b
  | [], W, _ => ⟨[], W, rfl, rfl, fun x hx => by simp at hx⟩
  | a :: xs, W, h => by
    obtain ⟨e1, x, kd, W', h1, h2, h3, h4, h5⟩ := h a (by simp) W
    obtain ⟨ns, W2, i1, i2, i3⟩ := lcL_drawG emb r P xs W' fun b hb => h b (by simp [hb])
    refine ⟨x :: ns, W2, ?_, by rw [List.length_cons, List.length_cons, i2], fun y hy => ?_⟩
    · rw [List.map_cons, lcL, h1, Option.bind_some, h2, Option.bind_some]
      dsimp only
      rw [if_pos rfl, h3, Option.bind_some]
      dsimp only
      rw [if_pos h4, i1]
      rfl
    · rcases List.mem_cons.mp hy with e | e
      · rw [e]; exact h5
      · exact i3 y e
theorem tup_mem (x : List Int) (rs : List (List Int)) : decide (PySem.W.Tup.mk x ∈ rs.map PySem.W.Tup.mk) = decide (x ∈ rs) := decide_eq_decide.mpr ⟨fun h => by
  obtain ⟨y, hy, e⟩ := List.mem_map.mp h
  cases e
  exact hy, fun h => List.mem_map.mpr ⟨x, h, rfl⟩⟩
theorem niTL (x : List Int) (rs : List (List Int)) (k k' : Kd) : oNotIn [(T x, k), (.list (rs.map T), k')] = some (.bool (!decide (x ∈ rs)), .im) := by
  have h := ev_niL (α := PySem.W.Tup Int) (by decide) ⟨x⟩ (rs.map PySem.W.Tup.mk) k k'
  rw [tup_mem, List.map_map] at h
  exact h
theorem inTL (x : List Int) (rs : List (List Int)) (k k' : Kd) : oIn [(T x, k), (.list (rs.map T), k')] = some (.bool (decide (x ∈ rs)), .im) := by
  have h := ev_inL (α := PySem.W.Tup Int) (by decide) ⟨x⟩ (rs.map PySem.W.Tup.mk) k k'
  rw [tup_mem, List.map_map] at h
  exact h
end PX
namespace PX
open PySem
section
variable {env : SEnv} {W W1 W2 : List Int} {f : Ex} {fs : List Ex} {d dr : PyData} {k kr : Kd} {ts : List Dk} {op : Op}
theorem fwA0 : cArgs [] env W = some ([], W) := rfl
theorem fwA (e1 : f env W = some (d, k, W1)) (e2 : cArgs fs env W1 = some (ts, W2)) : cArgs (f :: fs) env W = some ((d, k) :: ts, W2) := by simp [cArgs, e1, e2]
theorem fwN (e : cArgs fs env W = some (ts, W1)) (o : op ts = some (dr, kr)) : cCall op fs env W = some (dr, kr, W1) := by simp [cCall, e, o]
end
end PX

namespace PX
open PySem PySem.Spec PyProof.Rows L2
/-! ### {}, dict(pairs), dict(d), numbers of the module -/
def cDnew : Ex := fun _ W => some (.dict [], .fr, W)
def cDnewT : Ex := fun _ W => some (.dict [(.none, .none)], .fr, W)
section
variable {X : Cx} {pos : Pos}
theorem px_dnew : PX X (.Dict [] [] pos) cDnew := PE.imp pe_dnewK fun σ H Q q => by
  obtain ⟨B, Gb, G, env, W, d, k, W', S, e, c⟩ := q
  cases e
  exact fun p hp => c.fr S hp (show RpO X.K G (.dK []) (.dict []) from RpD.nil)
theorem px_globI {x : Str} {i : Int} (hg : Gl X x) (hm : ∃ t, X.mg x = some (.int i t)) (hd : (x == ("__debug__" : Str)) = false := by decide) : PX X (.Name x pos) (cK (.int i)) := by
  obtain ⟨t, hm⟩ := hm
  exact px_c (pe_glob (v := .int i) hg hm ⟨t, rfl⟩ hd) fun _ => .int i
end
def pairsK : List PyData → Option (List (Key × PyData))
  | [] => some []
  | .tuple [a, b] :: r => (keyOf a).bind fun k => (pairsK r).map ((k, b) :: ·)
  | _ => none
def mergeE (es : List (PyData × PyData)) (ps : List (Key × PyData)) : List (PyData × PyData) := ps.foldl (fun es p => dput es (keyD p.1) p.2) es
def oDict : Op
  | [(.list ds, _)] => (pairsK ds).map fun ps => (.dict (mergeE [] ps), .fr)
  | [(.dict es, _)] => if isT es then none else some (.dict es, .fr)
  | _ => none
inductive RpP (K : PySem.W.Frag) (G : Hp) : List (Key × V) → List (Key × PyData) → Prop
  | nil : RpP K G [] []
  | cons {k : Key} {v : V} {d : PyData} {kvs : List (Key × V)} {ps : List (Key × PyData)} : keyOk k = true → Rp K G v d → RpP K G kvs ps → RpP K G ((k, v) :: kvs) ((k, d) :: ps)
theorem RpP.merge {K : PySem.W.Frag} {G : Hp} : ∀ {kvs : List (Key × V)} {ps : List (Key × PyData)} {acc : List (Key × V)} {es : List (PyData × PyData)}, RpP K G kvs ps → RpD K G acc es → RpD K G (mergeK acc kvs) (mergeE es ps)
  | _, _, _, _, .nil, h => h
  | _, _, acc, es, @RpP.cons _ _ k v d kvs ps o a b, h => (show RpD K G (mergeK (putK acc k v) kvs) (mergeE (dput es (keyD k) d) ps) from RpP.merge b (h.put o a))
theorem pairs_rp {K : PySem.W.Frag} {G H : Hp} (sg : Same G H) : ∀ {ds : List PyData} {ys : List V} {ps : List (Key × PyData)}, RpL K G ys ds → pairsK ds = some ps →
    ∃ (as : List Addr) (kvs : List (Key × V)), ys = as.map V.ref ∧ Paired (fun p kv => SqT K H p [kV kv.1, kv.2]) as kvs ∧ RpP K G kvs ps
  | [], ys, ps, h, e => by
    cases h
    cases e
    exact ⟨[], [], rfl, .nil, .nil⟩
  | d :: r, ys, ps, h, e => by
    cases h with
    | cons ra rb =>
      unfold pairsK at e
      split at e
      · rename_i q; cases q
      · rename_i a b r' q
        cases q
        rw [Option.bind_eq_some_iff] at e
        obtain ⟨k, e1, e2⟩ := e
        rw [Option.map_eq_some_iff] at e2
        obtain ⟨ps', e2, rfl⟩ := e2
        obtain ⟨as, kvs, e3, e4, e5⟩ := pairs_rp sg rb e2
        have ek := keyOf_eq e1
        subst ek
        cases ra with
        | tup hz rl =>
          rename_i p xs
          cases rl with
          | cons rx rl2 =>
            cases rl2 with
            | cons ry rl3 =>
              cases rl3
              rename_i x y
              obtain ⟨ok, rfl⟩ := keyOf_ok rx
              exact ⟨p :: as, (k, y) :: kvs, by rw [e3]; rfl, .cons ((Sub.of sg).sqT hz.sqT) e4, .cons ok ry e5⟩
      · cases e
theorem so_dict {X : Cx} (hc : X.calm = true) : CallR X (.type "dict") (rV X.K oDict) := by
  intro pins s σ H xs us Q I r h
  obtain ⟨B, Gb, G, σ1, env, W, ds, d, k, S, p, e, c⟩ := h
  unfold oDict at e
  split at e
  · match xs, p with
    | [x], p =>
      rw [Option.map_eq_some_iff] at e
      obtain ⟨ps, e1, e2⟩ := e
      cases e2
      obtain ⟨a, ys, rfl, h1, h2⟩ := p.1.list S
      obtain ⟨as, kvs, rfl, e4, e5⟩ := pairs_rp S.sg h2 e1
      exact call_dictP hc pins s σ H _ us Q I r ⟨a, as, kvs, rfl, .of h1, e4, fun p hp => c.fr S hp (show RpO X.K G (.dK (mergeK [] kvs)) (.dict (mergeE [] ps)) from RpP.merge e5 .nil)⟩
  · match xs, p with
    | [x], p =>
      split at e
      · cases e
      · rename_i hn
        cases e
        obtain ⟨a, kvs, rfl, h1, h2⟩ := p.1.dictD S (by simpa using hn)
        exact call_dictD pins s σ H _ us Q I r ⟨a, kvs, rfl, h1, fun p hp => c.fr S hp (show RpO X.K G (.dK kvs) (.dict _) from h2)⟩
  · cases e
end PX

namespace PX
open PySem PySem.Spec PyProof.Rows L2
/-! ### a, b, c, .. = e, f, g, .. -/
def slsOf : List (Nat × Bool) → List Dk → Option (List Sl)
  | [], [] => some []
  | (_, o) :: is, (d, k) :: ds => (slOf o d k).bind fun s => (slsOf is ds).map (s :: ·)
  | _, _ => none
def setSls : List (Nat × Bool) → List Sl → SEnv → SEnv
  | (i, _) :: is, s :: ss, env => setSls is ss (env.set i s)
  | _, _, env => env
def setVs : List (Nat × Bool) → List V → L2.St → L2.St
  | (i, _) :: is, v :: vs, σ => setVs is vs (σ.set i (some v))
  | _, _, σ => σ
def sParN (is : List (Nat × Bool)) (fs : List Ex) : Sx := fun env W => (cArgs fs env W).bind fun q => (slsOf is q.1).map fun ss => .nx (setSls is ss env) q.2
section
variable {K : PySem.W.Frag} {B Gb G G' H H' : Hp} {σ σ' : L2.St} {env env' : SEnv} {W : List Int}
theorem Pend.map2 {B' : Hp} {vs : List V} {ds : List Dk} (h : Pend K B G H σ env vs ds) (f : ∀ v' d' k', VOk K B G H σ env v' d' k' → (∃ q ∈ vs.zip (ds.map (·.2)), q = (v', k')) → VOk K B' G' H' σ' env' v' d' k') : Pend K B' G' H' σ' env' vs ds := by
  induction vs generalizing ds with
  | nil => cases ds with
    | nil => trivial
    | cons => exact h
  | cons v vs ih => cases ds with
    | nil => exact h
    | cons t ds =>
      obtain ⟨h1, h2, h3⟩ := h
      refine ⟨f _ _ _ h1 ⟨_, by simp, rfl⟩, h2, ih h3 fun v' d' k' a ⟨q, hq, e⟩ => f v' d' k' a ⟨q, ?_, e⟩⟩
      simp only [List.map_cons, List.zip_cons_cons, List.mem_cons]
      exact .inr hq
theorem sls_kinds : ∀ {is : List (Nat × Bool)} {ds : List Dk} {ss : List Sl}, slsOf is ds = some ss → ∀ t ∈ ds, ∀ i, t.2 ≠ .pk i
  | [], [], _, _, t, ht, _ => by simp at ht
  | [], _ :: _, _, e, _, _, _ => by simp [slsOf] at e
  | _ :: _, [], _, e, _, _, _ => by simp [slsOf] at e
  | (j, o) :: is, (d, k) :: ds, ss, e, t, ht, i => by
    rw [slsOf, Option.bind_eq_some_iff] at e
    obtain ⟨s, e1, e2⟩ := e
    rw [Option.map_eq_some_iff] at e2
    obtain ⟨ss', e2, _⟩ := e2
    rcases List.mem_cons.mp ht with rfl | ht
    · intro hk
      dsimp only at hk
      subst hk
      cases e1
    · exact sls_kinds e2 t ht i
theorem setN : ∀ {is : List (Nat × Bool)} {vs : List V} {ds : List Dk} {ss : List Sl} {G : Hp} {σ : L2.St} {env : SEnv}, Sta K B Gb G H σ env W → Pend K B G H σ env vs ds → slsOf is ds = some ss → ∃ G', Same G G' ∧ Sta K B Gb G' H (setVs is vs σ) (setSls is ss env) W
  | [], [], [], ss, G, σ, env, S, _, e => by
    cases e
    exact ⟨G, Same.refl _, S⟩
  | [], _, _ :: _, _, _, _, _, _, _, e => by simp [slsOf] at e
  | _ :: _, _, [], _, _, _, _, _, _, e => by simp [slsOf] at e
  | [], _ :: _, [], _, _, _, _, _, p, _ => p.elim
  | _ :: _, [], _ :: _, _, _, _, _, _, p, _ => p.elim
  | (i, o) :: is, v :: vs, (d, k) :: ds, ss, G, σ, env, S, p, e => by
    have hk := sls_kinds e
    rw [slsOf, Option.bind_eq_some_iff] at e
    obtain ⟨s, e1, e2⟩ := e
    rw [Option.map_eq_some_iff] at e2
    obtain ⟨ss', e2, rfl⟩ := e2
    obtain ⟨h1, ap, h3⟩ := p
    obtain ⟨G2, t2, S2, f2, o2, m2, w2⟩ := slOf_fit S h1 e1
    have S3 := S2.setSl i s v f2 fun os q ev j' _ => o2 os q ev j'
    have p3 : Pend K B G2 H (σ.set i (some v)) (env.set i s) vs ds := h3.map2 fun v' d' k' a ⟨q, hq, eq⟩ => by
      have hne : k = .fr → k' = .fr → v' ≠ v := fun z1 z2 => by
        have := ap z1 q hq (by rw [eq]; exact z2)
        rw [eq] at this
        exact this
      have a2 := m2 v' d' k' a hne
      cases k' with
      | im => exact a2
      | pk j =>
        have : ∃ t ∈ ds, t.2 = .pk j := by
          rw [eq] at hq
          have := (List.of_mem_zip hq).2
          obtain ⟨t, ht, et⟩ := List.mem_map.mp this
          exact ⟨t, ht, et⟩
        obtain ⟨t, ht, et⟩ := this
        exact absurd et (hk t (by simp [ht]) j)
      | fr =>
        obtain ⟨pa, ob, rfl, b1, b2, b3, b4, b5⟩ := a2
        refine ⟨pa, ob, rfl, b1, b2, b3, b4, fun j hj => ?_⟩
        rcases Own.set S2.len hj with ⟨_, os, ev⟩ | ⟨_, hj⟩
        · exact hne (w2 os) rfl ev.symm
        · exact b5 j hj
    obtain ⟨G3, t3, S4⟩ := setN S3 p3 e2
    exact ⟨G3, t2.trans t3, S4⟩
end
/-- targets that are names -/
def gNs : List (Nat × Bool) → TGs
  | [] => gNil
  | (i, _) :: is => gCons (gName i) (gNs is)
theorem gNs_run : ∀ {is : List (Nat × Bool)} {vs : List V} {σ : L2.St} {H : Hp} {Q : L2.St → Hp → Prop}, vs.length = is.length → Q (setVs is vs σ) H → gNs is vs σ H Q
  | [], [], _, _, _, _, q => ⟨rfl, q⟩
  | [], _ :: _, _, _, _, h, _ => by simp at h
  | _ :: _, [], _, _, _, h, _ => by simp at h
  | (i, o) :: is, v :: vs, σ, H, Q, h, q => ⟨v, vs, rfl, gNs_run (by simpa using h) q⟩
theorem sls_len : ∀ {is : List (Nat × Bool)} {ds : List Dk} {ss : List Sl}, slsOf is ds = some ss → ds.length = is.length
  | [], [], _, _ => rfl
  | [], _ :: _, _, e => by simp [slsOf] at e
  | _ :: _, [], _, e => by simp [slsOf] at e
  | (j, o) :: is, (d, k) :: ds, ss, e => by
    rw [slsOf, Option.bind_eq_some_iff] at e
    obtain ⟨s, e1, e2⟩ := e
    rw [Option.map_eq_some_iff] at e2
    obtain ⟨ss', e2, _⟩ := e2
    rw [List.length_cons, List.length_cons, sls_len e2]
section
variable {X : Cx} {es ts : List Expr} {fs : List Ex} {pos : Pos} {is : List (Nat × Bool)} {kt k2 : Nat} {pt pt2 : Pos}
theorem psx_parN (hc : X.calm = true) (ha : PXs X es fs) (hg : PGs X ts (gNs is)) (hl : is.length ≤ 1000 := by decide) (hn : (assignEach ts X.env).length = is.length := by rfl) (hst : (assignEach ts X.env).findIdx? (·.1) = none := by rfl)
    (hs : swapsWithSole [.Tuple ts kt pt] (.Tuple es k2 pt2) pos.line X.env = pure false := by rfl) (hw : swappedStores [.Tuple ts kt pt] (.Tuple es k2 pt2) X.env = pure none := by rfl)
    (h1 : (assignEach [.Tuple ts kt pt] X.env).map (·.2) = [assign (.Tuple ts kt pt) X.env] := by rfl) : PSX X (.Assign [.Tuple ts kt pt] (.Tuple es k2 pt2) pos) (sParN is fs) := PS.imp (ps_asg (pe_tup ha) (pg_tup hc hg hn hst) hs hw h1) fun D σ H q => by
  obtain ⟨B, Gb, G, env, W, o, S, e, p⟩ := q
  unfold sParN at e
  rw [Option.bind_eq_some_iff] at e
  obtain ⟨⟨ds, W1⟩, e1, e⟩ := e
  rw [Option.map_eq_some_iff] at e
  obtain ⟨ss, e2, e⟩ := e
  cases e
  dsimp only at e2
  refine ⟨B, Gb, G, env, W, ds, W1, S, e1, fun vs G1 H1 t1 S1 p1 => ?_⟩
  have hvl : vs.length = is.length := by rw [p1.length]; exact sls_len e2
  refine ⟨?_, fun a hp => ⟨a, vs, rfl, .of upd_same, hvl, gNs_run hvl ?_⟩⟩
  · rw [hvl, sizeLine_eq]
    omega
  · have S2 := S1.laid (o := .tup vs) hp
    have p2 : Pend X.K B G1 (upd H1 a (.tup vs)) σ env vs ds := p1.map2 fun v' d' k' h _ => h.move (H2 := H1) S1 (Same.refl _) (same_upd hp) fun q ev ek => by
      subst ek
      obtain ⟨_, _, ev2, b1, _⟩ := h
      rw [ev] at ev2
      cases ev2
      exact b1
    obtain ⟨G3, t3, S3⟩ := setN S2 p2 e2
    exact p _ G3 _ (t1.trans t3) S3
end
end PX

namespace PX
open PySem PySem.Spec PyProof.Rows L2
/-! ### rows of texts -/
abbrev S (xs : List Str) : PyData := .tuple (xs.map PyData.str)
theorem eqStr (a b : Str) (k k' : Kd) : oEq [(.str a, k), (.str b, k')] = some (.bool (decide (a = b)), .im) := ev_eq (α := Str) (by decide) a b k k'
theorem neStr (a b : Str) (k k' : Kd) : oNe [(.str a, k), (.str b, k')] = some (.bool (!decide (a = b)), .im) := ev_ne (α := Str) (by decide) a b k k'
theorem tupS (a b : List Str) : decide (PySem.W.Tup.mk a = PySem.W.Tup.mk b) = decide (a = b) := decide_eq_decide.mpr ⟨fun h => PySem.W.Tup.mk.inj h, fun h => by rw [h]⟩
theorem eqS (a b : List Str) (k k' : Kd) : oEq [(S a, k), (S b, k')] = some (.bool (decide (a = b)), .im) := by
  have h := ev_eq (α := PySem.W.Tup Str) (by decide) ⟨a⟩ ⟨b⟩ k k'
  rw [tupS] at h
  exact h
theorem neS (a b : List Str) (k k' : Kd) : oNe [(S a, k), (S b, k')] = some (.bool (!decide (a = b)), .im) := by
  have h := ev_ne (α := PySem.W.Tup Str) (by decide) ⟨a⟩ ⟨b⟩ k k'
  rw [tupS] at h
  exact h
theorem eqSL (a b : List Str) (k k' : Kd) : oEq [(.list (a.map PyData.str), k), (.list (b.map PyData.str), k')] = some (.bool (decide (a = b)), .im) := ev_eq (α := List Str) (by decide) a b k k'
theorem neSL (a b : List Str) (k k' : Kd) : oNe [(.list (a.map PyData.str), k), (.list (b.map PyData.str), k')] = some (.bool (!decide (a = b)), .im) := ev_ne (α := List Str) (by decide) a b k k'
theorem inS (x : Str) (xs : List Str) (k k' : Kd) : oIn [(.str x, k), (S xs, k')] = some (.bool (decide (x ∈ xs)), .im) := ev_inT (α := Str) (by decide) x xs k k'
theorem niS (x : Str) (xs : List Str) (k k' : Kd) : oNotIn [(.str x, k), (S xs, k')] = some (.bool (!decide (x ∈ xs)), .im) := ev_niT (α := Str) (by decide) x xs k k'
theorem inSL (x : Str) (xs : List Str) (k k' : Kd) : oIn [(.str x, k), (.list (xs.map PyData.str), k')] = some (.bool (decide (x ∈ xs)), .im) := ev_inL (α := Str) (by decide) x xs k k'
theorem niSL (x : Str) (xs : List Str) (k k' : Kd) : oNotIn [(.str x, k), (.list (xs.map PyData.str), k')] = some (.bool (!decide (x ∈ xs)), .im) := ev_niL (α := Str) (by decide) x xs k k'
theorem flatS (xs : List Str) : flat (S xs) = true := flat_D (α := PySem.W.Tup Str) (by decide) ⟨xs⟩
theorem flatSL (xs : List Str) : flat (.list (xs.map PyData.str)) = true := flat_D (α := List Str) (by decide) xs
theorem strs_nil (xs : List Str) (k k' : Kd) : oEq [(.list (xs.map PyData.str), k), (.list [], k')] = some (.bool xs.isEmpty, .im) := by
  have hh := eqSL xs [] k k'
  have e2 : decide (xs = []) = xs.isEmpty := by cases xs <;> simp
  rw [e2] at hh
  exact hh
theorem strs_nnil (xs : List Str) (k k' : Kd) : oNe [(.list (xs.map PyData.str), k), (.list [], k')] = some (.bool (!xs.isEmpty), .im) := by
  have hh := neSL xs [] k k'
  have e2 : decide (xs = []) = xs.isEmpty := by cases xs <;> simp
  rw [e2] at hh
  exact hh
theorem rows_nnil (xs : List (List Str)) (k k' : Kd) : oNe [(.list (xs.map S), k), (.list [], k')] = some (.bool (!xs.isEmpty), .im) := by
  have hh := ev_ne (α := List (PySem.W.Tup Str)) (by decide) (xs.map PySem.W.Tup.mk) [] k k'
  have e1 : (D (xs.map PySem.W.Tup.mk) : PyData) = .list (xs.map S) := by
    show PyData.list ((xs.map PySem.W.Tup.mk).map _) = _
    rw [List.map_map]; rfl
  have e2 : decide (xs.map PySem.W.Tup.mk = []) = xs.isEmpty := by cases xs <;> simp
  rw [e1, e2] at hh
  exact hh
theorem sortB_S (xs : List Str) : sortB (xs.map PyData.str) = true := by
  unfold sortB
  rw [Bool.and_eq_true, Bool.and_eq_true, Bool.or_eq_true]
  refine ⟨flats_D (α := Str) (by decide) xs, ?_, .inr ?_⟩
  · unfold alikeB
    rw [List.all_map]
    refine List.all_eq_true.mpr fun r _ => ?_
    show ((xs.map PyData.str).all fun e => PySem.W.alike (.str r) e) = true
    rw [List.all_map]
    exact List.all_eq_true.mpr fun q _ => by simp [PySem.W.alike]
  · rw [List.all_map]
    exact List.all_eq_true.mpr fun r _ => rfl
def sortS (xs : List Str) : List Str := xs.mergeSort (fun a b => PySem.W.dataLe false id (.str a) (.str b))
theorem sortD_S (xs : List Str) : sortD (xs.map PyData.str) = (sortS xs).map PyData.str := by
  unfold sortD sortS
  rw [List.map_mergeSort]
  intro a _ b _
  rfl
theorem sortS_perm (xs : List Str) : (sortS xs).Perm xs := List.mergeSort_perm _ _
theorem sortedS (xs : List Str) (k : Kd) : oSorted [(.list (xs.map PyData.str), k)] = some (.list ((sortS xs).map PyData.str), .fr) := by
  show (if sortB (xs.map PyData.str) then _ else _) = _
  rw [if_pos (sortB_S xs), sortD_S]
theorem sortedT (xs : List Str) (k : Kd) : oSorted [(S xs, k)] = some (.list ((sortS xs).map PyData.str), .fr) := by
  show (if sortB (xs.map PyData.str) then _ else _) = _
  rw [if_pos (sortB_S xs), sortD_S]
theorem lenS (xs : List Str) (k : Kd) : oLen [(S xs, k)] = some (.int xs.length, .im) := lenM _ _ _
theorem fwIx0S {x : Str} {xs : List Str} (k k' : Kd) : oIx [(S (x :: xs), k), (.int 0, k')] = some (.str x, .im) := fwIx0T _ _
theorem ix_lastT {ds : List PyData} {d : PyData} (k k' : Kd) : oIx [(.tuple (ds ++ [d]), k), (.int (-1), k')] = some (d, .im) := by
  have e : L2.atI (ds ++ [d]) (-1 : Int) = some d := by
    unfold L2.atI
    have e2 : L2.ixN (ds ++ [d]).length (-1) = some ds.length := by
      unfold L2.ixN
      rw [List.length_append]
      simp
      omega
    rw [e2]
    simp
  simp only [oIx, e, Option.map_some]
theorem ixSn {xs : List Str} {x : Str} {n : Nat} (h : xs[n]? = some x) (k k' : Kd) : oIx [(S xs, k), (.int (n : Nat), k')] = some (.str x, .im) := fwIxN (by rw [List.getElem?_map, h]; rfl) _ _
/-! ### dicts with texts as keys -/
def dS (ns : List Str) (f : Str → PyData) : PyData := .dict (ns.map fun x => (.str x, f x))
theorem isT_S (ns : List Str) (f : Str → PyData) : isT (ns.map fun x => (PyData.str x, f x)) = false := by cases ns <;> rfl
theorem ents_S (ns : List Str) (f : Str → PyData) : ents (ns.map fun x => (PyData.str x, f x)) = ns.map fun x => (PyData.str x, f x) := by
  unfold ents
  rw [isT_S]
  rfl
theorem keyFit_S (ns : List Str) (f : Str → PyData) (x : Str) : keyFit (ns.map fun x => (PyData.str x, f x)) (.str x) = true := by
  unfold keyFit
  rw [isT_S]
  rfl
theorem eqv_str (a b : Str) : PyData.eqv (.str a) (.str b) = decide (a = b) := PySem.W.Datum.eqv a b
theorem dget_S {ns : List Str} (f : Str → PyData) (x : Str) : dget (ns.map fun x => (PyData.str x, f x)) (.str x) = if x ∈ ns then some (f x) else none := by
  unfold dget
  induction ns with
  | nil => rfl
  | cons y r ih =>
    rw [List.map_cons]
    by_cases h : y = x
    · subst h
      rw [List.find?_cons_of_pos (by rw [eqv_str]; simp), if_pos (by simp)]
      rfl
    · rw [List.find?_cons_of_neg (by rw [eqv_str]; simpa using h), ih]
      have : (x ∈ y :: r) ↔ x ∈ r := by
        rw [List.mem_cons]
        exact ⟨fun h2 => h2.resolve_left fun e => h e.symm, .inr⟩
      simp only [this]
theorem ixD {ns : List Str} (f : Str → PyData) {x : Str} (h : x ∈ ns) (k k' : Kd) : oIx [(dS ns f, k), (.str x, k')] = some (f x, .im) := by
  show (if keyFit _ _ then (dget (ents _) _).map fun d => (d, Kd.im) else none) = _
  rw [if_pos (keyFit_S ns f x), ents_S, dget_S, if_pos h]
  rfl
theorem inD (ns : List Str) (f : Str → PyData) (x : Str) (k k' : Kd) : oIn [(.str x, k), (dS ns f, k')] = some (.bool (decide (x ∈ ns)), .im) := by
  show (if keyFit _ _ then some (PyData.bool (dget (ents _) _).isSome, Kd.im) else none) = _
  rw [if_pos (keyFit_S ns f x), ents_S, dget_S]
  by_cases h : x ∈ ns
  · rw [if_pos h, decide_eq_true h]; rfl
  · rw [if_neg h, decide_eq_false h]; rfl
theorem sortedD (ns : List Str) (f : Str → PyData) (k : Kd) : oSorted [(dS ns f, k)] = some (.list ((sortS ns).map PyData.str), .fr) := by
  have e : keysD (ns.map fun x => (PyData.str x, f x)) = ns.map PyData.str := by
    unfold keysD
    rw [List.map_map]
    rfl
  show (if isT _ then none else if sortB (keysD _) then some (PyData.list (sortD (keysD _)), Kd.fr) else none) = _
  rw [isT_S, if_neg Bool.false_ne_true, e, if_pos (sortB_S ns), sortD_S]
theorem dput_S_new {ns : List Str} {f g : Str → PyData} {x : Str} {v : PyData} (h : x ∉ ns) (hg : ∀ y ∈ ns, g y = f y) (hx : g x = v) : dputE (ns.map fun x => (PyData.str x, f x)) (.str x) v = (ns ++ [x]).map fun x => (PyData.str x, g x) := by
  unfold dputE
  rw [isT_S]
  show dput (ns.map fun x => (PyData.str x, f x)) (.str x) v = _
  unfold dput
  have : ((ns.map fun x => (PyData.str x, f x)).any fun e => PyData.eqv e.1 (.str x)) = false := by
    rw [List.any_map, List.any_eq_false]
    intro y hy
    show ¬ PyData.eqv (.str y) (.str x) = true
    rw [eqv_str, decide_eq_true_eq]
    intro e
    exact h (e ▸ hy)
  rw [this, if_neg Bool.false_ne_true, List.map_append]
  congr 1
  · exact List.map_congr_left fun y hy => by rw [hg y hy]
  · show [(PyData.str x, v)] = [(PyData.str x, g x)]
    rw [hx]
theorem dput_S_old {ns : List Str} {f g : Str → PyData} {x : Str} {v : PyData} (h : x ∈ ns) (hg : ∀ y ∈ ns, y ≠ x → g y = f y) (hx : g x = v) : dputE (ns.map fun x => (PyData.str x, f x)) (.str x) v = ns.map fun x => (PyData.str x, g x) := by
  unfold dputE
  rw [isT_S]
  show dput (ns.map fun x => (PyData.str x, f x)) (.str x) v = _
  unfold dput
  have : ((ns.map fun x => (PyData.str x, f x)).any fun e => PyData.eqv e.1 (.str x)) = true := by
    rw [List.any_map, List.any_eq_true]
    exact ⟨x, h, by show PyData.eqv (.str x) (.str x) = true; rw [eqv_str]; simp⟩
  rw [this, if_pos rfl, List.map_map]
  refine List.map_congr_left fun y hy => ?_
  show (if PyData.eqv (.str y) (.str x) = true then (PyData.str y, v) else (PyData.str y, f y)) = (PyData.str y, g y)
  rw [eqv_str]
  by_cases e : y = x
  · subst e; simp [hx]
  · simp [e, hg y hy e]
section
variable {env : SEnv} {W W1 W2 : List Int} {fk fv : Ex} {k1 k2 : Kd} {d kd : PyData} {i : Nat} {es : List (PyData × PyData)} {s2 : Sx} {Q : Ou → Prop}
theorem ru_dput (ho : env[i]? = some (.ow (.dict es))) (ev : fv env W = some (d, k1, W1)) (ek : fk env W1 = some (kd, .im, W2)) (h1 : esc k1 = true) (h2 : keyFit es kd = true) (h3 : es.length < 16777216) (h : Runs s2 (env.set i (.ow (.dict (dputE es kd d)))) W2 Q) : Runs (sSeq (sDPut i fk fv) s2) env W Q := ru_seq (by
  unfold sDPut
  rw [ev, Option.bind_some]
  dsimp only
  rw [ho]
  dsimp only
  rw [ek, Option.bind_some]
  dsimp only
  rw [if_pos ⟨h1, h2, h3⟩]) h
theorem ru_parN {is : List (Nat × Bool)} {fs : List Ex} {ts : List Dk} {ss : List Sl} (ea : cArgs fs env W = some (ts, W1)) (hs : slsOf is ts = some ss) (h : Runs s2 (setSls is ss env) W1 Q) : Runs (sSeq (sParN is fs) s2) env W Q := ru_seq (by
  unfold sParN
  rw [ea, Option.bind_some]
  dsimp only
  rw [hs]
  rfl) h
/-- x = y, y this def's own thing, used no more as such -/
theorem ru_move {j : Nat} {f : Ex} {own : Bool} {e0 : PyData} (e : f env W = some (d, .pk j, W1)) (hj : env[j]? = some (.ow e0)) (h : Runs s2 ((env.set j (.pl d)).set i (.pl d)) W1 Q) : Runs (sSeq (sSet i own f) s2) env W Q := ru_seq (by
  unfold sSet
  rw [e, Option.bind_some]
  dsimp only
  rw [hj]) h
theorem fwZip {ds es : List PyData} {f g : Ex} (e1 : f env W = some (.list ds, k1, W1)) (e2 : g env W1 = some (.list es, k2, W2)) (h1 : esc k1 = true) (h2 : esc k2 = true) : iZip f g env W = some (List.zipWith (fun d e => PyData.tuple [d, e]) ds es, .im, W2) := by
  unfold iZip
  rw [e1]
  simp only [e2, h1, h2, Bool.and_self, if_true]
theorem fwZipT {ds es : List PyData} {f g : Ex} (e1 : f env W = some (.tuple ds, k1, W1)) (e2 : g env W1 = some (.tuple es, k2, W2)) (h1 : esc k1 = true) (h2 : esc k2 = true) : iZip f g env W = some (List.zipWith (fun d e => PyData.tuple [d, e]) ds es, .im, W2) := by
  unfold iZip
  rw [e1]
  simp only [e2, h1, h2, Bool.and_self, if_true]
theorem fwCOr {b c : Bool} {f g : Ex} (e1 : f env W = some (.bool b, k1, W1)) (e2 : b = false → g env W1 = some (.bool c, .im, W1)) : cOr f g env W = some (.bool (b || c), .im, W1) := by
  unfold cOr
  rw [e1]
  cases b with
  | true => rfl
  | false => dsimp only; rw [if_neg Bool.false_ne_true, e2 rfl]; rfl
theorem cutD_tail (ds : List PyData) : cutD ds (some 1) none = ds.drop 1 := by
  have := cutD_from ds 0
  simpa using this
theorem fwTailT {ds : List PyData} {f g : Ex} (e1 : f env W = some (.tuple ds, k1, W1)) (e2 : g env W1 = some (.int 1, k2, W2)) : cSlice f (some g) none env W = some (.tuple (ds.drop 1), .im, W2) := by
  unfold cSlice
  rw [e1, Option.bind_some]
  simp only [PX.part, Option.bind_some, e2, oSl, Option.map_some, cutD_tail]
theorem fwTailL {ds : List PyData} {f g : Ex} (e1 : f env W = some (.list ds, k1, W1)) (e2 : g env W1 = some (.int 1, k2, W2)) : cSlice f (some g) none env W = some (.list (ds.drop 1), .fr, W2) := by
  unfold cSlice
  rw [e1, Option.bind_some]
  simp only [PX.part, Option.bind_some, e2, oSl, Option.map_some, cutD_tail]
end
end PX
namespace PX
theorem fwWhileF {m : Nat} {t : Ct} {g : Sx} {env : SEnv} {W W1 : List Int} (h : t env W = some (false, W1)) : whileL (m + 1) t g env W = some (.nx env W1) := by simp [whileL, h]
theorem fwWhileT {m : Nat} {t : Ct} {g : Sx} {env e2 : SEnv} {W W1 W2 : List Int} (h : t env W = some (true, W1)) (h2 : g env W1 = some (.nx e2 W2)) : whileL (m + 1) t g env W = whileL m t g e2 W2 := by simp [whileL, h, h2]
end PX
namespace PX
open PySem
theorem ru_retO {i : Nat} {f : Ex} {env : SEnv} {W W1 : List Int} {d e0 : PyData} {s2 : Sx} {Q : Ou → Prop} (e : f env W = some (d, .pk i, W1)) (h : env[i]? = some (.ow e0)) (q : Q (.rt d W1)) : Runs (sSeq (sRetK f) s2) env W Q := ⟨_, fwSeqR (by unfold sRetK; rw [e, Option.bind_some]; dsimp only; rw [h]), q⟩
end PX
namespace PX
open PySem PySem.Spec PyProof.Rows L2
theorem mergeE_S (f : Str → PyData) : ∀ (xs done : List Str), (done ++ xs).Nodup → mergeE (done.map fun x => (PyData.str x, f x)) (xs.map fun x => ((Sum.inr x : Key), f x)) = (done ++ xs).map fun x => (PyData.str x, f x)
  | [], done, _ => by rw [List.append_nil]; rfl
  | x :: r, done, h => by
    have hx : x ∉ done := fun hd => by
      rw [List.nodup_append] at h
      exact h.2.2 x hd x (by simp) rfl
    show mergeE (dput (done.map fun x => (PyData.str x, f x)) (.str x) (f x)) (r.map fun x => ((Sum.inr x : Key), f x)) = _
    have e : dput (done.map fun x => (PyData.str x, f x)) (.str x) (f x) = (done ++ [x]).map fun x => (PyData.str x, f x) := by
      have := dput_S_new (ns := done) (f := f) (g := f) (x := x) (v := f x) hx (fun _ _ => rfl) rfl
      unfold dputE at this
      rw [isT_S] at this
      exact this
    rw [e, mergeE_S f r (done ++ [x]) (by rw [List.append_assoc]; exact h), List.append_assoc]
    rfl
/-- dict([(name, ..) for name in names]) -/
theorem dict_S {ns : List Str} (hn : ns.Nodup) (f : Str → PyData) (k : Kd) : oDict [(.list (ns.map fun x => .tuple [.str x, f x]), k)] = some (dS ns f, .fr) := by
  have e : pairsK (ns.map fun x => PyData.tuple [.str x, f x]) = some (ns.map fun x => ((Sum.inr x : Key), f x)) := by
    clear hn
    induction ns with
    | nil => rfl
    | cons x r ih =>
      rw [List.map_cons, pairsK, ih]
      rfl
  show (pairsK _).map _ = _
  rw [e]
  show some (PyData.dict (mergeE [] (ns.map fun x => ((Sum.inr x : Key), f x))), Kd.fr) = _
  have := mergeE_S f ns [] (by simpa using hn)
  rw [List.map_nil, List.nil_append] at this
  rw [this]
  rfl
/-- a loop over a range with draws, the number known -/
theorem forL_drawI {t : Tg} {g : Sx} (R : Nat → SEnv → Prop) : ∀ (m lo : Nat) (env : SEnv) (W : List Int), R lo env → (∀ n env W, lo ≤ n → n < lo + m → R n env → ∃ e1 e2 W', t (.int (n : Nat)) env = some e1 ∧ g e1 W = some (.nx e2 W') ∧ R (n + 1) e2) →
    ∃ e' W', forL t g ((rgZ lo m).map PyData.int) env W = some (.nx e' W') ∧ R (lo + m) e'
  | 0, lo, env, W, h, _ => ⟨env, W, rfl, h⟩
  | m + 1, lo, env, W, h, st => by
    obtain ⟨e1, e2, W', h1, h2, h3⟩ := st lo env W (Nat.le_refl _) (by omega) h
    obtain ⟨e', W2, h4, h5⟩ := forL_drawI R m (lo + 1) e2 W' h3 fun n env W a b => st n env W (by omega) (by omega)
    refine ⟨e', W2, ?_, by rw [show lo + (m + 1) = lo + 1 + m by omega]; exact h5⟩
    rw [rgZ_head, List.map_cons]
    simp only [forL, h1, Option.bind_some, h2]
    exact h4
end PX

namespace PX
open PySem PySem.Spec PyProof.Rows L2
/-! ### a, b = a list -/
def gTupL (K : PySem.W.Frag) (n : Nat) (t : TGs) : TG := fun v σ H Q => ∃ a xs, v = .ref a ∧ SqL K H a xs ∧ xs.length = n ∧ t xs σ H Q
theorem pg_tupL {X : Cx} {es : List Expr} {k : Nat} {t : TGs} {n : Nat} {pos : Pos} (hc : X.calm = true) (h : PGs X es t)
    (hn : (assignEach es X.env).length = n := by rfl) (hst : (assignEach es X.env).findIdx? (·.1) = none := by rfl) : PG X (.Tuple es k pos) (gTupL X.K n t) := by
  refine ⟨fun pins s σ H v u Q I r hw => ?_⟩
  obtain ⟨a, xs, e1, hq, hl, hw⟩ := hw
  subst e1
  cases r
  obtain ⟨its, rv, ht, hz⟩ := I.list hq
  have hsz : (assignEach es X.env).length = its.toArray.size := by simp [hn, ← hl, rv.length]
  rw [assign_Tuple]
  refine wpAny_bind (wpAny_standAt ?_)
  unfold unpack
  rw [hsz, hst]
  refine wpAny_bind (wpAny_holding (PySem.W.kun_itemsOf (I.ok.hd hc) ht.isList fun h' hx => ?_))
  have I1 : Inv X pins σ H { s with heap := h' } := I.kept (t' := s.toks) fun b o e => hx b o (Nat.ne_of_lt (Heap.lt_size e)) e
  exact h.run pins _ σ H xs _ Q I1 (by simpa using rv) hw
def gTL (n : Nat) (u : List PyData → SEnv → Option SEnv) : Tg := fun d env => match d with
  | .list ds => if ds.length = n then u ds env else none
  | _ => none
theorem pgx_tupL {X : Cx} {es : List Expr} {u : List PyData → SEnv → Option SEnv} {pos : Pos} {k n : Nat} {vs : List Nat} (hc : X.calm = true) (h : PGsX X es u vs) (hn : (assignEach es X.env).length = n := by rfl) (hst : (assignEach es X.env).findIdx? (·.1) = none := by rfl) : PGX X (.Tuple es k pos) (gTL n u) vs where
  pg := PG.imp (pg_tupL hc h.pg hn hst) fun v σ H Q q => by
    obtain ⟨B, Gb, G, env, W, d, env', S, r, e, c⟩ := q
    unfold gTL at e
    split at e
    · split at e
      · rename_i hl
        cases r with
        | lst a b => exact ⟨_, _, rfl, .of (S.sg _ _ a), b.length.trans hl, B, Gb, G, env, W, _, env', S, b, e, c⟩
      · cases e
    · cases e
  ok := fun d env env' e => by
    unfold gTL at e
    split at e
    · split at e
      · exact h.ok _ _ _ e
      · cases e
    · cases e
end PX

namespace PX
open PySem PySem.Spec PyProof.Rows L2
/-! ### a dict that a loop walks: locked while the loop runs -/
/-- a dict, with keys of either sort -/
def Dct (w : HO) : Prop := (∃ kvs, w = .dK kvs) ∨ ∃ kvs, w = .dT kvs
/-- the same dict, locked or not -/
def Twin (u u' : HO) : Prop := ∃ w od, Dct w ∧ ((u = w ∧ u' = .frz od w) ∨ (u = .frz od w ∧ u' = w))
theorem Twin.symm {u u' : HO} (h : Twin u u') : Twin u' u := by
  obtain ⟨w, od, hw, ⟨a, b⟩ | ⟨a, b⟩⟩ := h
  · exact ⟨w, od, hw, .inr ⟨b, a⟩⟩
  · exact ⟨w, od, hw, .inl ⟨b, a⟩⟩
theorem Twin.ntup {u u' : HO} (h : Twin u u') : ∀ xs, u ≠ .tup xs := by
  obtain ⟨w, od, ⟨kvs, rfl⟩ | ⟨kvs, rfl⟩, ⟨rfl, rfl⟩ | ⟨rfl, rfl⟩⟩ := h <;> exact fun _ z => nomatch z
theorem Twin.nlst {u u' : HO} (h : Twin u u') : ∀ xs, u ≠ .lst xs := by
  obtain ⟨w, od, ⟨kvs, rfl⟩ | ⟨kvs, rfl⟩, ⟨rfl, rfl⟩ | ⟨rfl, rfl⟩⟩ := h <;> exact fun _ z => nomatch z
/-- in a part of the heap that has d -/
def swp (B : Hp) (d : Addr) (u : HO) : Hp := fun a => if a = d ∧ B d ≠ none then some u else B a
theorem swp_ne {B : Hp} {d a : Addr} {u : HO} (h : a ≠ d) : swp B d u a = B a := by unfold swp; rw [if_neg fun z => h z.1]
theorem swp_none {B : Hp} {d a : Addr} {u : HO} : swp B d u a = none ↔ B a = none := by
  by_cases h : a = d
  · subst h
    unfold swp
    by_cases hb : B a = none
    · rw [if_neg fun z => z.2 hb]
    · rw [if_pos ⟨rfl, hb⟩]
      simp [hb]
  · rw [swp_ne h]
theorem swp_back {B : Hp} {d : Addr} {u u' : HO} (h : ∀ o, B d = some o → o = u) : swp (swp B d u') d u = B := by
  funext a
  by_cases ha : a = d
  · subst ha
    cases hb : B a with
    | none => exact swp_none.mpr (swp_none.mpr hb)
    | some o =>
      have : swp B a u' a ≠ none := fun z => by rw [swp_none] at z; rw [hb] at z; cases z
      unfold swp at *
      rw [if_pos ⟨rfl, this⟩, h o hb]
  · rw [swp_ne ha, swp_ne ha]
section
variable {K : PySem.W.Frag} {B Gb G H : Hp} {σ : L2.St} {env : SEnv} {W : List Int} {d : Addr} {u u' : HO}
theorem sub_swap (hG : G d = some u) (t : Twin u u') : Sub G (upd G d u') := by
  refine ⟨fun a xs e => ?_, fun a xs e => ?_, fun a xs e => ?_, fun a xs e => ?_, fun a ob xs e => ?_⟩
  · rw [upd_ne (fun z => by subst z; rw [hG] at e; cases e; exact t.nlst _ rfl)]; exact e
  · by_cases z : a = d
    · subst z
      obtain ⟨w, od, ⟨kvs, rfl⟩ | ⟨kvs, rfl⟩, ⟨rfl, rfl⟩ | ⟨rfl, rfl⟩⟩ := t <;> rcases e with e | ⟨o, e⟩ <;> rw [hG] at e <;> cases e
    · rcases e with e | ⟨o, e⟩
      · exact .inl (by rw [upd_ne z]; exact e)
      · exact .inr ⟨o, by rw [upd_ne z]; exact e⟩
  · rw [upd_ne (fun z => by subst z; rw [hG] at e; cases e; exact t.ntup _ rfl)]; exact e
  · by_cases z : a = d
    · subst z
      obtain ⟨w, od, ⟨kvs, rfl⟩ | ⟨kvs, rfl⟩, ⟨rfl, rfl⟩ | ⟨rfl, rfl⟩⟩ := t <;> rcases e with e | ⟨o, e⟩ <;> rw [hG] at e <;> cases e <;> first | exact .inr ⟨od, upd_same⟩ | exact .inl upd_same
    · rcases e with e | ⟨o, e⟩
      · exact .inl (by rw [upd_ne z]; exact e)
      · exact .inr ⟨o, by rw [upd_ne z]; exact e⟩
  · by_cases z : a = d
    · subst z
      obtain ⟨w, od, ⟨kvs, rfl⟩ | ⟨kvs, rfl⟩, ⟨rfl, rfl⟩ | ⟨rfl, rfl⟩⟩ := t <;> rw [hG] at e <;> cases e
    · rw [upd_ne z]; exact e
theorem same_swp {A C : Hp} (s : Same A C) : Same (swp A d u') (upd C d u') := fun a o e => by
  by_cases z : a = d
  · subst z
    unfold swp at e
    by_cases hb : A a = none
    · rw [if_neg fun q => q.2 hb, hb] at e; cases e
    · rw [if_pos ⟨rfl, hb⟩] at e
      rw [upd_same]; exact e
  · rw [swp_ne z] at e
    rw [upd_ne z]
    exact s a o e
theorem gb_swp (hG : G d = some u) (t : Twin u u') (h : ∀ a o, B a = some o → G a ≠ none → Gb a ≠ none ∨ ∃ xs, o = .tup xs) (sb : ∀ o, B d = some o → o = u) : ∀ a o, swp B d u' a = some o → upd G d u' a ≠ none → swp Gb d u' a ≠ none ∨ ∃ xs, o = .tup xs := fun a o e hg => by
  by_cases z : a = d
  · subst z
    have hb : B a ≠ none := fun q => by rw [swp_none.mpr q] at e; cases e
    obtain ⟨o', ho'⟩ : ∃ o', B a = some o' := by
      cases hq : B a with
      | none => exact absurd hq hb
      | some o' => exact ⟨o', rfl⟩
    rcases h a o' ho' (by rw [hG]; exact fun q => nomatch q) with q | ⟨xs, q⟩
    · exact .inl fun z => q (swp_none.mp z)
    · have := sb o' ho'
      rw [q] at this
      exact absurd this.symm (t.ntup xs)
  · rw [swp_ne z] at e
    rw [upd_ne z] at hg
    rcases h a o e hg with q | q
    · exact .inl fun y => q (swp_none.mp y)
    · exact .inr q
theorem Sta.swap (S : Sta K B Gb G H σ env W) (hG : G d = some u) (t : Twin u u') : Sta K (swp B d u') (swp Gb d u') (upd G d u') (upd H d u') σ env W := by
  have sub := sub_swap hG t
  have hH : H d = some u := S.sg _ _ hG
  have hBu : ∀ o, B d = some o → o = u := fun o e => by have := S.sb _ _ e; rw [hH] at this; cases this; rfl
  have ne : ∀ p, G p = none → p ≠ d := fun p h z => by rw [z, hG] at h; cases h
  refine ⟨fun a o e => ?_, same_swp S.sb, same_swp S.sgb, gb_swp hG t S.gb hBu, S.len, fun i x e => ?_, fun i x e => ?_, fun i od' o' x e => ?_, fun i {q} e => ?_, fun i ns e => ?_, S.one, S.sep⟩
  · by_cases z : a = d
    · subst z; rw [upd_same] at e ⊢; exact e
    · rw [upd_ne z] at e ⊢; exact S.sg _ _ e
  · obtain ⟨v, h1, h2⟩ := S.pl i x e
    exact ⟨v, h1, Rp.mono sub h2⟩
  · obtain ⟨p, o, h1, h2, h3, h4, h5⟩ := S.ow i x e
    have z := ne p h2
    exact ⟨p, o, h1, by rw [upd_ne z]; exact h2, swp_none.mpr h3, by rw [upd_ne z]; exact h4, h5.mono sub⟩
  · obtain ⟨p, h1, h2, h3, h4, h5, h6⟩ := S.lk i _ _ _ e
    have z := ne p h2
    exact ⟨p, h1, by rw [upd_ne z]; exact h2, swp_none.mpr h3, by rw [upd_ne z]; exact h4, h5.mono sub, h6⟩
  · obtain ⟨p, l, ns, k, h1, h2, h3, h4, h5, h6⟩ := S.wd i e
    have z := ne p h2
    exact ⟨p, l, ns, k, h1, by rw [upd_ne z]; exact h2, swp_none.mpr h3, by rw [upd_ne z]; exact h4, sub.lst _ _ h5, h6⟩
  · obtain ⟨p, h1, h2⟩ := S.sc i ns e
    refine ⟨p, h1, ?_⟩
    rcases h2 with h2 | h2
    · have : p ≠ d := fun z => by
        subst z
        obtain ⟨w, od, ⟨kvs, rfl⟩ | ⟨kvs, rfl⟩, ⟨rfl, rfl⟩ | ⟨rfl, rfl⟩⟩ := t <;> rcases h2 with h2 | ⟨o, h2⟩ <;> rw [hG] at h2 <;> cases h2
      rcases h2 with h2 | ⟨o, h2⟩
      · exact .inl (.inl (by rw [upd_ne this]; exact h2))
      · exact .inl (.inr ⟨o, by rw [upd_ne this]; exact h2⟩)
    · exact .inr h2
theorem VOk.swap {v : V} {x : PyData} {k : Kd} (h : VOk K B G H σ env v x k) (hG : G d = some u) (t : Twin u u') : VOk K (swp B d u') (upd G d u') (upd H d u') σ env v x k := by
  cases k with
  | im => exact Rp.mono (sub_swap hG t) h
  | pk i => exact h
  | fr =>
    obtain ⟨p, o, rfl, h1, h2, h3, h4, h5⟩ := h
    have z : p ≠ d := fun z => by rw [z, hG] at h1; cases h1
    exact ⟨p, o, rfl, by rw [upd_ne z]; exact h1, swp_none.mpr h2, by rw [upd_ne z]; exact h3, h4.mono (sub_swap hG t), h5⟩
theorem Fin.swap {v : V} {x : PyData} (f : Fin K B Gb G H v x) (hG : G d = some u) (t : Twin u u') : Fin K (swp B d u') (swp Gb d u') (upd G d u') (upd H d u') v x := by
  have hH : H d = some u := f.sg _ _ hG
  have hBu : ∀ o, B d = some o → o = u := fun o e => by have := f.sb _ _ e; rw [hH] at this; cases this; rfl
  refine ⟨fun a o e => ?_, same_swp f.sb, same_swp f.sgb, gb_swp hG t f.gb hBu, Rp.mono (sub_swap hG t) f.rp⟩
  by_cases z : a = d
  · subst z; rw [upd_same] at e ⊢; exact e
  · rw [upd_ne z] at e ⊢; exact f.sg _ _ e
theorem same_back {G2 : Hp} (hG : G d = some u) (s : Same (upd G d u') G2) : Same G (upd G2 d u) := fun a o e => by
  by_cases z : a = d
  · subst z; rw [hG] at e; rw [upd_same]; exact e
  · rw [upd_ne z]
    exact s a o (by rw [upd_ne z]; exact e)
end
/-- keys of a dict that stands in a slot -/
def iKey (i : Nat) : Ci := fun env W => match env[i]? with
  | some (.pl (.dict es)) => if isT es = false ∧ es.length ≤ 16777216 then some (keysD es, .im, W) else none
  | _ => none
theorem RpD.keys' {K : PySem.W.Frag} {G : Hp} : ∀ {kvs : List (Key × V)} {es : List (PyData × PyData)}, RpD K G kvs es → ∀ (i : Nat) (k : Key) (v : V), kvs[i]? = some (k, v) → ∃ d, (keysD es)[i]? = some d ∧ Rp K G (kV k) d
  | _, _, .nil, i, k, v, h => by simp at h
  | _, _, .cons (k := k0) ok a b, 0, k, v, h => by
    simp at h
    obtain ⟨rfl, rfl⟩ := h
    refine ⟨keyD k0, rfl, ?_⟩
    cases k0 with
    | inl i => exact .int i
    | inr s => exact .str s ok
  | _, _, .cons ok a b, i + 1, k, v, h => by
    obtain ⟨d, h1, h2⟩ := RpD.keys' b i k v (by simpa using h)
    exact ⟨d, by simpa [keysD] using h1, h2⟩
section
variable {K : PySem.W.Frag} {σ : L2.St} {H : Hp} {i : Nat}
/-- the locked dict of a slot -/
def LkAt (H : Hp) (σ : L2.St) (i : Nat) : Prop := ∃ a od kvs, σ[i]? = some (some (V.ref a)) ∧ H a = some (.frz od (.dK kvs))
theorem keys_of {R : It → Hp → Prop} (q : tI K (iKey i) σ H R) (l : LkAt H σ i) : iKeys (tVar i) σ H R := by
  obtain ⟨B, Gb, G, env, W, ds, k, W', S, e, c⟩ := q
  obtain ⟨a, od, kvs, h1, h2⟩ := l
  unfold iKey at e
  split at e
  · rename_i es he
    split at e
    · rename_i hnt
      cases e
      obtain ⟨v, h3, r⟩ := S.pl i _ he
      rw [h1] at h3
      cases h3
      have hfr : G a = some (.frz od (.dK kvs)) ∧ RpD K G kvs es := by
        cases r with
        | dK hr rd =>
          rcases hr with hr | ⟨o, hr⟩
          · have := S.sg _ _ hr; rw [h2] at this; cases this
          · have := S.sg _ _ hr; rw [h2] at this; cases this; exact ⟨hr, rd⟩
        | dT hr rd => exact absurd hnt.1 (by subst hr; simp [isT, rowE])
      refine ⟨_, h1, a, od, rfl, .inl ⟨kvs, h2, c (Itk a od kvs) G H (fun G2 H2 => H2 a = some (.frz od (.dK kvs)) ∧ RpD K G2 kvs es) (Same.refl _) S ?_ ?_ ?_⟩⟩
      · refine ⟨fun j G2 H2 hj hc => ?_, fun G2 H2 hc => ?_, fun j G2 H2 x H3 hj hc hy => ?_⟩
        · exact ⟨hc.1, by have := hc.2.length; unfold keysD at hj; rw [List.length_map] at hj; omega⟩
        · exact ⟨hc.1, by have := hc.2.length; unfold keysD; rw [List.length_map]; omega⟩
        · obtain ⟨rfl, k, v, hk, rfl⟩ := hy
          obtain ⟨d, q1, q2⟩ := hc.2.keys' j k v hk
          exact ⟨d, q1, .inl ⟨rfl, q2⟩⟩
      · exact fun B2 Gb2 G2 H2 σ2 env2 W2 s2 S2 _ => ⟨S2.sg _ _ (s2 _ _ hfr.1), RpD.mono (Sub.of s2) hfr.2⟩
      · unfold keysD
        rw [List.length_map]
        exact hnt.2
    · cases e
  · cases e
end

section
variable {X : Cx} {tg : Expr} {f : Ci} {t : Tg} {g : Sx} {vs : List Nat}
theorem for_step {D : Ends} {σ : L2.St} {H : Hp} (q : tS X.K (sFor f t g) D σ H) : tFor (tI X.K f) (tG X.K t vs) (tS X.K g) D σ H := by
  obtain ⟨B, Gb, G, env, W, o, S, e, p⟩ := q
  unfold sFor at e
  rw [Option.bind_eq_some_iff] at e
  obtain ⟨⟨ds, k, W1⟩, e1, e⟩ := e
  dsimp only at e
  split at e
  · rename_i hk
    refine ⟨B, Gb, G, env, W, ds, k, W1, S, e1, fun J G1 H1 C s1 S1 w hld hlen => ?_⟩
    have hld' : ∀ {B Gb G2 H σ1 env1 W}, Same G1 G2 → Sta X.K B Gb G2 H σ1 env1 W → C G2 H := fun s S => hld _ _ _ _ _ _ _ s S fun i z => by subst z; exact absurd hk Bool.false_ne_true
    refine ⟨fun i m σ H => m = ds.length - i ∧ i ≤ ds.length ∧ ∃ G2 env2 W2, Same G1 G2 ∧ Sta X.K B Gb G2 H σ env2 W2 ∧ forL t g (ds.drop i) env2 W2 = some o, ⟨ds.length, rfl, Nat.zero_le _, G1, env, W1, Same.refl _, S1, e⟩, ?_⟩
    rintro i m σ H ⟨rfl, hi, G2, env2, W2, s2, S2, e2⟩
    by_cases hlt : i < ds.length
    · refine .inr ⟨w.goes i G2 H hlt (hld' s2 S2), fun σ' H' => ∃ G2 env2 W2, Same G1 G2 ∧ Sta X.K B Gb G2 H' σ' env2 W2 ∧ forL t g (ds.drop (i + 1)) env2 W2 = some o, fun σ' H' h => ⟨ds.length - (i + 1), by omega, rfl, hlt, h⟩, fun x H' y => ?_⟩
      obtain ⟨d, G3, hd, s3, h3, S3, r⟩ := w.yield S2 (hld' s2 S2) hlt y
      rw [List.drop_eq_getElem_cons hlt, forL, Option.bind_eq_some_iff] at e2
      obtain ⟨env3, e4, e5⟩ := e2
      have ed : ds[i] = d := by
        rw [List.getElem?_eq_getElem hlt] at hd
        exact Option.some.inj hd
      rw [ed] at e4
      refine ⟨B, Gb, G3, env2, W2, d, env3, S3, r, e4, fun σ3 _ S4 => ?_⟩
      split at e5
      · rename_i e' W' eg
        exact ⟨B, Gb, G3, env3, W2, _, S4, eg, fun σ5 G5 H5 s5 S5 => ⟨G5, e', W', (s2.trans s3).trans s5, S5, e5⟩⟩
      · rename_i e' W' eg
        exact ⟨B, Gb, G3, env3, W2, _, S4, eg, fun σ5 G5 H5 s5 S5 => ⟨G5, e', W', (s2.trans s3).trans s5, S5, e5⟩⟩
      · rename_i e' W' eg
        cases e5
        exact ⟨B, Gb, G3, env3, W2, _, S4, eg, fun σ5 G5 H5 s5 S5 => p σ5 G5 H5 (((s1.trans s2).trans s3).trans s5) S5⟩
      · rename_i r' n1 n2 n3
        cases o with
        | nx a b => exact absurd e5 (n1 a b)
        | ct a b => exact absurd e5 (n2 a b)
        | bk a b => exact absurd e5 (n3 a b)
        | rt d W' => exact ⟨B, Gb, G3, env3, W2, _, S4, e5, post.sub p ((s1.trans s2).trans s3)⟩
    · have ei : i = ds.length := by omega
      subst ei
      rw [List.drop_length] at e2
      cases e2
      exact .inl ⟨w.stops G2 H (hld' s2 S2), p σ G2 H (s1.trans s2) S2⟩
  · cases e
end
section
variable {K : PySem.W.Frag} {B Gb G H : Hp} {σ : L2.St} {env : SEnv} {W : List Int} {a : Addr} {kvs : List (Key × V)}
def lkEnds (D : Ends) (d : Addr) (od : Obj) (u : HO) : Ends := ⟨fun σ' H' => H' d = some (.frz od u) ∧ D.nx σ' (upd H' d u), fun v H' => H' d = some (.frz od u) ∧ D.rt v (upd H' d u), fun σ' H' => H' d = some (.frz od u) ∧ D.bk σ' (upd H' d u), fun σ' H' => H' d = some (.frz od u) ∧ D.ct σ' (upd H' d u)⟩
theorem twinW {w : HO} (hw : Dct w) (od : Obj) : Twin w (.frz od w) := ⟨w, od, hw, .inl ⟨rfl, rfl⟩⟩
theorem twin (kvs : List (Key × V)) (od : Obj) : Twin (.dK kvs) (.frz od (.dK kvs)) := twinW (.inl ⟨kvs, rfl⟩) od
theorem tE_lockW {w : HO} (hw : Dct w) {f : Ex} {Q : VK} {d : PyData} {k : Kd} {W' : List Int} (S : Sta K B Gb G H σ env W) (ev : f env W = some (d, k, W')) (c : Cont K B Gb G σ env W' d k Q) (hG : G a = some w) (od : Obj) : tE K f σ (upd H a (.frz od w)) (fun v H' => H' a = some (.frz od w) ∧ Q v (upd H' a w)) := by
  have hBu : ∀ o, B a = some o → o = w := fun o e => by have := S.sb _ _ e; rw [S.sg _ _ hG] at this; cases this; rfl
  have hGu : ∀ o, Gb a = some o → o = w := fun o e => by have := S.sgb _ _ e; rw [hG] at this; cases this; rfl
  refine ⟨_, _, _, env, W, d, k, W', S.swap hG (twinW hw od), ev, fun v G2 H2 s2 S2 h2 => ?_⟩
  have hG2 : G2 a = some (.frz od w) := s2 _ _ upd_same
  have S3 := S2.swap hG2 (twinW hw od).symm
  have h3 := h2.swap hG2 (twinW hw od).symm
  rw [swp_back hBu] at S3 h3
  rw [swp_back hGu] at S3
  exact ⟨S2.sg _ _ hG2, c v _ _ (same_back hG s2) S3 h3⟩
theorem tS_lockW {w : HO} (hw : Dct w) {g : Sx} {D : Ends} {o : Ou} (S : Sta K B Gb G H σ env W) (ev : g env W = some o) (p : post K B Gb G D o) (hG : G a = some w) (od : Obj) : tS K g (lkEnds D a od w) σ (upd H a (.frz od w)) := by
  have hBu : ∀ o, B a = some o → o = w := fun o e => by have := S.sb _ _ e; rw [S.sg _ _ hG] at this; cases this; rfl
  have hGu : ∀ o, Gb a = some o → o = w := fun o e => by have := S.sgb _ _ e; rw [hG] at this; cases this; rfl
  refine ⟨_, _, _, env, W, o, S.swap hG (twinW hw od), ev, ?_⟩
  have nx : ∀ {env1 : SEnv} {W1 : List Int} {P : L2.St → Hp → Prop}, Nx K B Gb G env1 W1 P → Nx K (swp B a (.frz od w)) (swp Gb a (.frz od w)) (upd G a (.frz od w)) env1 W1 (fun σ' H' => H' a = some (.frz od w) ∧ P σ' (upd H' a w)) := fun h σ2 G2 H2 s2 S2 => by
    have hG2 := s2 _ _ (upd_same (H := G) (a := a) (o := .frz od w))
    have S3 := S2.swap hG2 (twinW hw od).symm
    rw [swp_back hBu, swp_back hGu] at S3
    exact ⟨S2.sg _ _ hG2, h σ2 _ _ (same_back hG s2) S3⟩
  cases o with
  | nx e1 w1 => exact nx p
  | bk e1 w1 => exact nx p
  | ct e1 w1 => exact nx p
  | rt d w1 =>
      intro v G2 H2 s2 f
      have hG2 := s2 _ _ (upd_same (H := G) (a := a) (o := .frz od w))
      have f3 := f.swap hG2 (twinW hw od).symm
      rw [swp_back hBu, swp_back hGu] at f3
      exact ⟨f.sg _ _ hG2, p v _ _ (same_back hG s2) f3⟩
theorem tE_lock {f : Ex} {Q : VK} {d : PyData} {k : Kd} {W' : List Int} (S : Sta K B Gb G H σ env W) (ev : f env W = some (d, k, W')) (c : Cont K B Gb G σ env W' d k Q) (hG : G a = some (.dK kvs)) (od : Obj) : tE K f σ (upd H a (.frz od (.dK kvs))) (fun v H' => H' a = some (.frz od (.dK kvs)) ∧ Q v (upd H' a (.dK kvs))) := tE_lockW (.inl ⟨kvs, rfl⟩) S ev c hG od
theorem tS_lock {g : Sx} {D : Ends} {o : Ou} (S : Sta K B Gb G H σ env W) (ev : g env W = some o) (p : post K B Gb G D o) (hG : G a = some (.dK kvs)) (od : Obj) : tS K g (lkEnds D a od (.dK kvs)) σ (upd H a (.frz od (.dK kvs))) := tS_lockW (.inl ⟨kvs, rfl⟩) S ev p hG od
/-- the dict of a slot stands locked, or can be locked -/
theorem key_at {i : Nat} {ds : List PyData} {k : Kd} {W' : List Int} (S : Sta K B Gb G H σ env W) (e : iKey i env W = some (ds, k, W')) : LkAt H σ i ∨ ∃ a kvs, σ[i]? = some (some (V.ref a)) ∧ G a = some (.dK kvs) := by
  unfold iKey at e
  split at e
  · rename_i es he
    split at e
    · rename_i hnt
      obtain ⟨v, h3, r⟩ := S.pl i _ he
      cases r with
      | dK hr rd =>
        rcases hr with hr | ⟨o, hr⟩
        · exact .inr ⟨_, _, h3, hr⟩
        · exact .inl ⟨_, _, _, h3, S.sg _ _ hr⟩
      | dT hr rd => exact absurd hnt.1 (by subst hr; simp [isT, rowE])
    · cases e
  · cases e
theorem lk_upd {i : Nat} (h : σ[i]? = some (some (V.ref a))) (od : Obj) : LkAt (upd H a (.frz od (.dK kvs))) σ i := ⟨a, od, kvs, h, upd_same⟩
end
theorem PE.or {X : Cx} {e : Expr} {t1 t2 : TE} (h1 : PE X e t1) (h2 : PE X e t2) : PE X e (fun σ H Q => t1 σ H Q ∨ t2 σ H Q) := ⟨fun pins s σ H Q I q => by
  rcases q with q | q
  · exact h1.run pins s σ H Q I q
  · exact h2.run pins s σ H Q I q⟩
theorem PS.or {X : Cx} {st : Stmt} {t1 t2 : TS} (h1 : PS X st t1) (h2 : PS X st t2) : PS X st (fun D σ H => t1 D σ H ∨ t2 D σ H) := ⟨fun pins s σ H D I q => by
  rcases q with q | q
  · exact h1.run pins s σ H D I q
  · exact h2.run pins s σ H D I q⟩
section
variable {X : Cx} {tg elt : Expr} {ifs : List Expr} {scope : Scope} {own : List (Str × Nat)} {pos pos' : Pos} {x : Str} {i : Nat} {t : Tg} {c : Ct} {e : Ex} {g : Sx} {body : List Stmt} {vs : List Nat}
theorem cLc_it {f : Ci} {vs : List Nat} {env : SEnv} {W W' : List Int} {d : PyData} {k : Kd} (h : cLc f t c e vs env W = some (d, k, W')) : ∃ ds k1 W1, f env W = some (ds, k1, W1) := by
  unfold cLc at h
  split at h
  · rw [Option.bind_eq_some_iff] at h
    obtain ⟨⟨ds, k1, W1⟩, h1, _⟩ := h
    exact ⟨ds, k1, W1, h1⟩
  · cases h
theorem px_lcD (hc : X.calm = true) (hN : X.N.Nodup) (hi : X.N[i]? = some x) (ok : BlkOk X.N X.env.scope scope own)
    (hg : ∀ (s : Shared) (H : Hp) (C : Addr) (cl : List (Str × Addr)) (fp : List Addr), PGX (X.blk s H scope (compEnvC scope cl C X.env) fp) tg t (own.map (·.2))) (ht : ∀ (s : Shared) (H : Hp) (C : Addr) (cl : List (Str × Addr)) (fp : List Addr), PTsX (X.blk s H scope (compEnvC scope cl C X.env) fp) ifs c)
    (he : ∀ (s : Shared) (H : Hp) (C : Addr) (cl : List (Str × Addr)) (fp : List Addr), PX (X.blk s H scope (compEnvC scope cl C X.env) fp) elt e)
    (hv : Vis X.env.scope x := by first | exact Or.inl rfl | exact Or.inr (Or.inl rfl) | exact Or.inr (Or.inr rfl)) (hd : (x == ("__debug__" : Str)) = false := by decide) (hcd : (x == ("__classdict__" : Str)) = false := by decide) (hs : ∀ y, foldedSetIterable (.Name x pos') X.env y = pure y := by intro _; rfl) :
    PX X (.ListComp elt [⟨tg, .Name x pos', ifs, 0⟩] scope pos) (cLc (iKey i) t c e (own.map (·.2))) := by
  have core := pe_lc (g := tG X.K t (own.map (fun p : Str × Nat => p.2))) (tt := tT X.K c) (te := tE X.K e) (elt := elt) (pos := pos) hc hN (pi_keys (pe_var (pos := pos') hi hv hd hcd)) ok (fun s H C cl fp => (hg s H C cl fp).pg) ht he hs
  refine PE.imp (PE.or core (pe_lock core)) fun σ H Q q => ?_
  have okk := (hg X.s_0 H 0 [] []).ok
  have q0 := q
  obtain ⟨B, Gb, G, env, W, dd, kk, W', S, ev, cont⟩ := q
  obtain ⟨ds, k1, W1, e1⟩ := cLc_it ev
  rcases key_at S e1 with l | ⟨a, kvs, ha, hG⟩
  · exact .inl (keys_of (lc_step okk q0) l)
  · exact .inr ⟨a, .dK kvs, S.sg _ _ hG, trivial, fun od => keys_of (lc_step okk (tE_lock S ev cont hG od)) (lk_upd ha od)⟩
theorem psx_setLcD {j : Nat} {oo : Bool} {y : Str} {py spos : Pos} (hc : X.calm = true) (hN : X.N.Nodup) (hi : X.N[i]? = some x) (ok : BlkOk X.N X.env.scope scope own)
    (hg : ∀ (s : Shared) (H : Hp) (C : Addr) (cl : List (Str × Addr)) (fp : List Addr), PGX (X.blk s H scope (compEnvC scope cl C X.env) fp) tg t (own.map (·.2))) (ht : ∀ (s : Shared) (H : Hp) (C : Addr) (cl : List (Str × Addr)) (fp : List Addr), PTsX (X.blk s H scope (compEnvC scope cl C X.env) fp) ifs c)
    (he : ∀ (s : Shared) (H : Hp) (C : Addr) (cl : List (Str × Addr)) (fp : List Addr), PX (X.blk s H scope (compEnvC scope cl C X.env) fp) elt e)
    (hsw : swapsWith (.ListComp elt [⟨tg, .Name x pos', ifs, 0⟩] scope pos) (some (.Name y py)) spos.line X.env = pure true) (hy : X.N[j]? = some y := by rfl) (hyl : X.env.scope.names.lookup y = some .local := by rfl)
    (hv : Vis X.env.scope x := by first | exact Or.inl rfl | exact Or.inr (Or.inl rfl) | exact Or.inr (Or.inr rfl)) (hd : (x == ("__debug__" : Str)) = false := by decide) (hcd : (x == ("__classdict__" : Str)) = false := by decide) (hs : ∀ y, foldedSetIterable (.Name x pos') X.env y = pure y := by intro _; rfl) :
    PSX X (.Assign [.Name y py] (.ListComp elt [⟨tg, .Name x pos', ifs, 0⟩] scope pos) spos) (sSet j oo (cLc (iKey i) t c e (own.map (·.2)))) := by
  have core := ps_setLc (g := tG X.K t (own.map (fun p : Str × Nat => p.2))) (tt := tT X.K c) (te := tE X.K e) hc hN hy hyl hsw (pi_keys (pe_var (pos := pos') hi hv hd hcd)) ok (fun s H C cl fp => (hg s H C cl fp).pg) ht he hs
  refine PS.imp (PS.or core (ps_lock core)) fun D σ H q => ?_
  have okk := (hg X.s_0 H 0 [] []).ok
  have q0 := q
  obtain ⟨B, Gb, G, env, W, o, S, ev, p⟩ := q
  have hit : ∃ ds k1 W1, iKey i env W = some (ds, k1, W1) := by
    unfold sSet at ev
    rw [Option.bind_eq_some_iff] at ev
    obtain ⟨⟨d, k, W2⟩, h1, _⟩ := ev
    exact cLc_it h1
  obtain ⟨ds, k1, W1, e1⟩ := hit
  rcases key_at S e1 with l | ⟨a, kvs, ha, hG⟩
  · exact .inl (keys_of (lc_step okk (set_step q0)) l)
  · exact .inr ⟨a, .dK kvs, S.sg _ _ hG, trivial, fun od => keys_of (lc_step okk (set_step (tS_lock S ev p hG od))) (lk_upd ha od)⟩
theorem psx_forD (hp : PassesOwn (model X.prog X.w) X.A X.env X.xe) (hc : X.calm = true) (hi : X.N[i]? = some x) (hg : PGX X tg t vs) (hb : PSsX X body g)
    (hv : Vis X.env.scope x := by first | exact Or.inl rfl | exact Or.inr (Or.inl rfl) | exact Or.inr (Or.inr rfl)) (hd : (x == ("__debug__" : Str)) = false := by decide) (hcd : (x == ("__classdict__" : Str)) = false := by decide)
    (hs : ∀ y, foldedSetIterable (.Name x pos') X.env y = pure y := by intro _; rfl) : PSX X (.For tg (.Name x pos') body [] pos) (sFor (iKey i) t g) := by
  have core := ps_for (pos := pos) hp hc (pi_keys (pe_var (pos := pos') hi hv hd hcd)) hg.pg hb hs
  refine PS.imp (PS.or core (ps_lock core)) fun D σ H q => ?_
  have q0 := q
  obtain ⟨B, Gb, G, env, W, o, S, ev, p⟩ := q
  have hit : ∃ ds k1 W1, iKey i env W = some (ds, k1, W1) := by
    unfold sFor at ev
    rw [Option.bind_eq_some_iff] at ev
    obtain ⟨⟨ds, k1, W1⟩, h1, _⟩ := ev
    exact ⟨ds, k1, W1, h1⟩
  obtain ⟨ds, k1, W1, e1⟩ := hit
  rcases key_at S e1 with l | ⟨a, kvs, ha, hG⟩
  · exact .inl (keys_of (for_step q0) l)
  · exact .inr ⟨a, .dK kvs, S.sg _ _ hG, trivial, fun od => keys_of (for_step (tS_lock S ev p hG od)) (lk_upd ha od)⟩
end
end PX

namespace PX
open PySem PySem.Spec PyProof.Rows L2
open PySem.SeqAt (EqIn)
/-! ### == of data with dicts within -/
def allO : List (Option Bool) → Option Bool
  | [] => some true
  | o :: os => o.bind fun a => (allO os).map fun b => a && b
def deq : Nat → PyData → PyData → Option Bool
  | 0, _, _ => none
  | n + 1, a, b => if flat a && flat b then some (PyData.eqv a b) else match a, b with
    | .list xs, .list ys => if xs.length = ys.length then allO (List.zipWith (deq n) xs ys) else none
    | .tuple xs, .tuple ys => if xs.length = ys.length then allO (List.zipWith (deq n) xs ys) else none
    | .dict es, .dict fs => if isT es = false ∧ isT fs = false then (if es.length = fs.length then allO (es.map fun e => match dget fs e.1 with | none => some false | some y => deq n e.2 y) else some false) else none
    | _, _ => none
theorem allO_cons {o : Option Bool} {os : List (Option Bool)} {b : Bool} (h : allO (o :: os) = some b) : ∃ x y, o = some x ∧ allO os = some y ∧ b = (x && y) := by
  unfold allO at h
  rw [Option.bind_eq_some_iff] at h
  obtain ⟨x, e1, h⟩ := h
  rw [Option.map_eq_some_iff] at h
  obtain ⟨y, e2, e3⟩ := h
  exact ⟨x, y, e1, e2, e3.symm⟩
section
variable {X : Cx} {pins : List (Addr × Obj)} {σ : L2.St} {H : Hp} {s : Shared}
/-- a dict in the heap, locked or not -/
theorem objK (I : Inv X pins σ H s) {a : Addr} {kvs : List (Key × V)} (h : Rd H a (.dK kvs)) : ObjOk X.prog X.w H s.heap a (.dK kvs) := by
  rcases h with h | ⟨o, h⟩
  · exact I.hok a _ h
  · exact (I.hok a _ h).2
theorem objT (I : Inv X pins σ H s) {a : Addr} {kvs : List (List Key × V)} (h : Rd H a (.dT kvs)) : ObjOk X.prog X.w H s.heap a (.dT kvs) := by
  rcases h with h | ⟨o, h⟩
  · exact I.hok a _ h
  · exact (I.hok a _ h).2
theorem kv_keys {κ : Type} {kvs : List (κ × V)} {vs : List (κ × Value)} (r : KV kvs vs) : vs.map (·.1) = kvs.map (·.1) := by
  unfold KV at r
  induction r with
  | nil => rfl
  | cons h _ ih => rw [List.map_cons, List.map_cons, ih, h.1]
theorem nodupK (I : Inv X pins σ H s) {a : Addr} {kvs : List (Key × V)} (h : Rd H a (.dK kvs)) : (kvs.map (·.1)).Nodup := by
  obtain ⟨_, _, vs, r, o, es, ep, _, _, _, _, _, nd⟩ := objK I h
  rw [kv_keys r] at nd
  exact nd
theorem pair_keys {α β κ : Type} {f : α → κ} {g : β → κ} {R : α → β → Prop} (h : ∀ a b, R a b → f a = g b) : ∀ {as : List α} {bs : List β}, Paired R as bs → as.map f = bs.map g
  | _, _, .nil => rfl
  | _, _, .cons r t => by rw [List.map_cons, List.map_cons, h _ _ r, pair_keys h t]
theorem nodupT (I : Inv X pins σ H s) {a : Addr} {kvs : List (List Key × V)} (h : Rd H a (.dT kvs)) : (kvs.map (·.1)).Nodup := by
  obtain ⟨_, _, xs, r, o, es, ep, _, _, _, _, nd⟩ := objT I h
  rw [pair_keys (f := fun p : List Key × V => p.1) (g := fun q : List Key × Addr × Value => q.1) (fun _ _ z => z.1) r]
  exact nd
theorem rd_inj {H : Hp} {a : Addr} {u v : HO} (hu : ∀ o w, u ≠ .frz o w) (hv : ∀ o w, v ≠ .frz o w) (h : Rd H a u) (k : Rd H a v) : u = v := by
  rcases h with h | ⟨o, h⟩ <;> rcases k with k | ⟨o', k⟩ <;> rw [h] at k <;> cases k
  · rfl
  · exact absurd rfl (hu _ _)
  · exact absurd rfl (hv _ _)
  · rfl
theorem sqT_inj (I : Inv X pins σ H s) {a : Addr} {xs ys : List V} (h : SqT X.K H a xs) (k : SqT X.K H a ys) : xs = ys := by
  obtain ⟨us, r1, ⟨o, e1, _, n, d1⟩, _⟩ := I.tuple h
  obtain ⟨ws, r2, ⟨o', e2, _, n', d2⟩, _⟩ := I.tuple k
  rw [e1] at e2; cases e2
  rw [d1] at d2; cases d2
  exact r1.inj r2
theorem paired_left {α β : Type} {F : α → β → Prop} : ∀ {as : List α} {bs : List β}, Paired F as bs → ∀ a ∈ as, ∃ b, F a b
  | _, _, .nil, _, h => nomatch h
  | _, _, .cons r t, a, h => by
    rcases List.mem_cons.mp h with rfl | h
    · exact ⟨_, r⟩
    · exact paired_left t a h
theorem valV_mem {κ : Type} [DecidableEq κ] : ∀ {kvs : List (κ × V)}, (kvs.map (·.1)).Nodup → ∀ p ∈ kvs, valV kvs p.1 = some p.2
  | [], _, _, h => nomatch h
  | q :: kvs, nd, p, hp => by
    rw [List.map_cons, List.nodup_cons] at nd
    unfold valV
    rw [List.find?_cons]
    rcases List.mem_cons.mp hp with rfl | hp
    · rw [decide_eq_true rfl]; rfl
    · have : q.1 ≠ p.1 := fun e => nd.1 (e ▸ List.mem_map_of_mem hp)
      rw [decide_eq_false this]
      exact valV_mem nd.2 p hp
theorem RpD.mem {K : PySem.W.Frag} {G : Hp} : ∀ {kvs : List (Key × V)} {es : List (PyData × PyData)}, RpD K G kvs es → ∀ e ∈ es, ∃ p ∈ kvs, e.1 = keyD p.1 ∧ Rp K G p.2 e.2
  | _, _, .nil, _, h => nomatch h
  | _, _, .cons o a b, e, h => by
    rcases List.mem_cons.mp h with rfl | h
    · exact ⟨_, List.mem_cons_self, rfl, a⟩
    · obtain ⟨p, h1, h2⟩ := RpD.mem b e h
      exact ⟨p, List.mem_cons_of_mem _ h1, h2⟩
theorem allO_true {α : Type} {f : α → Option Bool} : ∀ {as : List α} {b : Bool}, (∀ a ∈ as, ∀ b, f a = some b → b = true) → allO (as.map f) = some b → b = true
  | [], _, _, h => by cases h; rfl
  | a :: as, b, hf, h => by
    rw [List.map_cons] at h
    obtain ⟨x, y, e1, e2, rfl⟩ := allO_cons h
    rw [hf a List.mem_cons_self x e1, allO_true (fun a' ha' => hf a' (List.mem_cons_of_mem _ ha')) e2]
    rfl
theorem ents_T {es : List (PyData × PyData)} : ents ((.none, .none) :: es) = es := by simp [ents, PX.isT]
theorem ents_D {K : PySem.W.Frag} {G : Hp} {kvs : List (Key × V)} {es : List (PyData × PyData)} (h : RpD K G kvs es) : ents es = es := by unfold ents; rw [if_neg (by rw [h.notT]; exact Bool.false_ne_true)]
/-- what a value reads as is one -/
theorem deq_same (I : Inv X pins σ H s) : ∀ (n : Nat) {x : V} {v : Value} {a b : PyData} {r : Bool}, Rp X.K H x a → Rp X.K H x b → RelV x v → deq n a b = some r → r = true
  | 0, _, _, _, _, _, _, _, _, h => nomatch h
  | n + 1, x, v, a, b, r, ha, hb, rx, h => by
    unfold deq at h
    split at h
    · rename_i f
      cases h
      rw [Bool.and_eq_true] at f
      obtain ⟨⟨as, r1⟩, l1⟩ := ha.reads I (flat_noD f.1) rx
      obtain ⟨⟨bs, r2⟩, l2⟩ := hb.reads I (flat_noD f.2) rx
      rw [SeqAt.Reads.unique a b _ _ _ l1 r1 r2]
      exact SeqAt.eqv_refl b l2
    · have items : ∀ {xs : List V} {us : List Value} {as bs : List PyData} {r : Bool}, RpL X.K H xs as → RpL X.K H xs bs → Vals xs us → allO (List.zipWith (deq n) as bs) = some r → r = true := by
        intro xs
        induction xs with
        | nil => intro us as bs r h1 h2 _ h; cases h1; cases h2; cases h; rfl
        | cons x xs ih =>
          intro us as bs r h1 h2 rv h
          cases h1 with
          | cons a1 b1 =>
            cases h2 with
            | cons a2 b2 =>
              cases rv with
              | cons c1 c2 =>
                rw [List.zipWith_cons_cons] at h
                obtain ⟨p, q, e1, e2, rfl⟩ := allO_cons h
                rw [deq_same I n a1 a2 c1 e1, ih b1 b2 c2 e2]
                rfl
      split at h
      · split at h
        · cases ha with
          | lst a1 b1 =>
            cases hb with
            | lst a2 b2 =>
              rw [a1] at a2; cases a2
              obtain ⟨us, rv, _⟩ := I.list (.of a1)
              exact items b1 b2 rv h
        · cases h
      · split at h
        · cases ha with
          | tup a1 b1 =>
            cases hb with
            | tup a2 b2 =>
              obtain ⟨us, rv, hl, _⟩ := I.tuple a1.sqT
              have e := sqT_inj I a1.sqT a2.sqT
              subst e
              exact items b1 b2 rv h
        · cases h
      · split at h
        · rename_i ht
          cases ha with
          | dT a1 b1 => exact absurd ht.1 (by subst a1; simp [isT, rowE])
          | dK a1 b1 =>
            cases hb with
            | dT a2 b2 => exact absurd ht.2 (by subst a2; simp [isT, rowE])
            | dK a2 b2 =>
              have e := rd_inj (by exact fun _ _ z => nomatch z) (by exact fun _ _ z => nomatch z) a1 a2
              cases e
              rw [if_pos (b1.length.symm.trans b2.length)] at h
              obtain ⟨_, _, vs, rk, _⟩ := objK I a1
              refine allO_true (fun e he b hb => ?_) h
              obtain ⟨p, hp, e1, e2⟩ := b1.mem e he
              have g := b2.get p.1
              rw [valV_mem (nodupK I a1) p hp] at g
              rw [e1] at hb
              cases hd : dget _ (keyD p.1) with
              | none => rw [hd] at g; exact g.elim
              | some y =>
                rw [hd] at g hb
                obtain ⟨u, _, ru⟩ := paired_left rk p hp
                exact deq_same I n e2 g ru hb
        · cases h
      · cases h
/-- what two refs of data with dicts ask of their items -/
structure EqNs (n : Nat) (A : Around) : Prop where
  eq : ∀ {x y : V} {v u : Value} {a b : PyData} {r : Bool}, Rp X.K H x a → Rp X.K H y b → RelV x v → RelV y u → deq n a b = some r → EqIn X.prog X.w A s v u r
theorem zip_run {n : Nat} {A : Around} (q : EqNs (X := X) (H := H) (s := s) n A) : ∀ {xs ys : List V} {us ws : List Value} {as bs : List PyData} {r : Bool}, RpL X.K H xs as → RpL X.K H ys bs → Vals xs us → Vals ys ws → as.length = bs.length → allO (List.zipWith (deq n) as bs) = some r →
    ∃ e : Nat → Bool, (∀ j (h1 : j < us.length) (h2 : j < ws.length), EqIn X.prog X.w A s us[j] ws[j] (e j)) ∧ (List.range us.length).all e = r ∧ us.length = ws.length := by
  intro xs
  induction xs with
  | nil =>
    intro ys us ws as bs r h1 h2 r1 r2 hl h
    cases h1; cases r1
    cases h2 with
    | nil => cases r2; cases h; exact ⟨fun _ => true, fun j h => absurd h (Nat.not_lt_zero j), rfl, rfl⟩
    | cons _ _ => cases hl
  | cons x xs ih =>
    intro ys us ws as bs r h1 h2 r1 r2 hl h
    cases h1 with
    | cons a1 b1 =>
      cases h2 with
      | nil => cases hl
      | cons a2 b2 =>
        cases r1 with
        | cons c1 d1 =>
          cases r2 with
          | cons c2 d2 =>
            rw [List.zipWith_cons_cons] at h
            obtain ⟨p, q', e1, e2, rfl⟩ := allO_cons h
            obtain ⟨e, f1, f2, f3⟩ := ih b1 b2 d1 d2 (Nat.succ.inj hl) e2
            refine ⟨fun j => match j with | 0 => p | j + 1 => e j, fun j g1 g2 => ?_, ?_, by rw [List.length_cons, List.length_cons, f3]⟩
            · cases j with
              | zero => exact q.eq a1 a2 c1 c2 e1
              | succ j => exact f1 j (Nat.lt_of_succ_lt_succ g1) (Nat.lt_of_succ_lt_succ g2)
            · rw [List.length_cons, List.range_succ_eq_map, List.all_cons, List.all_map, ← f2]
              rfl
theorem hitsK {n : Nat} {A : Around} (q : EqNs (X := X) (H := H) (s := s) n A) {ls : List (Key × V)} {fs : List (PyData × PyData)} {vb : List (Key × Value)} (rf : RpD X.K H ls fs) (rb : KV ls vb) : ∀ {ks : List (Key × V)} {es : List (PyData × PyData)} {va : List (Key × Value)} {r : Bool}, RpD X.K H ks es → KV ks va →
    allO (es.map fun e => match dget fs e.1 with | none => some false | some y => deq n e.2 y) = some r → PySem.W.KeqHitsIn X.prog X.w A s vb va r := by
  intro ks
  induction ks with
  | nil => intro es va r h1 r1 h; cases h1; cases r1; cases h; exact .nil
  | cons p ks ih =>
    intro es va r h1 r1 h
    cases h1 with
    | @cons k v _ d ds o a b =>
      cases r1 with
      | @cons _ qq _ _ c1 d1 =>
        rw [List.map_cons] at h
        obtain ⟨p', q', e1, e2, rfl⟩ := allO_cons h
        obtain ⟨k', w'⟩ := qq
        obtain ⟨ek, rv⟩ := c1
        have ek : k = k' := ek
        subst ek
        have g := rf.get k
        have rr := rb.val k
        dsimp only at e1
        cases hd : dget fs (keyD k) with
        | none =>
          rw [hd] at g e1
          cases hv : valV ls k with
          | none =>
            rw [hv] at rr
            cases hw : valueAt vb k with
            | none => cases e1; rw [Bool.false_and]; exact .miss hw
            | some _ => rw [hw] at rr; exact rr.elim
          | some _ => rw [hv] at g; exact g.elim
        | some y =>
          rw [hd] at g e1
          cases hv : valV ls k with
          | none => rw [hv] at g; exact g.elim
          | some z =>
            rw [hv] at g rr
            obtain ⟨u, hu, ru⟩ := rr.some_of
            exact .hit hu (q.eq a g rv ru e1) (ih b d1 e2)
/-- == of two refs that are not plain data -/
theorem rc_run (I : Inv X pins σ H s) {n : Nat} {A : Around} (hu : A.units < cLine) (q : EqNs (X := X) (H := H) (s := s) n A.in1) {x y : V} {v u : Value} {a b : PyData} {r : Bool} (ha : Rp X.K H x a) (hb : Rp X.K H y b) (rx : RelV x v) (ry : RelV y u) (nf : ¬ (flat a && flat b) = true) (h : deq (n + 1) a b = some r) :
    ∃ l l', v = .ref l ∧ u = .ref l' ∧ ∀ (E Q : Value → Shared → Prop), Q (.bool r) s → wpAny (model X.prog X.w) A (richCompare .Eq v u) Q E s := by
  unfold deq at h
  rw [if_neg nf] at h
  split at h
  · split at h
    · rename_i hl
      cases ha with
      | lst a1 b1 =>
        cases hb with
        | lst a2 b2 =>
          obtain ⟨us, r1, p1, _⟩ := I.list (.of a1)
          obtain ⟨ws, r2, p2, _⟩ := I.list (.of a2)
          obtain ⟨e, f1, f2, f3⟩ := zip_run q b1 b2 r1 r2 hl h
          cases rx
          cases ry
          refine ⟨_, _, rfl, rfl, fun E Q hq => SeqAt.rcIn_lists (e := e) p1.isList p2.isList (by simpa using f3) hu (fun j h1 h2 => ?_) ?_⟩
          · simpa using f1 j (by simpa using h1) (by simpa using h2)
          · have : (us.toArray).size = us.length := by simp
            rw [this, f2]; exact hq
    · cases h
  · split at h
    · rename_i hl
      cases ha with
      | tup a1 b1 =>
        cases hb with
        | tup a2 b2 =>
          obtain ⟨us, r1, p1, _⟩ := I.tuple a1.sqT
          obtain ⟨ws, r2, p2, _⟩ := I.tuple a2.sqT
          obtain ⟨e, f1, f2, f3⟩ := zip_run q b1 b2 r1 r2 hl h
          cases rx
          cases ry
          refine ⟨_, _, rfl, rfl, fun E Q hq => SeqAt.rcIn_tuples (e := e) p1 p2 hu (fun j h1 h2 => ?_) ?_⟩
          · simpa using f1 j (by simpa using h1) (by simpa using h2)
          · have e1 : (us.toArray).size = us.length := by simp
            have e2 : (ws.toArray).size = us.length := by simp [f3]
            rw [e1, e2, Nat.min_self, f2, beq_self_eq_true, Bool.and_true]; exact hq
    · cases h
  · split at h
    · rename_i ht
      cases ha with
      | dT a1 b1 => exact absurd ht.1 (by subst a1; simp [isT, rowE])
      | dK a1 b1 =>
        cases hb with
        | dT a2 b2 => exact absurd ht.2 (by subst a2; simp [isT, rowE])
        | dK a2 b2 =>
          obtain ⟨_, ya, va, r1, da⟩ := objK I a1
          obtain ⟨_, yb, vb, r2, db⟩ := objK I a2
          cases rx
          cases ry
          refine ⟨_, _, rfl, rfl, fun E Q hq => ?_⟩
          have l1 : va.length = _ := r1.length.symm.trans b1.length
          have l2 : vb.length = _ := r2.length.symm.trans b2.length
          split at h
          · rename_i hl
            refine PySem.W.keq_eqIn (knd := mixKind X.prog X.w) (r := r) ya yb da db hu (fun _ => hitsK q b2 r2 b1 r1 h) ?_
            rw [l1, l2, hl, beq_self_eq_true, Bool.true_and]; exact hq
          · rename_i hl
            cases h
            refine PySem.W.keq_eqIn (knd := mixKind X.prog X.w) (r := true) ya yb da db hu (fun z => absurd (l1.symm.trans (z.trans l2)) hl) ?_
            rw [l1, l2, show (_ == _) = false from beq_eq_false_iff_ne.mpr hl, Bool.false_and]; exact hq
    · cases h
  · cases h
theorem eq_run (I : Inv X pins σ H s) : ∀ (n : Nat) (A : Around), A.units + n + 64 < cLine → EqNs (X := X) (H := H) (s := s) n A
  | 0, _, _ => ⟨fun _ _ _ _ h => nomatch h⟩
  | n + 1, A, hu => ⟨fun {x y v u a b r} ha hb rx ry h => by
    by_cases nf : (flat a && flat b) = true
    · unfold deq at h
      rw [if_pos nf] at h
      cases h
      rw [Bool.and_eq_true] at nf
      obtain ⟨⟨as, r1⟩, l1⟩ := ha.reads I (flat_noD nf.1) rx
      obtain ⟨⟨bs, r2⟩, l2⟩ := hb.reads I (flat_noD nf.2) ry
      exact (SeqAt.eqAt_reads a b A s _ _ _ _ r1 r2 l1 l2 (by have := flat_depth nf.1; omega)).inModel _ _
    · obtain ⟨l, l', rfl, rfl, f⟩ := rc_run I (by omega) (eq_run I n A.in1 (by show A.units + 1 + n + 64 < cLine; omega)) ha hb rx ry nf h
      by_cases e : l = l'
      · subst e
        have := rx.inj ry
        subst this
        rw [deq_same I (n + 1) ha hb rx h]
        exact (SeqAt.EqAt.same _).inModel _ _
      · exact SeqAt.EqIn.of_refs e f⟩
end
/-! ### the operations -/
def oEqD : Op
  | [(a, _), (b, _)] => (deq 8 a b).map fun r => (.bool r, .im)
  | _ => none
section
variable {X : Cx}
theorem so_eqD (hu : X.A.units + 200 < cLine) : OpR X (compareOp .Eq) (fun x y => rV X.K oEqD [x, y]) := by
  intro pins s σ H x y v u Q I rx ry h
  obtain ⟨B, Gb, G, σ1, env, W, d1, k1, d2, k2, d, k, S, h1, h2, ap, e, c⟩ := rV.two h
  unfold oEqD at e
  rw [Option.map_eq_some_iff] at e
  obtain ⟨r, e, e2⟩ := e
  cases e2
  by_cases nf : (flat d1 && flat d2) = true
  · unfold deq at e
    rw [if_pos nf] at e
    cases e
    rw [Bool.and_eq_true] at nf
    have q1 := flat_shaped (h1.rp S) nf.1
    have q2 := flat_shaped (h2.rp S) nf.2
    exact op_eqD (by omega) pins s σ H x y v u Q I rx ry ⟨_, _, q1.1, q2.1, q1.2, q2.2, c.bool S⟩
  · obtain ⟨l, l', rfl, rfl, f⟩ := rc_run (n := 7) I (by omega) (eq_run I 7 X.A.in1 (by show X.A.units + 1 + 7 + 64 < cLine; omega)) (h1.rp S) (h2.rp S) rx ry nf e
    exact f _ _ ⟨.bl r, H, I, rfl, c.bool S⟩
end
end PX

namespace PX
open PySem PySem.Spec PyProof.Rows L2
open PySem.SeqAt (EqIn)
/-! ### != of data with dicts within -/
section
open PySem.AutoSeq1 (wpAny_loadPart')
open PySem.MeetsSeq PySem.MeetsSeq2 PySem.MeetsSeq3 PySem.SeqRoads2
variable {P : Program} {w : World}
theorem tup_neP (a1 a2 : Addr) (xs ys : Array Value) (m1 m2 : Nat) (o1 o2 : Option Addr) (t1 t2 : Array (Option Value)) (f : Nat → Bool) :
    MeetsIn P w (Builtin.«tuple.__ne__» ⟨[.ref a1, .ref a2], []⟩) (fun A R s => s.heap.get? a1 = some { cls := .type "tuple", dict := o1, data := .seq xs m1, slots := t1 } ∧
      s.heap.get? a2 = some { cls := .type "tuple", dict := o2, data := .seq ys m2, slots := t2 } ∧ (∀ j (h1 : j < xs.size) (h2 : j < ys.size), EqIn P w A.in1 s xs[j] ys[j] (f j)) ∧
      R (.ok (.ret (.bool (!((List.range (min xs.size ys.size)).all f && xs.size == ys.size))))) s) :=
  .of_wp fun A R s hh => by
    obtain ⟨hp, gs, dr, tk, os⟩ := s
    obtain ⟨g1, g2, ge, gr⟩ := hh
    have sub := AutoSeq1.sub_tuple_tuple
    have hz : (xs.toList.zip ys.toList).length = min xs.size ys.size := by simp
    wp_walk using wpAny_loadPart' g1, wpAny_loadPart' g2, wpAny_forIn_list _ (fun rest q s' => q.1 = none ∧ s' = ⟨hp, gs, dr, tk, os⟩ ∧ ∃ i, rest = (xs.toList.zip ys.toList).drop i ∧
      R (.ok (.ret (.bool (!(((List.range (min xs.size ys.size)).drop i).all f && xs.size == ys.size))))) ⟨hp, gs, dr, tk, os⟩) _
    case turn =>
      rintro ⟨p, q⟩ rest acc s' ⟨ha, rfl, i, er, hr⟩
      have il : i < (xs.toList.zip ys.toList).length := by
        rcases Nat.lt_or_ge i (xs.toList.zip ys.toList).length with z | z
        · exact z
        · rw [List.drop_of_length_le z] at er; cases er
      have im : i < min xs.size ys.size := hz ▸ il
      have i1 : i < xs.size := by omega
      have i2 : i < ys.size := by omega
      rw [List.drop_eq_getElem_cons il] at er
      injection er with epq erest
      have ep : p = xs[i] := by simpa using congrArg Prod.fst epq
      have eq : q = ys[i] := by simpa using congrArg Prod.snd epq
      subst ep eq
      rw [show (List.range (min xs.size ys.size)).drop i = i :: (List.range (min xs.size ys.size)).drop (i + 1) from by simp [List.drop_eq_getElem_cons, im], List.all_cons] at hr
      refine wpAny_bind (ge i i1 i2 _ _ ?_)
      cases hf : f i with
      | true =>
        rw [hf] at hr
        wp_walk
        exact ⟨rfl, rfl, i + 1, erest, by simpa using hr⟩
      | false =>
        rw [hf] at hr
        wp_walk
        exact ⟨_, rfl, by simpa using hr⟩
    case fin =>
      rintro ⟨c1, c2⟩ s' ⟨hc, rfl, i, er, hr⟩
      simp only at hc
      subst hc
      have ig : min xs.size ys.size ≤ i := by
        rcases Nat.lt_or_ge i (xs.toList.zip ys.toList).length with z | z
        · rw [List.drop_eq_getElem_cons z] at er; cases er
        · exact hz ▸ z
      rw [List.drop_of_length_le (by simpa using ig)] at hr
      wp_walk
      exact ⟨_, rfl, by simpa [Builtin.Tuple.tupleCompareSizes, bne] using hr⟩
    case h => exact ⟨rfl, rfl, 0, rfl, by simpa using gr⟩
theorem rcne_tuples {A : Around} {s : Shared} {E : Value → Shared → Prop} {a1 a2 : Addr} {xs ys : Array Value} {f : Nat → Bool} {Q : Value → Shared → Prop} (g1 : s.heap.IsTuple a1 xs) (g2 : s.heap.IsTuple a2 ys) (hu : A.units < cLine)
    (ge : ∀ j (h1 : j < xs.size) (h2 : j < ys.size), EqIn P w A.in1 s xs[j] ys[j] (f j)) (h : Q (.bool (!((List.range (min xs.size ys.size)).all f && xs.size == ys.size))) s) :
    wpAny (model P w) A (richCompare .NotEq (.ref a1) (.ref a2)) Q E s := by
  obtain ⟨⟨c1, o1, d1, t1⟩, k1, e1, m1, f1⟩ := id g1
  obtain ⟨⟨c2, o2, d2, t2⟩, k2, e2, m2, f2⟩ := id g2
  simp only at e1 f1 e2 f2
  subst e1 f1 e2 f2
  have ty1 : s.TypeIs (.ref a1) "tuple" := ⟨_, k1, rfl⟩
  have ty2 : s.TypeIs (.ref a2) "tuple" := ⟨_, k2, rfl⟩
  refine wpAny_richCompare_same_room (T := "tuple") (op := .NotEq) ty1 ty2 F.slot_tuple_ne (call_meetsIn F.slot_tuple_ne ty1 F.entry_tuple_ne (F.args_tuple_ne_2 _ _) (tup_neP a1 a2 xs ys m1 m2 o1 o2 t1 t2 f) ?_) hu
  exact ⟨k1, k2, ge, show _ ≠ Value.notImplemented ∧ Q _ s from ⟨(fun z => nomatch z), h⟩⟩
end
section
open PySem.W
variable {P : Program} {w : World} {κ : Type} [DecidableEq κ] {knd : KeyKind P w κ}
theorem rcne_dicts {A : Around} {E : Value → Shared → Prop} {s : Shared} {a b : Addr} {ka kb : List (κ × Value)} {r : Bool} {Q : Value → Shared → Prop} (ma : (a == sysModules) = false) (mb : (b == sysModules) = false)
    (qa : s.heap.DictOf knd a ka) (qb : s.heap.DictOf knd b kb) (hu : A.units < cLine) (hits : ka.length = kb.length → KeqHitsIn P w A.in1 s kb ka r) (h : Q (.bool (!(ka.length == kb.length && r))) s) :
    wpAny (model P w) A (richCompare .NotEq (.ref a) (.ref b)) Q E s := by
  refine wpAny_richCompare_same_room (op := .NotEq) qa.typeIs qb.typeIs F.slot_dict_ne (wpAny_call_entry F.slot_dict_ne qa.typeIs F.entry_dict_ne ?_ (F.args_dict_ne_2 _ _)) hu
  show wpAny _ _ (Builtin.Dict.dictSlotArgs "__ne__" _ >>= _) _ _ s
  refine wpAny_bind ?_
  unfold Builtin.Dict.dictSlotArgs
  refine wpAny_bind (wpAny_notOrdered_dict qa.typeIs (wpAny_pure ?_))
  refine wpAny_bind (wpAny_isInstance (T := "dict") qb.typeIs F.sub_dict_dict ?_)
  rw [Bool.not_true, if_neg Bool.false_ne_true]
  refine wpAny_bind (wpAny_pure (wpAny_bind (wpAny_pure (wpAny_bind (keq_samePairsIn ma mb qa qb hits ?_)))))
  exact wpAny_pure ⟨_, rfl, (fun z => nomatch z), by simpa using h⟩
end
section
variable {X : Cx} {pins : List (Addr × Obj)} {σ : L2.St} {H : Hp} {s : Shared}
theorem rcne_run (I : Inv X pins σ H s) {n : Nat} {A : Around} (hu : A.units < cLine) (q : EqNs (X := X) (H := H) (s := s) n A.in1) {x y : V} {v u : Value} {a b : PyData} {r : Bool} (ha : Rp X.K H x a) (hb : Rp X.K H y b) (rx : RelV x v) (ry : RelV y u) (nf : ¬ (flat a && flat b) = true) (nl : ∀ xs, a ≠ .list xs) (h : deq (n + 1) a b = some r)
    (E Q : Value → Shared → Prop) (hq : Q (.bool (!r)) s) : wpAny (model X.prog X.w) A (richCompare .NotEq v u) Q E s := by
  unfold deq at h
  rw [if_neg nf] at h
  split at h
  · exact absurd rfl (nl _)
  · split at h
    · rename_i hl
      cases ha with
      | tup a1 b1 =>
        cases hb with
        | tup a2 b2 =>
          obtain ⟨us, r1, p1, _⟩ := I.tuple a1.sqT
          obtain ⟨ws, r2, p2, _⟩ := I.tuple a2.sqT
          obtain ⟨e, f1, f2, f3⟩ := zip_run q b1 b2 r1 r2 hl h
          cases rx
          cases ry
          refine rcne_tuples (f := e) p1 p2 hu (fun j h1 h2 => ?_) ?_
          · simpa using f1 j (by simpa using h1) (by simpa using h2)
          · have e1 : (us.toArray).size = us.length := by simp
            have e2 : (ws.toArray).size = us.length := by simp [f3]
            rw [e1, e2, Nat.min_self, f2, beq_self_eq_true, Bool.and_true]; exact hq
    · cases h
  · split at h
    · rename_i ht
      cases ha with
      | dT a1 b1 => exact absurd ht.1 (by subst a1; simp [isT, rowE])
      | dK a1 b1 =>
        cases hb with
        | dT a2 b2 => exact absurd ht.2 (by subst a2; simp [isT, rowE])
        | dK a2 b2 =>
          obtain ⟨_, ya, va, r1, da⟩ := objK I a1
          obtain ⟨_, yb, vb, r2, db⟩ := objK I a2
          cases rx
          cases ry
          have l1 : va.length = _ := r1.length.symm.trans b1.length
          have l2 : vb.length = _ := r2.length.symm.trans b2.length
          split at h
          · rename_i hl
            refine rcne_dicts (knd := mixKind X.prog X.w) (r := r) ya yb da db hu (fun _ => hitsK q b2 r2 b1 r1 h) ?_
            rw [l1, l2, hl, beq_self_eq_true, Bool.true_and]; exact hq
          · rename_i hl
            cases h
            refine rcne_dicts (knd := mixKind X.prog X.w) (r := true) ya yb da db hu (fun z => absurd (l1.symm.trans (z.trans l2)) hl) ?_
            rw [l1, l2, show (_ == _) = false from beq_eq_false_iff_ne.mpr hl, Bool.false_and]; exact hq
    · cases h
  · cases h
end
def oNeD : Op
  | [(a, _), (b, _)] => if notLst a then (deq 8 a b).map fun r => (.bool (!r), .im) else none
  | _ => none
where notLst : PyData → Bool
  | .list _ => false
  | _ => true
section
variable {X : Cx}
theorem so_neD (hu : X.A.units + 200 < cLine) : OpR X (compareOp .NotEq) (fun x y => rV X.K oNeD [x, y]) := by
  intro pins s σ H x y v u Q I rx ry h
  obtain ⟨B, Gb, G, σ1, env, W, d1, k1, d2, k2, d, k, S, h1, h2, ap, e, c⟩ := rV.two h
  simp only [oNeD] at e
  split at e
  · rename_i hn
    rw [Option.map_eq_some_iff] at e
    obtain ⟨r, e, e2⟩ := e
    cases e2
    by_cases nf : (flat d1 && flat d2) = true
    · unfold deq at e
      rw [if_pos nf] at e
      cases e
      rw [Bool.and_eq_true] at nf
      have q1 := flat_shaped (h1.rp S) nf.1
      have q2 := flat_shaped (h2.rp S) nf.2
      exact op_neD (by omega) pins s σ H x y v u Q I rx ry ⟨_, _, q1.1, q2.1, q1.2, q2.2, c.bool S⟩
    · exact rcne_run (n := 7) I (by omega) (eq_run I 7 X.A.in1 (by show X.A.units + 1 + 7 + 64 < cLine; omega)) (h1.rp S) (h2.rp S) rx ry nf (fun xs z => by subst z; exact absurd hn (by simp [oNeD.notLst])) e _ _ ⟨.bl (!r), H, I, rfl, c.bool S⟩
  · cases e
end
end PX

namespace PX
open PySem PySem.Spec PyProof.Rows L2
/-! ### [.. for k in d], d a dict of this def's own: locked while the row is made -/
section
variable {K : PySem.W.Frag} {B Gb G H : Hp} {σ : L2.St} {env : SEnv} {W : List Int} {v : V} {d : PyData}
def ReFit (K : PySem.W.Frag) (G : Hp) (o : HO) : Sl → Prop
  | .ow d => RpO K G o d
  | .lk od u d => o = .frz od u ∧ RpO K G u d ∧ ∃ es, d = .dict es
  | _ => False
theorem Sta.reslot (S : Sta K B Gb G H σ env W) {i : Nat} {p : Addr} {o : HO} {s0 s1 : Sl} (e : env[i]? = some s0) (h0 : s0.own = true) (hp : σ[i]? = some (some (V.ref p))) (f : ReFit K G o s1) :
    Sta K B Gb G (upd H p o) σ (env.set i s1) W := by
  have me : Own env σ i p := ⟨⟨_, e, h0⟩, hp⟩
  obtain ⟨h2, h3, _⟩ := S.own_at me
  have keep : ∀ (X : Hp), X p = none → Same X H → Same X (upd H p o) := fun X hx s a u q => by
    rw [upd_ne (ne_of_none q hx)]
    exact s _ _ q
  have ow' : ∀ {j q}, Own (env.set i s1) σ j q → Own env σ j q := fun {j q} ⟨⟨t, e1, o1⟩, q1⟩ => by
    rcases get_set e1 with ⟨rfl, rfl⟩ | ⟨ne, e1⟩
    · exact ⟨⟨_, e, h0⟩, q1⟩
    · exact ⟨⟨t, e1, o1⟩, q1⟩
  have other : ∀ {j q}, j ≠ i → Own env σ j q → q ≠ p := fun ne h z => ne (S.sep _ i p (z ▸ h) me)
  exact {
    sg := keep G h2 S.sg
    sb := keep B h3 S.sb
    sgb := S.sgb
    gb := S.gb
    len := by rw [List.length_set]; exact S.len
    pl := fun j d e => by
      rcases get_set e with ⟨_, z⟩ | ⟨ne, e⟩
      · cases z; exact (show False from f).elim
      · exact S.pl j d e
    ow := fun j d e' => by
      rcases get_set e' with ⟨rfl, z⟩ | ⟨ne, e'⟩
      · cases z
        exact ⟨p, o, hp, h2, h3, upd_same, f⟩
      · obtain ⟨q, u, a1, a2, a3, a4, a5⟩ := S.ow j d e'
        exact ⟨q, u, a1, a2, a3, by rw [upd_ne (other ne ⟨⟨_, e', rfl⟩, a1⟩)]; exact a4, a5⟩
    lk := fun j od o' d e' => by
      rcases get_set e' with ⟨rfl, z⟩ | ⟨ne, e'⟩
      · cases z
        obtain ⟨f1, f2, f3⟩ := f
        exact ⟨p, hp, h2, h3, by rw [upd_same, f1], f2, f3⟩
      · obtain ⟨q, a1, a2, a3, a4, a5⟩ := S.lk j od o' d e'
        exact ⟨q, a1, a2, a3, by rw [upd_ne (other ne ⟨⟨_, e', rfl⟩, a1⟩)]; exact a4, a5⟩
    wd := fun j => fun e' => by
      rcases get_set e' with ⟨rfl, z⟩ | ⟨ne, e'⟩
      · cases z; exact (show False from f).elim
      · obtain ⟨q, l, ns, k, a1, a2, a3, a4, a5⟩ := S.wd j e'
        exact ⟨q, l, ns, k, a1, a2, a3, by rw [upd_ne (other ne ⟨⟨_, e', rfl⟩, a1⟩)]; exact a4, a5⟩
    sc := fun j ns e => by
      rcases get_set e with ⟨_, z⟩ | ⟨ne, e⟩
      · cases z; exact (show False from f).elim
      · exact S.sc j ns e
    one := fun j k => fun e1 e2 => by
      rcases get_set e1 with ⟨_, z⟩ | ⟨_, e1⟩
      · cases z; exact (show False from f).elim
      · rcases get_set e2 with ⟨_, z⟩ | ⟨_, e2⟩
        · cases z; exact (show False from f).elim
        · exact S.one j k e1 e2
    sep := fun j k q h1 h2 => S.sep j k q (ow' h1) (ow' h2) }
end
def iKeyL (i : Nat) : Ci := fun env W => match env[i]? with
  | some (.lk _ _ (.dict es)) => if isT es = false ∧ es.length ≤ 16777216 then some (keysD es, .pk i, W) else none
  | _ => none
open Classical in
noncomputable def cLcO (i : Nat) (t : Tg) (c : Ct) (e : Ex) (vs : List Nat) : Ex := fun env W => match env[i]? with
  | some (.ow (.dict es)) => if noOwn env vs = true ∧ isT es = false ∧ es.length ≤ 16777216 then
      (if h : ∃ q, ∀ od o, lcL t c e (keysD es) (wipeE (env.set i (.lk od o (.dict es))) vs) W = some q then some (.list h.choose.1, .fr, h.choose.2) else none) else none
  | _ => none
theorem cLcO_eq {i : Nat} {t : Tg} {c : Ct} {e : Ex} {vs : List Nat} {env : SEnv} {W : List Int} {es : List (PyData × PyData)} {q : List PyData × List Int} (he : env[i]? = some (.ow (.dict es))) (hn : noOwn env vs = true) (ht : isT es = false) (hl : es.length ≤ 16777216)
    (h : ∀ od o, lcL t c e (keysD es) (wipeE (env.set i (.lk od o (.dict es))) vs) W = some q) : cLcO i t c e vs env W = some (.list q.1, .fr, q.2) := by
  have hx : ∃ q, ∀ od o, lcL t c e (keysD es) (wipeE (env.set i (.lk od o (.dict es))) vs) W = some q := ⟨q, h⟩
  unfold cLcO
  rw [he]
  dsimp only
  rw [if_pos ⟨hn, ht, hl⟩, dif_pos hx]
  have := (hx.choose_spec ⟨.none, none, .plain, #[]⟩ (.lst [])).symm.trans (h _ _)
  rw [Option.some.inj this]
section
variable {K : PySem.W.Frag} {B Gb G H : Hp} {σ : L2.St} {env : SEnv} {W : List Int} {a : Addr} {kvs : List (Key × V)}
theorem keys_ofL {R : It → Hp → Prop} {i : Nat} (q : tI K (iKeyL i) σ H R) : iKeys (tVar i) σ H R := by
  obtain ⟨B, Gb, G, env, W, ds, k, W', S, e, c⟩ := q
  unfold iKeyL at e
  split at e
  · rename_i od o es he
    split at e
    · rename_i hnt
      cases e
      obtain ⟨a, h1, h2, h3, h4, h5, _⟩ := S.lk i _ _ _ he
      cases o <;> first | exact (show False from h5).elim | skip
      · rename_i kvs
        have rd : RpD K G kvs es := h5
        refine ⟨_, h1, a, od, rfl, .inl ⟨kvs, h4, c (Itk a od kvs) G H (fun G2 H2 => H2 a = some (.frz od (.dK kvs)) ∧ RpD K G2 kvs es) (Same.refl _) S ?_ ?_ ?_⟩⟩
        · refine ⟨fun j G2 H2 hj hc => ?_, fun G2 H2 hc => ?_, fun j G2 H2 x H3 hj hc hy => ?_⟩
          · exact ⟨hc.1, by have := hc.2.length; unfold keysD at hj; rw [List.length_map] at hj; omega⟩
          · exact ⟨hc.1, by have := hc.2.length; unfold keysD; rw [List.length_map]; omega⟩
          · obtain ⟨rfl, k, v, hk, rfl⟩ := hy
            obtain ⟨d, q1, q2⟩ := hc.2.keys' j k v hk
            exact ⟨d, q1, .inl ⟨rfl, q2⟩⟩
        · intro B2 Gb2 G2 H2 σ2 env2 W2 s2 S2 hk
          obtain ⟨k1, k2⟩ := hk i rfl
          obtain ⟨a', g1, _, _, g4, g5, _⟩ := S2.lk i _ _ _ (k1.trans he)
          rw [k2, h1] at g1
          cases g1
          exact ⟨g4, g5⟩
        · unfold keysD
          rw [List.length_map]
          exact hnt.2
    · cases e
  · cases e
end
theorem noOwn_not {env : SEnv} {vs : List Nat} {i : Nat} {s : Sl} (h : noOwn env vs = true) (e : env[i]? = some s) (o : s.own = true) : i ∉ vs := fun z => by
  have := List.all_eq_true.mp h i z
  rw [e] at this
  dsimp only at this
  rw [o] at this
  exact absurd this (by decide)
theorem noOwn_set {env : SEnv} {vs : List Nat} {i : Nat} {s : Sl} (h : noOwn env vs = true) (hi : i ∉ vs) : noOwn (env.set i s) vs = true := by
  refine List.all_eq_true.mpr fun j hj => ?_
  have ne : i ≠ j := fun z => hi (z ▸ hj)
  rw [List.getElem?_set_ne ne]
  exact List.all_eq_true.mp h j hj
section
variable {X : Cx} {tg elt : Expr} {ifs : List Expr} {scope : Scope} {own : List (Str × Nat)} {pos pos' : Pos} {x : Str} {i : Nat} {t : Tg} {c : Ct} {e : Ex}
theorem px_lcO (hc : X.calm = true) (hN : X.N.Nodup) (hi : X.N[i]? = some x) (ok : BlkOk X.N X.env.scope scope own)
    (hg : ∀ (s : Shared) (H : Hp) (C : Addr) (cl : List (Str × Addr)) (fp : List Addr), PGX (X.blk s H scope (compEnvC scope cl C X.env) fp) tg t (own.map (·.2))) (ht : ∀ (s : Shared) (H : Hp) (C : Addr) (cl : List (Str × Addr)) (fp : List Addr), PTsX (X.blk s H scope (compEnvC scope cl C X.env) fp) ifs c)
    (he : ∀ (s : Shared) (H : Hp) (C : Addr) (cl : List (Str × Addr)) (fp : List Addr), PX (X.blk s H scope (compEnvC scope cl C X.env) fp) elt e)
    (hv : Vis X.env.scope x := by first | exact Or.inl rfl | exact Or.inr (Or.inl rfl) | exact Or.inr (Or.inr rfl)) (hd : (x == ("__debug__" : Str)) = false := by decide) (hcd : (x == ("__classdict__" : Str)) = false := by decide) (hs : ∀ y, foldedSetIterable (.Name x pos') X.env y = pure y := by intro _; rfl) :
    PX X (.ListComp elt [⟨tg, .Name x pos', ifs, 0⟩] scope pos) (cLcO i t c e (own.map (·.2))) := by
  have core := pe_lc (g := tG X.K t (own.map (fun p : Str × Nat => p.2))) (tt := tT X.K c) (te := tE X.K e) (elt := elt) (pos := pos) hc hN (pi_keys (pe_var (pos := pos') hi hv hd hcd)) ok (fun s H C cl fp => (hg s H C cl fp).pg) ht he hs
  refine PE.imp (pe_lock core) fun σ H Q q => ?_
  have okk := (hg X.s_0 H 0 [] []).ok
  obtain ⟨B, Gb, G, env, W, d, k, W', S, ev, cont⟩ := q
  unfold cLcO at ev
  split at ev
  · rename_i es hes
    split at ev
    · rename_i hcond
      obtain ⟨hno, hT, hL⟩ := hcond
      split at ev
      · rename_i hx
        cases ev
        have hq := hx.choose_spec
        obtain ⟨p, o, h1, h2, h3, h4, h5⟩ := S.ow i _ hes
        have hni := noOwn_not hno hes rfl
        cases o <;> first | exact (show False from h5).elim | skip
        · rename_i kvs
          have rd : RpD X.K G kvs es := h5
          refine ⟨p, .dK kvs, h4, trivial, fun od => ?_⟩
          have S1 := S.reslot (o := .frz od (.dK kvs)) (s1 := .lk od (.dK kvs) (.dict es)) hes rfl h1 ⟨rfl, rd, es, rfl⟩
          have e1 : (env.set i (.lk od (.dK kvs) (.dict es)))[i]? = some (.lk od (.dK kvs) (.dict es)) := List.getElem?_set_self (List.getElem?_eq_some_iff.mp hes).1
          have ev1 : cLc (iKeyL i) t c e (own.map (·.2)) (env.set i (.lk od (.dK kvs) (.dict es))) W = some (.list hx.choose.1, .fr, hx.choose.2) := by
            unfold cLc
            rw [if_pos (noOwn_set hno hni)]
            have : iKeyL i (env.set i (.lk od (.dK kvs) (.dict es))) W = some (keysD es, .pk i, W) := by unfold iKeyL; rw [e1]; exact if_pos ⟨hT, hL⟩
            rw [this, Option.bind_some]
            dsimp only
            rw [if_pos (by simpa [kOk] using hni), hq od (.dK kvs)]
            rfl
          have q0 : tE X.K (cLc (iKeyL i) t c e (own.map (·.2))) σ (upd H p (.frz od (.dK kvs))) (fun v H' => H' p = some (.frz od (.dK kvs)) ∧ Q v (upd H' p (.dK kvs))) := by
            refine ⟨B, Gb, G, _, W, _, _, _, S1, ev1, fun v G2 H2 s2 S2 h2' => ?_⟩
            obtain ⟨p', g1, g2, g3, g4, g5, _⟩ := S2.lk i _ _ _ e1
            rw [h1] at g1
            cases g1
            refine ⟨g4, ?_⟩
            have S3 := S2.reslot (o := .dK kvs) (s1 := .ow (.dict es)) e1 rfl h1 g5
            have e2 : (env.set i (.lk od (.dK kvs) (.dict es))).set i (.ow (.dict es)) = env := by
              rw [List.set_set]
              refine List.ext_getElem? fun j => ?_
              by_cases ne : j = i
              · subst ne; rw [List.getElem?_set_self (List.getElem?_eq_some_iff.mp hes).1, hes]
              · rw [List.getElem?_set_ne (Ne.symm ne)]
            rw [e2] at S3
            refine cont v G2 _ s2 S3 ?_
            obtain ⟨r, ro, rfl, r1, r2, r3, r4, r5⟩ := h2'
            have np : r ≠ p := fun z => r5 i ⟨⟨_, e1, rfl⟩, by rw [z]; exact h1⟩
            refine ⟨r, ro, rfl, r1, r2, by rw [upd_ne np]; exact r3, r4, fun j ho => r5 j ?_⟩
            obtain ⟨⟨s', es', os'⟩, q'⟩ := ho
            by_cases ne : j = i
            · subst ne; exact ⟨⟨_, e1, rfl⟩, q'⟩
            · exact ⟨⟨s', by rw [List.getElem?_set_ne (Ne.symm ne)]; exact es', os'⟩, q'⟩
          exact keys_ofL (lc_step okk q0)
      · cases ev
    · cases ev
  · cases ev
end
/-! ### xs.insert(i, e) -/
def sIns (i : Nat) (fk f : Ex) : Sx := fun env W => (fk env W).bind fun a => (f env a.2.2).bind fun r => match a.1, env[i]? with
  | .int n, some (.ow (.list ds)) => if esc r.2.1 = true ∧ ds.length < 16777216 ∧ 0 ≤ n ∧ n ≤ 16777216 then some (.nx (env.set i (.ow (.list (ds.take n.toNat ++ [r.1] ++ ds.drop n.toNat)))) r.2.2) else none
  | _, _ => none
section
variable {X : Cx} {a b : Expr} {fk f : Ex} {pos : Pos}
theorem psx_ins {o : Expr} {i : Nat} {apos cpos : Pos} (ho : PX X o (cVar i)) (hk : PX X a fk) (he : PX X b f)
    (hbase : attributeBase o "insert" X.env (eval o X.env) = eval o X.env := by rfl)
    (hfew : ((backTo cpos (starEach [a, b] X.env)).all (fun x => !x.1) && (backToKw cpos (keywordEach [] X.env)).all (fun x => x.1.isSome)
      && decide (([a, b] : List Expr).length + ([] : List Keyword).length + (if ([] : List Keyword).isEmpty then 0 else 1) < 30)) = true := by rfl)
    (hline : (apos.endLine == cpos.line) = true := by rfl) (hs : starEach [a, b] X.env = (false, eval a X.env) :: starEach [b] X.env := by rfl) (hs2 : starEach [b] X.env = (false, eval b X.env) :: starEach [] X.env := by rfl) (hplain : (backTo cpos (starEach [b] X.env)).any (·.1) = false := by rfl)
    (hsw : swapsWith (.Call (.Attribute o "insert" apos) [a, b] [] cpos) none pos.line X.env = pure false := by rfl) : PSX X (.Expr (.Call (.Attribute o "insert" apos) [a, b] [] cpos) pos) (sIns i fk f) :=
  PS.imp (ps_expr (pe_bm PySem.F.plainAttrs_list PySem.F.slot_list_insert PySem.F.type_list_insert mt_insert ho (pxs_cons hk (pxs_cons he pxs_nil hs2) hs) hbase hfew hline hs hplain) hsw) fun D σ H q => by
  obtain ⟨B, Gb, G, env, W, o, S, e, p⟩ := q
  unfold sIns at e
  rw [Option.bind_eq_some_iff] at e
  obtain ⟨⟨dk, kk, W1⟩, e1, e⟩ := e
  rw [Option.bind_eq_some_iff] at e
  obtain ⟨⟨dv, kv, W2⟩, e2, e⟩ := e
  dsimp only at e e2
  split at e
  · rename_i n ds ed
    split at e
    · rename_i hc
      cases e
      have ev : cVar i env W = some (.list ds, .pk i, W) := by unfold cVar; rw [ed]
      refine ⟨B, Gb, G, env, W, _, _, W, S, ev, fun v1 G1 H1 s1 S1 h1 => ?_⟩
      obtain ⟨x, xs, rfl, hx, rx⟩ := h1.list S1
      refine ⟨.inl ⟨rfl, xs, .of hx⟩, B, Gb, G1, env, W, [(.int n, kk), (dv, kv)], W2, S1, by simp only [cArgs, e1, e2, Option.bind_some, Option.map_some], fun vs G2 H2 s2 S2 p2 => ?_⟩
      match vs, p2 with
      | [u, v], p2 =>
        have hu : u = .int n := p2.1.int S2
        subst hu
        obtain ⟨G3, s3, S3, rv, _⟩ := freeze1 S2 p2.2.2.1 hc.1
        obtain ⟨qa, ob, b1, b2, b3, b4, b5⟩ := S3.ow i _ ed
        have ex : qa = x := by
          have := h1.1
          rw [b1] at this
          cases this
          rfl
        subst ex
        cases ob <;> first | exact b5.elim | skip
        rename_i ys
        have b5 : RpL X.K G3 ys ds := b5
        exact ⟨qa, ys, n, v, rfl, rfl, b4, by rw [sizeLine_eq, b5.length]; exact hc.2.1, hc.2.2.1, by omega, p σ G3 _ ((s1.trans s2).trans s3) (S3.change (o := .lst (ys.take n.toNat ++ [v] ++ ys.drop n.toNat)) ed b1 (((b5.take n.toNat).append (.single rv)).append (b5.drop n.toNat)))⟩
    · cases e
  · cases e
end
end PX

namespace PX
open PySem PySem.Spec PyProof.Rows L2
/-! ### loops over dicts with texts as keys -/
section
variable {env : SEnv} {W W1 W2 : List Int} {i : Nat} {ns : List Str} {f : Str → PyData} {t : Tg} {c : Ct} {e fk fv : Ex} {k1 k2 : Kd} {vs : List Nat} {s2 : Sx} {Q : Ou → Prop} {d : PyData}
theorem keysD_S (ns : List Str) (f : Str → PyData) : keysD (ns.map fun x => (PyData.str x, f x)) = ns.map PyData.str := by
  unfold keysD
  rw [List.map_map]
  rfl
theorem fwKey (h : env[i]? = some (.pl (dS ns f))) (hl : ns.length ≤ 16777216) : iKey i env W = some (ns.map PyData.str, .im, W) := by
  unfold iKey
  rw [h]
  show (if _ then _ else _) = _
  rw [if_pos ⟨isT_S ns f, by rw [List.length_map]; exact hl⟩, keysD_S]
theorem fwVarL {od : Obj} {o : HO} (h : env[i]? = some (.lk od o d)) : cVar i env W = some (d, .pk i, W) := by unfold cVar; rw [h]
/-- [g(k) for k in d], d this def's own -/
theorem fwLcO {q : List PyData × List Int} (he : env[i]? = some (.ow (dS ns f))) (hn : noOwn env vs = true) (hl : ns.length ≤ 16777216) (h : ∀ od o, lcL t c e (ns.map PyData.str) (wipeE (env.set i (.lk od o (dS ns f))) vs) W = some q) : cLcO i t c e vs env W = some (.list q.1, .fr, q.2) :=
  cLcO_eq he hn (isT_S ns f) (by rw [List.length_map]; exact hl) fun od o => by rw [keysD_S]; exact h od o
theorem fwLcD (r : Str → PyData) (he : env[i]? = some (.pl (dS ns f))) (hn : noOwn env vs = true) (hl : ns.length ≤ 16777216) (h : ∀ x ∈ ns, ∃ e1 kd, t (.str x) (wipeE env vs) = some e1 ∧ e e1 W = some (r x, kd, W) ∧ esc kd = true) : cLc (iKey i) t kTrue e vs env W = some (.list (ns.map r), .fr, W) :=
  fwLc hn (fwKey he hl) rfl (lcL_map PyData.str r ns h)
/-- d[k] += n -/
theorem ru_daugS {g : Str → Int} {x : Str} {y : Int} (ho : env[i]? = some (.ow (dS ns fun z => .int (g z)))) (hx : x ∈ ns) (ek : fk env W = some (.str x, .im, W1)) (ev : fv env W1 = some (.int y, k2, W2)) (hl : ns.length < 16777216) {op : Int → Int → Int}
    (h : Runs s2 (env.set i (.ow (dS ns fun z => .int (if z = x then op (g z) y else g z)))) W2 Q) : Runs (sSeq (sDAug i fk op fv) s2) env W Q := ru_seq (by
  unfold sDAug
  rw [ho]
  dsimp only [dS]
  rw [ek, Option.bind_some]
  dsimp only
  rw [ents_S, dget_S, if_pos hx]
  dsimp only
  rw [if_pos ⟨keyFit_S _ _ _, by rw [List.length_map]; exact hl⟩, ev]
  dsimp only
  rw [dput_S_old (f := fun z => .int (g z)) (g := fun z => .int (if z = x then op (g z) y else g z)) hx (fun z _ ne => by rw [if_neg ne]) (by rw [if_pos rfl])]) h
end
/-! ### == of such dicts -/
theorem noD_S (ns : List Str) (f : Str → PyData) : flat (dS ns f) = false := rfl
theorem allO_all : ∀ {os : List (Option Bool)}, (∀ o ∈ os, o = some true) → allO os = some true
  | [], _ => rfl
  | o :: os, h => by
    rw [h o (by simp)]
    show (allO os).map _ = _
    rw [allO_all fun p hp => h p (by simp [hp])]
    rfl
theorem deq_S {n : Nat} {ns ms : List Str} {f g : Str → PyData} (hl : ns.length = ms.length) (h : ∀ x ∈ ns, x ∈ ms ∧ flat (f x) = true ∧ flat (g x) = true ∧ PyData.eqv (f x) (g x) = true) : deq (n + 2) (dS ns f) (dS ms g) = some true := by
  unfold deq
  rw [noD_S, Bool.false_and, if_neg Bool.false_ne_true]
  show (if _ then (if _ then _ else _) else _) = _
  rw [if_pos ⟨isT_S ns f, isT_S ms g⟩, if_pos (by rw [List.length_map, List.length_map]; exact hl), List.map_map]
  refine allO_all fun o ho => ?_
  obtain ⟨x, hx, rfl⟩ := List.mem_map.mp ho
  obtain ⟨h1, h2, h3, h4⟩ := h x hx
  show (match dget (ms.map fun x => (PyData.str x, g x)) (.str x) with | none => some false | some y => deq (n + 1) (f x) y) = _
  rw [dget_S, if_pos h1]
  show deq (n + 1) (f x) (g x) = _
  unfold deq
  rw [h2, h3, Bool.true_and, if_pos rfl, h4]
theorem neD_S {ns ms : List Str} {f g : Str → PyData} (hl : ns.length = ms.length) (h : ∀ x ∈ ns, x ∈ ms ∧ flat (f x) = true ∧ flat (g x) = true ∧ PyData.eqv (f x) (g x) = true) (k k' : Kd) : oNeD [(dS ns f, k), (dS ms g, k')] = some (.bool false, .im) := by
  show (if oNeD.notLst (dS ns f) = true then (deq 8 (dS ns f) (dS ms g)).map (fun r => ((PyData.bool (!r), Kd.im) : Dk)) else none) = _
  rw [if_pos (show oNeD.notLst (dS ns f) = true from rfl), deq_S hl h]
  rfl
/-- rows of such dicts -/
theorem neD_SS {α : Type} (as : List α) {F G : α → PyData} (hF : ∀ a, flat (F a) = false) (h : ∀ a ∈ as, deq 7 (F a) (G a) = some true) (k k' : Kd) : oNeD [(.tuple (as.map F), k), (.tuple (as.map G), k')] = some (.bool false, .im) := by
  show (if oNeD.notLst (.tuple (as.map F)) = true then (deq 8 (.tuple (as.map F)) (.tuple (as.map G))).map (fun r => ((PyData.bool (!r), Kd.im) : Dk)) else none) = _
  rw [if_pos (show oNeD.notLst (.tuple (as.map F)) = true from rfl)]
  suffices q : deq 8 (.tuple (as.map F)) (.tuple (as.map G)) = some true by rw [q]; rfl
  cases as with
  | nil => rfl
  | cons a r =>
    have nf : flat (.tuple ((a :: r).map F)) = false := by
      have := hF a
      unfold flat at this ⊢
      rw [Bool.and_eq_false_iff] at this ⊢
      rcases this with z | z
      · left; simp [noD, noDs, z]
      · right
        rw [decide_eq_false_iff_not] at z ⊢
        intro q
        refine z (Nat.le_trans ?_ q)
        simp only [List.map_cons, PyData.depth, PyData.depthAll]
        omega
    unfold deq
    rw [nf, Bool.false_and, if_neg Bool.false_ne_true]
    dsimp only
    rw [if_pos (by simp)]
    generalize a :: r = xs at h
    clear nf
    induction xs with
    | nil => rfl
    | cons b s ih =>
      rw [List.map_cons, List.map_cons, List.zipWith_cons_cons, h b (by simp)]
      show (allO _).map _ = _
      rw [ih fun y hy => h y (by simp [hy])]
      rfl
/-! ### sorting texts -/
def leS (a b : Str) : Prop := a.cps.toList ≤ b.cps.toList
theorem leS_trans {a b c : Str} (h : leS a b) (k : leS b c) : leS a c := List.le_trans h k
theorem leS_total (a b : Str) : leS a b ∨ leS b a := List.le_total _ _
theorem leS_antisymm {a b : Str} (h : leS a b) (k : leS b a) : a = b := by
  have e := List.le_antisymm h k
  obtain ⟨a⟩ := a
  obtain ⟨b⟩ := b
  have : a = b := Array.toList_inj.mp e
  rw [this]
theorem le_str (a b : Str) : PySem.W.dataLe false id (.str a) (.str b) = true ↔ leS a b := by
  have := congrFun (congrFun (PySem.W.dataLe_str (fun x : Str => x)) a) b
  rw [show PySem.W.dataLe false id (.str a) (.str b) = PySem.W.dataLe false (fun x : Str => PyData.str x) a b from rfl, this, decide_eq_true_eq]
  rfl
theorem sortS_pw (xs : List Str) : (sortS xs).Pairwise leS := by
  unfold sortS
  have := List.pairwise_mergeSort (le := fun a b : Str => PySem.W.dataLe false id (.str a) (.str b)) (fun a b c h1 h2 => (le_str a c).mpr (leS_trans ((le_str a b).mp h1) ((le_str b c).mp h2)))
    (fun a b => by
      rcases leS_total a b with h | h
      · rw [(le_str a b).mpr h]; rfl
      · rw [(le_str b a).mpr h, Bool.or_true]) xs
  exact this.imp fun h => (le_str _ _).mp h
theorem sortS_of {xs ys : List Str} (p : ys.Perm xs) (h : ys.Pairwise leS) : sortS xs = ys :=
  List.Perm.eq_of_pairwise (fun a b _ _ h1 h2 => leS_antisymm h1 h2) (sortS_pw xs) h ((sortS_perm xs).trans p.symm)
theorem sortS_eq {xs ys : List Str} (p : xs.Perm ys) : sortS xs = sortS ys := sortS_of ((sortS_perm ys).trans p.symm) (sortS_pw ys)
theorem sortS_mem {xs : List Str} {x : Str} : x ∈ sortS xs ↔ x ∈ xs := (sortS_perm xs).mem_iff
theorem sortS_nodup {xs : List Str} (h : xs.Nodup) : (sortS xs).Nodup := (sortS_perm xs).nodup_iff.mpr h
theorem sortS_len (xs : List Str) : (sortS xs).length = xs.length := (sortS_perm xs).length_eq
theorem sortS_id {xs : List Str} (h : xs.Pairwise leS) : sortS xs = xs := sortS_of (List.Perm.refl _) h
/-! ### sorting pairs of a number and a text -/
def Qs (r : Str → Int) (x : Str) : PyData := .tuple [.int (r x), .str x]
/-- the order of (r(x), x) -/
def leP (r : Str → Int) (a b : Str) : Prop := r a < r b ∨ (r a = r b ∧ leS a b)
theorem leP_trans {r : Str → Int} {a b c : Str} (h : leP r a b) (k : leP r b c) : leP r a c := by
  rcases h with h | ⟨h, h'⟩ <;> rcases k with k | ⟨k, k'⟩
  · exact .inl (by omega)
  · exact .inl (by omega)
  · exact .inl (by omega)
  · exact .inr ⟨by omega, leS_trans h' k'⟩
theorem leP_total (r : Str → Int) (a b : Str) : leP r a b ∨ leP r b a := by
  rcases Int.lt_trichotomy (r a) (r b) with h | h | h
  · exact .inl (.inl h)
  · rcases leS_total a b with q | q
    · exact .inl (.inr ⟨h, q⟩)
    · exact .inr (.inr ⟨h.symm, q⟩)
  · exact .inr (.inl h)
theorem leP_antisymm {r : Str → Int} {a b : Str} (h : leP r a b) (k : leP r b a) : a = b := by
  rcases h with h | ⟨h, h'⟩ <;> rcases k with k | ⟨k, k'⟩
  · omega
  · omega
  · omega
  · exact leS_antisymm h' k'
theorem le_Qs (r : Str → Int) (a b : Str) : PySem.W.dataLe false id (Qs r a) (Qs r b) = true ↔ leP r a b := by
  show (!PySem.W.dataLt (Qs r b) (Qs r a)) = true ↔ _
  unfold Qs
  rw [PySem.W.dataLt_pair (by simp [PySem.W.alike]) (by simp [PySem.W.alike])]
  have e1 : PyData.eqv (.int (r b)) (.int (r a)) = decide (r b = r a) := PySem.W.Datum.eqv (r b) (r a)
  have e3 : PySem.W.dataLt (.int (r b)) (.int (r a)) = decide (r b < r a) := by
    have := congrFun (congrFun (PySem.W.dataLe_int (fun x : Int => x)) (r a)) (r b)
    have h2 : PySem.W.dataLe false (fun x : Int => PyData.int x) (r a) (r b) = !PySem.W.dataLt (.int (r b)) (.int (r a)) := rfl
    rw [h2] at this
    cases hq : PySem.W.dataLt (.int (r b)) (.int (r a)) with
    | true => rw [hq] at this; rw [eq_comm, decide_eq_true_eq]; simp at this; omega
    | false => rw [hq] at this; rw [eq_comm, decide_eq_false_iff_not]; simp at this; omega
  have e4 := le_str a b
  rw [show PySem.W.dataLe false id (.str a) (.str b) = !PySem.W.dataLt (.str b) (.str a) from rfl] at e4
  rw [e1, e3, eqv_str]
  unfold leP
  by_cases h1 : r b = r a
  · rw [decide_eq_true h1, if_pos rfl]
    by_cases h2 : b = a
    · subst h2
      rw [decide_eq_true rfl, if_pos rfl]
      exact ⟨fun _ => .inr ⟨rfl, List.le_refl _⟩, fun _ => rfl⟩
    · rw [decide_eq_false h2, if_neg Bool.false_ne_true, e4]
      exact ⟨fun h => .inr ⟨h1.symm, h⟩, fun h => by
        rcases h with h | h
        · omega
        · exact h.2⟩
  · rw [decide_eq_false h1, if_neg Bool.false_ne_true]
    simp only [Bool.not_eq_true', decide_eq_false_iff_not]
    exact ⟨fun h => .inl (by omega), fun h => by
      rcases h with h | h
      · omega
      · omega⟩
def sortP (r : Str → Int) (xs : List Str) : List Str := xs.mergeSort (fun a b => PySem.W.dataLe false id (Qs r a) (Qs r b))
theorem sortP_perm (r : Str → Int) (xs : List Str) : (sortP r xs).Perm xs := List.mergeSort_perm _ _
theorem sortP_pw (r : Str → Int) (xs : List Str) : (sortP r xs).Pairwise (leP r) := by
  unfold sortP
  have := List.pairwise_mergeSort (le := fun a b : Str => PySem.W.dataLe false id (Qs r a) (Qs r b)) (fun a b c h1 h2 => (le_Qs r a c).mpr (leP_trans ((le_Qs r a b).mp h1) ((le_Qs r b c).mp h2)))
    (fun a b => by
      rcases leP_total r a b with h | h
      · rw [(le_Qs r a b).mpr h]; rfl
      · rw [(le_Qs r b a).mpr h, Bool.or_true]) xs
  exact this.imp fun h => (le_Qs r _ _).mp h
theorem sortP_of {r : Str → Int} {xs ys : List Str} (p : ys.Perm xs) (h : ys.Pairwise (leP r)) : sortP r xs = ys :=
  List.Perm.eq_of_pairwise (fun a b _ _ h1 h2 => leP_antisymm h1 h2) (sortP_pw r xs) h ((sortP_perm r xs).trans p.symm)
theorem flat_Qs (r : Str → Int) (x : Str) : flat (Qs r x) = true := flat_D (α := Int × Str) (by decide) (r x, x)
theorem sortB_Qs (r : Str → Int) (xs : List Str) : sortB (xs.map (Qs r)) = true := by
  unfold sortB
  rw [Bool.and_eq_true, Bool.and_eq_true, Bool.or_eq_true]
  refine ⟨?_, ?_, .inl ?_⟩
  · rw [List.all_map]
    exact List.all_eq_true.mpr fun x _ => flat_Qs r x
  · unfold alikeB
    rw [List.all_map]
    refine List.all_eq_true.mpr fun a _ => ?_
    show ((xs.map (Qs r)).all fun e => PySem.W.alike (Qs r a) e) = true
    rw [List.all_map]
    exact List.all_eq_true.mpr fun q _ => by simp [PySem.W.alike, Qs, PySem.W.alikeAll]
  · rw [List.all_map]
    exact List.all_eq_true.mpr fun x _ => rfl
theorem sortedQs (r : Str → Int) (xs : List Str) (k : Kd) : oSorted [(.list (xs.map (Qs r)), k)] = some (.list ((sortP r xs).map (Qs r)), .fr) := by
  show (if sortB (xs.map (Qs r)) then _ else _) = _
  rw [if_pos (sortB_Qs r xs)]
  have : sortD (xs.map (Qs r)) = (sortP r xs).map (Qs r) := by
    unfold sortD sortP
    rw [List.map_mergeSort]
    intro a _ b _
    rfl
  rw [this]
end PX

namespace PX
open PySem PySem.Spec PyProof.Rows L2
/-! ### sets of keys of any kind, by the order's ledger -/
structure MemK {P : Program} {w : World} {K : Type} [DecidableEq K] (knd : PySem.KeyKind P w K) (k : K) (e : Int × Value) : Prop where
  is : knd.is k e.2 = true
  hash : e.1 = knd.hash k
  sc : e.2.scannable = true
def SetG {P : Program} {w : World} {K : Type} [DecidableEq K] (knd : PySem.KeyKind P w K) (h : Heap) (a : Addr) (L : List K) : Prop :=
  ∃ o es ep t ks, h.get? a = some o ∧ o.ExactSet ∧ o.data = .set es ep t ∧ Paired (MemK knd) ks es.toList ∧ ks.Perm L ∧ L.Nodup ∧ es.size < scanBound ∧ t.fits es.size = true ∧ Ris t.place.toList ∧
    (w.params.followText "set-order" = true ∨ t.led = true)
theorem paired_perm {α β : Type} {F : α → β → Prop} {bs bs' : List β} (p : bs'.Perm bs) : ∀ {as : List α}, Paired F as bs → ∃ as', as'.Perm as ∧ Paired F as' bs' := by
  induction p with
  | nil => intro as h; exact ⟨as, .refl _, h⟩
  | cons x _ ih =>
    intro as h
    cases h with
    | cons r t =>
      obtain ⟨as', p', h'⟩ := ih t
      exact ⟨_, p'.cons _, .cons r h'⟩
  | swap x y l =>
    intro as h
    cases h with
    | cons r t =>
      cases t with
      | cons r2 t2 => exact ⟨_, .swap _ _ _, .cons r2 (.cons r t2)⟩
  | trans _ _ ih1 ih2 =>
    intro as h
    obtain ⟨a1, p1, h1⟩ := ih2 h
    obtain ⟨a2, p2, h2⟩ := ih1 h1
    exact ⟨a2, p2.trans p1, h2⟩
theorem paired_len {α β : Type} {F : α → β → Prop} : ∀ {as : List α} {bs : List β}, Paired F as bs → as.length = bs.length
  | _, _, .nil => rfl
  | _, _, .cons _ t => congrArg (· + 1) (paired_len t)
theorem paired_memR {α β : Type} {F : α → β → Prop} : ∀ {as : List α} {bs : List β}, Paired F as bs → ∀ b ∈ bs, ∃ a ∈ as, F a b
  | _, _, .nil, b, h => by cases h
  | _, _, .cons r t, b, h => by
    rcases List.mem_cons.mp h with rfl | h
    · exact ⟨_, by simp, r⟩
    · obtain ⟨a, h1, h2⟩ := paired_memR t b h
      exact ⟨a, by simp [h1], h2⟩
theorem paired_memL {α β : Type} {F : α → β → Prop} : ∀ {as : List α} {bs : List β}, Paired F as bs → ∀ a ∈ as, ∃ b ∈ bs, F a b
  | _, _, .nil, b, h => by cases h
  | _, _, .cons r t, b, h => by
    rcases List.mem_cons.mp h with rfl | h
    · exact ⟨_, by simp, r⟩
    · obtain ⟨a, h1, h2⟩ := paired_memL t b h
      exact ⟨a, by simp [h1], h2⟩
/-- one after the other, each once -/
def ddStep {K : Type} [DecidableEq K] (acc : List K) (x : K) : List K := if x ∈ acc then acc else acc ++ [x]
def ddL {K : Type} [DecidableEq K] (xs : List K) : List K := xs.foldl ddStep []
theorem ddL_snoc {K : Type} [DecidableEq K] (xs : List K) (x : K) : ddL (xs ++ [x]) = ddStep (ddL xs) x := by unfold ddL; rw [List.foldl_append]; rfl
theorem ddStep_nd {K : Type} [DecidableEq K] {acc : List K} (x : K) (h : acc.Nodup) : (ddStep acc x).Nodup := by
  unfold ddStep
  split
  · exact h
  · rename_i hx
    rw [List.nodup_append]
    exact ⟨h, by simp, fun a ha b hb => by simp at hb; subst hb; exact fun e => hx (e ▸ ha)⟩
theorem ddStep_mem {K : Type} [DecidableEq K] {acc : List K} {x y : K} : y ∈ ddStep acc x ↔ y ∈ acc ∨ y = x := by
  unfold ddStep
  split
  · rename_i hx; exact ⟨.inl, fun h => h.elim id fun e => e ▸ hx⟩
  · simp
theorem ddL_gen {K : Type} [DecidableEq K] : ∀ (xs acc : List K), acc.Nodup → (xs.foldl ddStep acc).Nodup ∧ ∀ y, y ∈ xs.foldl ddStep acc ↔ y ∈ acc ∨ y ∈ xs
  | [], acc, h => ⟨h, fun y => by simp⟩
  | x :: xs, acc, h => by
    obtain ⟨h1, h2⟩ := ddL_gen xs (ddStep acc x) (ddStep_nd x h)
    refine ⟨h1, fun y => ?_⟩
    rw [List.foldl_cons, h2 y, ddStep_mem, List.mem_cons]
    exact ⟨fun z => z.elim (fun z => z.elim .inl fun e => .inr (.inl e)) fun z => .inr (.inr z), fun z => z.elim (fun z => .inl (.inl z)) fun z => z.elim (fun e => .inl (.inr e)) .inr⟩
theorem ddL_nd {K : Type} [DecidableEq K] (xs : List K) : (ddL xs).Nodup := (ddL_gen xs [] .nil).1
theorem ddL_mem {K : Type} [DecidableEq K] {xs : List K} {y : K} : y ∈ ddL xs ↔ y ∈ xs := by
  have := (ddL_gen xs [] .nil).2 y
  unfold ddL
  simpa using this
theorem ddL_le {K : Type} [DecidableEq K] : ∀ (xs acc : List K), (xs.foldl ddStep acc).length ≤ acc.length + xs.length
  | [], acc => by simp
  | x :: xs, acc => by
    have h := ddL_le xs (ddStep acc x)
    have : (ddStep acc x).length ≤ acc.length + 1 := by unfold ddStep; split <;> simp
    rw [List.foldl_cons, List.length_cons]
    omega
theorem ddL_len {K : Type} [DecidableEq K] (xs : List K) : (ddL xs).length ≤ xs.length := by unfold ddL; simpa using ddL_le xs []
theorem ddL_id {K : Type} [DecidableEq K] {xs : List K} (h : xs.Nodup) : ddL xs = xs := by
  have gen : ∀ (ys acc : List K), (acc ++ ys).Nodup → ys.foldl ddStep acc = acc ++ ys := by
    intro ys
    induction ys with
    | nil => intro acc _; simp
    | cons y r ih =>
      intro acc hn
      have hy : y ∉ acc := fun z => by
        rw [List.nodup_append] at hn
        exact hn.2.2 y z y (by simp) rfl
      rw [List.foldl_cons]
      have : ddStep acc y = acc ++ [y] := by unfold ddStep; rw [if_neg hy]
      rw [this, ih (acc ++ [y]) (by rw [List.append_assoc]; exact hn), List.append_assoc]
      rfl
  exact (gen xs [] (by simpa using h)).trans (by simp)
section
variable {P : Program} {w : World} {K : Type} [DecidableEq K] {knd : PySem.KeyKind P w K} {h h' : Heap} {a : Addr} {L : List K}
theorem SetG.at (R : SetG knd h a L) (k : ∀ o, h.get? a = some o → h'.get? a = some o) : SetG knd h' a L := by
  obtain ⟨o, es, ep, t, ks, ho, r⟩ := R
  exact ⟨o, es, ep, t, ks, k o ho, r⟩
theorem memK_elems {ks : List K} {l : List (Int × Value)} (g : Paired (MemK knd) ks l) : ElemsOf knd l := fun e he => by
  obtain ⟨k, _, m⟩ := paired_memR g e he
  exact ⟨⟨k, m.is, m.hash⟩, m.sc⟩
theorem memK_is {ks : List K} {l : List (Int × Value)} (g : Paired (MemK knd) ks l) (k : K) : k ∈ ks ↔ ∃ e ∈ l, knd.is k e.2 = true := by
  constructor
  · intro hk
    obtain ⟨e, he, m⟩ := paired_memL g k hk
    exact ⟨e, he, m.is⟩
  · rintro ⟨e, he, q⟩
    obtain ⟨k', hk', m⟩ := paired_memR g e he
    exact knd.inj _ _ _ m.is q ▸ hk'
theorem SetG.setOf (R : SetG knd h a L) : h.SetOf knd a (fun k => decide (k ∈ L)) L.length := by
  obtain ⟨o, es, ep, t, ks, ho, hx, hd, g, hp, nd, hb, hf, hr, hl⟩ := R
  exact ⟨o, es, ep, t, ho, hx, hd, memK_elems g, fun k => by rw [decide_eq_true_eq, ← hp.mem_iff]; exact memK_is g k, hb, hf, by rw [← Array.length_toList, ← paired_len g, hp.length_eq]⟩
end
section
variable {P : Program} {w : World} {A : Around} {E : Value → Shared → Prop} {s : Shared} {a : Addr} {K : Type} [DecidableEq K] {knd : PySem.KeyKind P w K} {L : List K}
theorem setG_tail {g : Bool → Sem Unit} (hg : ∀ (b : Bool) (s₁ : Shared) (Q' : Unit → Shared → Prop), Q' () s₁ → wpAny (model P w) A (g b) Q' E s₁)
    {o : Obj} {es : Array (Int × Value)} {ep : Nat} {t : SetTable} (ho : s.heap.get? a = some o) (hex : o.ExactSet) (hd : o.data = .set es ep t)
    {es1 : Array (Int × Value)} {t2 : SetTable} {ks1 : List K} (g1 : Paired (MemK knd) ks1 es1.toList) (p1 : ks1.Perm L) (nd1 : L.Nodup)
    (hb1 : es1.size < scanBound) (hf2 : t2.fits es1.size = true) (hr : Ris t2.place.toList) (hl : w.params.followText "set-order" = true ∨ t2.led = true) {wasDummy : Bool} {R : Option Bool → Shared → Prop}
    (hR : ∀ h', Heap.SameBut a s.heap h' → SetG knd h' a L → R (some true) { s with heap := h' }) :
    wpAny (model P w) A (do
        storeSet a es1 t2
        if (!wasDummy && t2.tooFull) = true then do
            g (relayAll t2 es1 (SetTable.grown es1.size)).2.2
            storeSet a (relayAll t2 es1 (SetTable.grown es1.size)).1 (relayAll t2 es1 (SetTable.grown es1.size)).2.1
            pure (some true)
          else pure (some true)) R E s := by
  refine wpAny_bind (wpAny_storeSet_of ho hd ?_ (fits_of_scanBound hb1))
  have o1 := store_at (es' := es1) (t' := t2) ho hd
  have sb := Heap.SameBut.update s.heap a (Obj.putSet es1 t2)
  split
  · have pm := relayAll_perm t2 es1 (SetTable.grown es1.size)
    have f3 := relayAll_fits t2 es1 (SetTable.grown es1.size)
    have r3 := relayAll_ris t2 es1 (SetTable.grown es1.size)
    have l3 := relayAll_led t2 es1 (SetTable.grown es1.size)
    generalize relayAll t2 es1 (SetTable.grown es1.size) = Z at pm f3 r3 l3 ⊢
    obtain ⟨es2, t3, gave⟩ := Z
    dsimp only at pm f3 r3 l3 ⊢
    have z2 : es2.size = es1.size := by rw [← Array.length_toList, pm.length_eq, Array.length_toList]
    have b2 : es2.size < scanBound := z2 ▸ hb1
    obtain ⟨ks2, p2, g2⟩ := paired_perm pm g1
    refine wpAny_bind (hg _ _ _ ?_)
    refine wpAny_bind (wpAny_storeSet_of o1 rfl ?_ (fits_of_scanBound b2))
    have o2 := store_at (es' := es2) (t' := t3) o1 rfl
    refine wpAny_pure (hR _ (sb.trans (Heap.SameBut.update _ a _)) ?_)
    exact ⟨_, es2, _, t3, ks2, o2, hex, rfl, g2, p2.trans p1, nd1, b2, f3, r3, hl.imp id fun z => by rw [l3]; exact z⟩
  · exact wpAny_pure (hR _ sb ⟨_, es1, _, t2, ks1, o1, hex, rfl, g1, p1, nd1, hb1, hf2, hr, hl⟩)
theorem setG_add {k : K} {v : Value} {Q : Bool → Shared → Prop} (R : SetG knd s.heap a L) (hk : knd.is k v = true) (hsc : v.scannable = true) (room : L.length + 1 < scanBound)
    (hQ : ∀ b h', Heap.SameBut a s.heap h' → SetG knd h' a (ddStep L k) → Q b { s with heap := h' }) :
    wpAny (model P w) A (setAddHashed a v (knd.hash k)) Q E s := by
  obtain ⟨o, es, ep, t, ks, ho, hex, hd, g, hp, nd, hb, hf, hr, hl⟩ := id R
  have hel : ElemsOf knd es.toList := memK_elems g
  have hlen : es.size = L.length := by rw [← Array.length_toList, ← paired_len g, hp.length_eq]
  unfold setAddHashed setAddHashedIn
  refine wpAny_holding (wpAny_bind (wpAny_setState_of ho hd hf ?_))
  dsimp only
  rw [byScan_of hsc hb hel]
  simp only [↓reduceIte]
  unfold setAddByScan
  refine wpAny_bind ?_
  refine wpAny_bind (wpAny_rule ?_)
  refine wpAny_bind (wpAny_setScan_of hk ho hd hf hel ?_)
  cases hfi : List.findIdx? (fun e => knd.is k e.2) es.toList with
  | some j =>
    dsimp only
    obtain ⟨hj, pj, _⟩ := List.findIdx?_eq_some_iff_getElem.mp hfi
    have hm : k ∈ L := hp.mem_iff.mp ((memK_is g k).mpr ⟨es.toList[j], List.getElem_mem hj, pj⟩)
    refine wpAny_pure (wpAny_pure ?_)
    have e : ddStep L k = L := by unfold ddStep; rw [if_pos hm]
    have q := hQ false s.heap (Heap.SameBut.refl a s.heap) (by rw [e]; exact R)
    exact q
  | none =>
    dsimp only
    have hnk : k ∉ L := fun z => by
      obtain ⟨e, he, q⟩ := (memK_is g k).mp (hp.mem_iff.mpr z)
      have c := List.findIdx?_eq_none_iff.mp hfi e he
      rw [q] at c
      cases c
    have edd : ddStep L k = L ++ [k] := by unfold ddStep; rw [if_neg hnk]
    have hgw : ∀ (b : Bool) {s₁ : Shared} {Q' : Unit → Shared → Prop}, Q' () s₁ → wpAny (model P w) A (match b with | true => rule "set.scan.the-table-gave-way" | false => pure ()) Q' E s₁ :=
      fun b s₁ Q' q => by cases b <;> first | exact wpAny_pure q | exact wpAny_rule q
    have pm := layNew_perm t es (knd.hash k) v
    have f1 := layNew_fits t es (knd.hash k) v
    have r1 := layNew_ris t es (knd.hash k) v hr
    have l1 := layNew_led t es (knd.hash k) v
    generalize layNew t es (knd.hash k) v = Z at pm f1 r1 l1 ⊢
    obtain ⟨es1, t1, wasDummy, gave⟩ := Z
    dsimp only at pm f1 r1 l1 ⊢
    rw [Array.toList_push] at pm
    have pc : es1.toList.Perm ((knd.hash k, v) :: es.toList) := pm.trans (List.perm_append_singleton _ _)
    obtain ⟨ks1, q1, g1⟩ := paired_perm pc (Paired.cons (F := MemK knd) ⟨hk, rfl, hsc⟩ g)
    have p1 : ks1.Perm (ddStep L k) := by
      rw [edd]
      exact q1.trans ((hp.cons k).trans (List.perm_append_singleton _ _).symm)
    have nd1 : (ddStep L k).Nodup := ddStep_nd k nd
    have hsz : es1.size = L.length + 1 := by rw [← Array.length_toList, pc.length_eq, List.length_cons, Array.length_toList, hlen]
    have b1 : es1.size < scanBound := by rw [hsz]; exact room
    have led1 : w.params.followText "set-order" = true ∨ t1.led = true := hl.imp id fun z => by rw [l1]; exact z
    refine wpAny_bind (hgw _ ?_)
    split
    · refine wpAny_bind ?_
      rw [hashByValue_scannable 8 hsc]
      refine wpAny_pure ?_
      refine setG_tail ?_ ho hex hd g1 p1 nd1 b1 ?_ ?_ ?_ ?_
      · intro b s₁ Q' q; cases b <;> first | exact wpAny_pure q | exact wpAny_rule q
      · first | (split <;> first | exact f1 | exact SetTable.fits_plain_off f1) | exact f1
      · first | (split <;> exact r1) | exact r1
      · first | (split <;> exact led1) | exact led1
      · intro h' sb r; dsimp only; exact wpAny_pure (hQ true h' sb r)
    · refine wpAny_bind (wpAny_pure ?_)
      simp only [↓reduceIte]
      refine setG_tail ?_ ho hex hd g1 p1 nd1 b1 f1 r1 led1 ?_
      · intro b s₁ Q' q; cases b <;> first | exact wpAny_pure q | exact wpAny_rule q
      · intro h' sb r; dsimp only; exact wpAny_pure (hQ true h' sb r)
theorem setG_new {h : Heap} {a : Addr} (ho : h.get? a = some { cls := .type "set", dict := none, data := .set #[] 0 (.fresh 0 0 (!w.params.followText "set-order")) }) : SetG knd h a [] :=
  ⟨_, #[], 0, _, [], ho, ⟨rfl, rfl, rfl⟩, rfl, .nil, .refl _, .nil, by decide, by rfl, List.Pairwise.nil, by
    show _ ∨ (!w.params.followText "set-order") = true
    cases w.params.followText "set-order"
    · exact .inr rfl
    · exact .inl rfl⟩
theorem setG_update {I : Addr} {fp wr : List Addr} {G : Array GenState → Array GenState → Prop} {n : Nat} {Pv : Nat → Value → Prop} {St : Nat → Shared → Prop} {R : Result → Shared → Prop}
    (W : WalksS P w A.in1 I fp wr G n Pv St) (S : Addr) (hSf : S ∉ fp) (ns : List K) (hn : n = ns.length) (hb : ns.length + 1 < scanBound) (hval : ∀ i v, Pv i v → ∃ k, ns[i]? = some k ∧ knd.is k v = true ∧ v.scannable = true) :
    ∀ (k i : Nat) (s : Shared), n - i = k → i ≤ n → St i s → SetG knd s.heap S (ddL (ns.take i)) →
      (∀ s', Moved (S :: wr) G s s' → SetG knd s'.heap S (ddL ns) → R (.ok (.ret .none)) s') →
      codeAny (model P w) A (.builtin "set.update.loop" ⟨[.ref S, .ref I], []⟩) R s := by
  have hSw : S ∉ wr := fun h => hSf (W.sub _ h)
  have hsub : ∀ b ∈ wr, b ∈ S :: wr := fun b hb => List.mem_cons_of_mem _ hb
  intro k
  induction k with
  | zero =>
    intro i s hk' hi hst hS hR
    have hin : i = n := by omega
    subst hin
    refine codeAny_builtin F.entry_set_update_loop ?_
    rw [Around.under_plainId F.plain_set_update_loop _]
    show wpAny _ A.in1 (pyNext (.ref I) >>= _) _ _ s
    refine wpAny_bind (W.done s _ _ hst fun s' hm => ?_)
    show wpAny _ A.in1 (ret Value.none) _ _ s'
    rw [List.take_of_length_le (by omega)] at hS
    exact wpAny_pure (hR s' (hm.mono hsub) (hS.at fun o e => hm.heap S o hSw e))
  | succ k ih =>
    intro i s hk' hi hst hS hR
    have hlt : i < n := by omega
    refine codeAny_builtin F.entry_set_update_loop ?_
    rw [Around.under_plainId F.plain_set_update_loop _]
    show wpAny _ A.in1 (pyNext (.ref I) >>= _) _ _ s
    refine wpAny_bind (W.item i s _ _ hlt hst fun v s' hP hst' hm => ?_)
    obtain ⟨z, hz, hv, hsc⟩ := hval i v hP
    have hS' : SetG knd s'.heap S (ddL (ns.take i)) := hS.at fun o e => hm.heap S o hSw e
    have hlen := ddL_len (ns.take i)
    rw [List.length_take] at hlen
    show wpAny _ A.in1 (holding [v] (setAdd S v) >>= _) _ _ s'
    refine wpAny_bind (wpAny_holding ?_)
    unfold setAdd
    refine wpAny_holding ?_
    refine wpAny_bind (knd.pyHash hv ?_)
    refine setG_add (s := { s' with toks := s'.toks + 1 }) hS' hv hsc (by omega) fun b h' hsb hS2 => ?_
    rw [← ddL_snoc, show ns.take i ++ [z] = ns.take (i + 1) by rw [List.take_add_one, hz]; rfl] at hS2
    refine wpAny_pure ⟨plainId_quiet F.plain_set_update_loop _, ih (i + 1) _ (by omega) hlt (W.frame _ s' _ _ hst' (Nat.le_succ _) fun b hb o e => ?_) hS2 fun s'' hm'' hS'' => ?_⟩
    · rw [hsb.2 b (fun h : b = S => hSf (by rw [← h]; exact hb))]; exact e
    · refine hR s'' (Moved.trans W.gtrans ((hm.mono hsub).then_heap (Nat.le_succ _) fun b o hb e => ?_) hm'') hS''
      rw [hsb.2 b (fun h : b = S => hb (by rw [h]; exact List.mem_cons_self))]; exact e
end
end PX

namespace PX
open PySem PySem.Spec PyProof.Rows L2
section
variable {P : Program} {w : World} {A : Around} {E : Value → Shared → Prop} {s : Shared} {K : Type} [DecidableEq K] {knd : PySem.KeyKind P w K}
theorem paired_at {α β : Type} {F : α → β → Prop} : ∀ {as : List α} {bs : List β}, Paired F as bs → ∀ (i : Nat) (b : β), bs[i]? = some b → ∃ a, as[i]? = some a ∧ F a b
  | _, _, .nil, i, b, h => by simp at h
  | _, _, .cons r t, 0, b, h => by cases h; exact ⟨_, rfl, r⟩
  | _, _, .cons r t, i + 1, b, h => paired_at t i b h
set_option maxHeartbeats 3200000 in
/-- set(l), l a list of keys -/
theorem call_setG_lst {l : Addr} {items : Array Value} (ns : List K) {Q : Value → Shared → Prop} (hh : A.handled = none) (hl : s.heap.IsList l items) (hit : Paired (fun k v => knd.is k v = true ∧ v.scannable = true) ns items.toList) (hb : ns.length + 1 < scanBound)
    (h : ∀ (h' : Heap) (tk : Nat), SetG knd h' s.heap.objs.size (ddL ns) → (∀ b o, s.heap.get? b = some o → h'.get? b = some o) → Q (.ref s.heap.objs.size) { s with heap := h', toks := tk }) :
    wpAny (model P w) A (call (.type "set") [.ref l]) Q E s := by
  have hisz : items.size = ns.length := by
    have q := paired_len hit
    rwa [Array.length_toList, eq_comm] at q
  obtain ⟨c, tl, hmro⟩ := F.called_set.mro
  have hmade := F.called_set.made
  have hsub := F.called_set.sub
  refine wpAny_call (codeAny_of_tree ?_)
  show wpAny _ _ (callAny (.type "set") _) _ _ _
  refine wpAny_pure ⟨Code.quiet_builtin _ (by decide +kernel), codeAny_builtin F.entry_type_call ?_⟩
  rw [Around.under_plain (weight_type_call_type "set" [.ref l] []) rfl]
  have h1 := F.called_set.notType
  have h2 := F.called_set.canCreate
  have hct := F.typeCall_set_1 (.ref l)
  repeat (any_goals (first | assumption | wp_step))
  refine codeAny_mono (code_set_led1 (.ref l) (E := E) (Q₁ := fun obj s₁ => obj = .ref s.heap.objs.size ∧ s₁ = { s with heap := s.heap.push { cls := .type "set", dict := none, data := .set #[] 0 (.fresh 0 0 (!w.params.followText "set-order")) } }) ⟨rfl, rfl⟩) fun r s₁ hr => ?_
  cases r with
  | error e => exact hr
  | ok fl =>
    cases fl with
    | ret obj =>
      obtain ⟨rfl, rfl⟩ := hr
      have hS : (s.heap.push { cls := .type "set", dict := none, data := .set #[] 0 (.fresh 0 0 (!w.params.followText "set-order")) }).get? s.heap.objs.size = some { cls := .type "set", dict := none, data := .set #[] 0 (.fresh 0 0 (!w.params.followText "set-order")) } := Heap.get?_push_size _ rfl
      have hT : Shared.TypeIs { s with heap := s.heap.push { cls := .type "set", dict := none, data := .set #[] 0 (.fresh 0 0 (!w.params.followText "set-order")) } } (.ref s.heap.objs.size) "set" := ⟨_, hS, rfl⟩
      have hli := F.called_set.init.lookup
      have hbi := F.called_set.init.bind (.ref s.heap.objs.size)
      repeat (any_goals (first | assumption | wp_step))
      refine codeAny_mono (codeAny_call_builtin (R := wants (fun r s₂ => r = .none ∧ ∃ h' tk, s₂ = { s with heap := h', toks := tk } ∧ SetG knd h' s.heap.objs.size (ddL ns) ∧
          (∀ b o, s.heap.get? b = some o → h'.get? b = some o)) E) F.called_set.init.plain F.entry_set_init (check_set_init_1 hT ?_)) fun r₂ s₂ hr₂ => ?_
      · obtain ⟨ol, hol, hcl, nl, hdl⟩ := hl
        obtain ⟨ocls, odict, odata, oslots⟩ := ol
        simp only at hcl hdl
        subst hcl; subst hdl
        have hol' : (s.heap.push { cls := .type "set", dict := none, data := .set #[] 0 (.fresh 0 0 (!w.params.followText "set-order")) }).get? l = some { cls := .type "list", dict := odict, data := .seq items nl, slots := oslots } := Heap.get?_push_of_some _ hol
        have hsls := F.sub_list_set
        have hslf := F.sub_list_frozenset
        have hne : (Value.type "list" == Value.type "dict") = false := by decide
        have hl1 : (s.heap.push { cls := .type "set", dict := none, data := .set #[] 0 (.fresh 0 0 (!w.params.followText "set-order")) }).IsList l items := ⟨_, hol', rfl, nl, rfl⟩
        unfold Builtin.«set.__init__» noKeywords Builtin.Frozenset.updateFrom
        generalize hPI : pyIter = PI
        wp_walk
        subst hPI
        refine wpAny_pyIter_list hl1 ?_
        refine wpAny_bind (wpAny_runValue ?_)
        have hlS : l < s.heap.objs.size := Heap.lt_size hol
        have hh3 : A.in1.in1.in1.handled = none := by simp [hh]
        have hneI : l ≠ (s.heap.push { cls := .type "set", dict := none, data := .set #[] 0 (.fresh 0 0 (!w.params.followText "set-order")) }).objs.size := by
          rw [Heap.size_push]; exact Nat.ne_of_lt (Nat.lt_succ_of_lt hlS)
        have hSf : s.heap.objs.size ∉ [(s.heap.push { cls := .type "set", dict := none, data := .set #[] 0 (.fresh 0 0 (!w.params.followText "set-order")) }).objs.size, l] := by
          rw [Heap.size_push]; simp only [List.mem_cons, List.mem_singleton, List.not_mem_nil, or_false, not_or]
          exact ⟨Nat.ne_of_lt (Nat.lt_succ_self _), Nat.ne_of_gt hlS⟩
        have hval : ∀ (i : Nat) (v : Value), items[i]? = some v → ∃ k, ns[i]? = some k ∧ knd.is k v = true ∧ v.scannable = true := fun i v hv => paired_at hit i v (by rw [Array.getElem?_toList]; exact hv)
        refine setG_update ((Walks.list hh3 _ l hneI items).toS) s.heap.objs.size
          hSf ns hisz hb hval (items.size - 0) 0 _ (by omega) (Nat.zero_le _)
          ⟨⟨_, Heap.get?_push_size _ rfl, rfl, rfl⟩, (hl1.push _)⟩ ?hS0 ?hR
        case hS0 =>
          rw [List.take_zero]
          exact setG_new (Heap.get?_push_of_some _ hS)
        case hR =>
          intro s' hm hS'
          obtain ⟨h', g2, d', tk', os'⟩ := s'
          have eg : g2 = s.gens := hm.gens
          have ed : d' = s.drawn := hm.drawn
          have eo : os' = s.os := hm.os
          subst eg; subst ed; subst eo
          show wpAny _ _ _ _ _ _
          refine wpAny_pure ?_
          show wpAny _ _ (ret Value.none) _ _ _
          refine wpAny_pure ⟨rfl, h', tk', rfl, hS', fun b o e => ?_⟩
          have hb0 : b < s.heap.objs.size := Heap.lt_size e
          have hb2 : b ≠ (s.heap.push { cls := .type "set", dict := none, data := .set #[] 0 (.fresh 0 0 (!w.params.followText "set-order")) }).objs.size := by
            rw [Heap.size_push]; exact Nat.ne_of_lt (Nat.lt_succ_of_lt hb0)
          exact hm.heap b o (by simp only [List.mem_cons, List.mem_singleton, List.not_mem_nil, or_false, not_or]; exact ⟨Nat.ne_of_lt hb0, hb2⟩) (Heap.get?_push_of_some _ (Heap.get?_push_of_some _ e))
      · cases r₂ with
        | error e => exact hr₂
        | ok fl₂ =>
          cases fl₂ with
          | ret r =>
            obtain ⟨rfl, h', tk, rfl, hS', hk'⟩ := hr₂
            repeat (any_goals (first | assumption | wp_step))
            exact h _ _ hS' hk'
          | _ => exact hr₂.elim
    | _ => exact hr.elim
set_option maxHeartbeats 3200000 in
/-- set(l), l a tuple of keys -/
theorem call_setG_tup {l : Addr} {items : Array Value} (ns : List K) {Q : Value → Shared → Prop} (hh : A.handled = none) (hl : s.heap.IsTuple l items) (hit : Paired (fun k v => knd.is k v = true ∧ v.scannable = true) ns items.toList) (hb : ns.length + 1 < scanBound)
    (h : ∀ (h' : Heap) (tk : Nat), SetG knd h' s.heap.objs.size (ddL ns) → (∀ b o, s.heap.get? b = some o → h'.get? b = some o) → Q (.ref s.heap.objs.size) { s with heap := h', toks := tk }) :
    wpAny (model P w) A (call (.type "set") [.ref l]) Q E s := by
  have hisz : items.size = ns.length := by
    have q := paired_len hit
    rwa [Array.length_toList, eq_comm] at q
  obtain ⟨c, tl, hmro⟩ := F.called_set.mro
  have hmade := F.called_set.made
  have hsub := F.called_set.sub
  refine wpAny_call (codeAny_of_tree ?_)
  show wpAny _ _ (callAny (.type "set") _) _ _ _
  refine wpAny_pure ⟨Code.quiet_builtin _ (by decide +kernel), codeAny_builtin F.entry_type_call ?_⟩
  rw [Around.under_plain (weight_type_call_type "set" [.ref l] []) rfl]
  have h1 := F.called_set.notType
  have h2 := F.called_set.canCreate
  have hct := F.typeCall_set_1 (.ref l)
  repeat (any_goals (first | assumption | wp_step))
  refine codeAny_mono (code_set_led1 (.ref l) (E := E) (Q₁ := fun obj s₁ => obj = .ref s.heap.objs.size ∧ s₁ = { s with heap := s.heap.push { cls := .type "set", dict := none, data := .set #[] 0 (.fresh 0 0 (!w.params.followText "set-order")) } }) ⟨rfl, rfl⟩) fun r s₁ hr => ?_
  cases r with
  | error e => exact hr
  | ok fl =>
    cases fl with
    | ret obj =>
      obtain ⟨rfl, rfl⟩ := hr
      have hS : (s.heap.push { cls := .type "set", dict := none, data := .set #[] 0 (.fresh 0 0 (!w.params.followText "set-order")) }).get? s.heap.objs.size = some { cls := .type "set", dict := none, data := .set #[] 0 (.fresh 0 0 (!w.params.followText "set-order")) } := Heap.get?_push_size _ rfl
      have hT : Shared.TypeIs { s with heap := s.heap.push { cls := .type "set", dict := none, data := .set #[] 0 (.fresh 0 0 (!w.params.followText "set-order")) } } (.ref s.heap.objs.size) "set" := ⟨_, hS, rfl⟩
      have hli := F.called_set.init.lookup
      have hbi := F.called_set.init.bind (.ref s.heap.objs.size)
      repeat (any_goals (first | assumption | wp_step))
      refine codeAny_mono (codeAny_call_builtin (R := wants (fun r s₂ => r = .none ∧ ∃ h' tk, s₂ = { s with heap := h', toks := tk } ∧ SetG knd h' s.heap.objs.size (ddL ns) ∧
          (∀ b o, s.heap.get? b = some o → h'.get? b = some o)) E) F.called_set.init.plain F.entry_set_init (check_set_init_1 hT ?_)) fun r₂ s₂ hr₂ => ?_
      · obtain ⟨ol, hol, hcl, nl, hdl⟩ := hl
        obtain ⟨ocls, odict, odata, oslots⟩ := ol
        simp only at hcl hdl
        subst hcl; subst hdl
        have hol' : (s.heap.push { cls := .type "set", dict := none, data := .set #[] 0 (.fresh 0 0 (!w.params.followText "set-order")) }).get? l = some { cls := .type "tuple", dict := odict, data := .seq items nl, slots := oslots } := Heap.get?_push_of_some _ hol
        have hsls := F.sub_tuple_set
        have hslf := F.sub_tuple_frozenset
        have hne : (Value.type "tuple" == Value.type "dict") = false := by decide
        have hl1 : (s.heap.push { cls := .type "set", dict := none, data := .set #[] 0 (.fresh 0 0 (!w.params.followText "set-order")) }).IsTuple l items := ⟨_, hol', rfl, nl, rfl⟩
        unfold Builtin.«set.__init__» noKeywords Builtin.Frozenset.updateFrom
        generalize hPI : pyIter = PI
        wp_walk
        subst hPI
        refine wpAny_pyIter_tuple hl1 ?_
        refine wpAny_bind (wpAny_runValue ?_)
        have hlS : l < s.heap.objs.size := Heap.lt_size hol
        have hh3 : A.in1.in1.in1.handled = none := by simp [hh]
        have hneI : l ≠ (s.heap.push { cls := .type "set", dict := none, data := .set #[] 0 (.fresh 0 0 (!w.params.followText "set-order")) }).objs.size := by
          rw [Heap.size_push]; exact Nat.ne_of_lt (Nat.lt_succ_of_lt hlS)
        have hSf : s.heap.objs.size ∉ [(s.heap.push { cls := .type "set", dict := none, data := .set #[] 0 (.fresh 0 0 (!w.params.followText "set-order")) }).objs.size, l] := by
          rw [Heap.size_push]; simp only [List.mem_cons, List.mem_singleton, List.not_mem_nil, or_false, not_or]
          exact ⟨Nat.ne_of_lt (Nat.lt_succ_self _), Nat.ne_of_gt hlS⟩
        have hval : ∀ (i : Nat) (v : Value), items[i]? = some v → ∃ k, ns[i]? = some k ∧ knd.is k v = true ∧ v.scannable = true := fun i v hv => paired_at hit i v (by rw [Array.getElem?_toList]; exact hv)
        refine setG_update ((Walks.tuple hh3 _ l hneI items).toS) s.heap.objs.size
          hSf ns hisz hb hval (items.size - 0) 0 _ (by omega) (Nat.zero_le _)
          ⟨⟨_, Heap.get?_push_size _ rfl, rfl, rfl⟩, (hl1.push _)⟩ ?hS0 ?hR
        case hS0 =>
          rw [List.take_zero]
          exact setG_new (Heap.get?_push_of_some _ hS)
        case hR =>
          intro s' hm hS'
          obtain ⟨h', g2, d', tk', os'⟩ := s'
          have eg : g2 = s.gens := hm.gens
          have ed : d' = s.drawn := hm.drawn
          have eo : os' = s.os := hm.os
          subst eg; subst ed; subst eo
          show wpAny _ _ _ _ _ _
          refine wpAny_pure ?_
          show wpAny _ _ (ret Value.none) _ _ _
          refine wpAny_pure ⟨rfl, h', tk', rfl, hS', fun b o e => ?_⟩
          have hb0 : b < s.heap.objs.size := Heap.lt_size e
          have hb2 : b ≠ (s.heap.push { cls := .type "set", dict := none, data := .set #[] 0 (.fresh 0 0 (!w.params.followText "set-order")) }).objs.size := by
            rw [Heap.size_push]; exact Nat.ne_of_lt (Nat.lt_succ_of_lt hb0)
          exact hm.heap b o (by simp only [List.mem_cons, List.mem_singleton, List.not_mem_nil, or_false, not_or]; exact ⟨Nat.ne_of_lt hb0, hb2⟩) (Heap.get?_push_of_some _ (Heap.get?_push_of_some _ e))
      · cases r₂ with
        | error e => exact hr₂
        | ok fl₂ =>
          cases fl₂ with
          | ret r =>
            obtain ⟨rfl, h', tk, rfl, hS', hk'⟩ := hr₂
            repeat (any_goals (first | assumption | wp_step))
            exact h _ _ hS' hk'
          | _ => exact hr₂.elim
    | _ => exact hr.elim
end
end PX

namespace PX
open PySem PySem.Spec PyProof.Rows L2
/-! ### sorted(set(e)), len(set(e)), e texts -/
def SetSO (P : Program) (w : World) (a : Addr) (L : List Str) : HO := .ext fun h => SetG (PySem.strKind P w) h a L
theorem setSO_new {P : Program} {w : World} {H : Hp} {h : Heap} {a : Addr} {L : List Str} (R : SetG (PySem.strKind P w) h a L) : ObjOk P w H h a (SetSO P w a L) := by
  have ⟨o, _, _, _, _, ho, _⟩ := R
  exact ⟨R, ⟨o, ho⟩, fun h1 h2 p k => SetG.at p k⟩
theorem strs_paired {P : Program} {w : World} : ∀ {xs : List Str} {us : List Value}, Vals (xs.map V.str) us → Paired (fun k v => (PySem.strKind P w).is k v = true ∧ v.scannable = true) xs us
  | [], _, h => by cases h; exact .nil
  | x :: xs, _, h => by
    rw [List.map_cons] at h
    cases h with
    | cons r t =>
      obtain ⟨tk, rfl⟩ := r
      exact .cons ⟨by simp [PySem.strKind, Value.isStrOf], rfl⟩ (strs_paired t)
theorem paired_vals {P : Program} {w : World} : ∀ {ks : List Str} {es : List (Int × Value)}, Paired (MemK (PySem.strKind P w)) ks es → Vals (ks.map V.str) (es.map (·.2))
  | _, _, .nil => .nil
  | _, _, .cons r t => by
    obtain ⟨u, hu⟩ := Value.isStrOf_shape r.is
    exact .cons ⟨u, hu⟩ (paired_vals t)
theorem vals_perm {P : Program} {w : World} {ks : List Str} {es : List (Int × Value)} {us : List Value} (g : Paired (MemK (PySem.strKind P w)) ks es) (p : us.Perm (es.map (·.2))) : ∃ ks' : List Str, ks'.Perm ks ∧ Vals (ks'.map V.str) us := by
  have h : Paired (fun (k : Str) (v : Value) => RelV (.str k) v) ks (es.map (·.2)) := by
    clear p
    induction g with
    | nil => exact .nil
    | cons r t ih =>
      obtain ⟨u, hu⟩ := Value.isStrOf_shape r.is
      exact .cons ⟨u, hu⟩ ih
  obtain ⟨ks', p', h'⟩ := paired_perm p h
  refine ⟨ks', p', ?_⟩
  clear p' p
  induction h' with
  | nil => exact .nil
  | cons r t ih => exact .cons r ih
def rSetS (K : PySem.W.Frag) (P : Program) (w : World) : List V → Hp → VK → Prop := fun xs H Q => ∃ (l : Addr) (ns : List Str), xs = [V.ref l] ∧ (SqL K H l (ns.map V.str) ∨ SqT K H l (ns.map V.str)) ∧ ns.length ≤ 1000 ∧ ∀ p, H p = none → Q (.ref p) (upd H p (SetSO P w p (ddL ns)))
theorem cr_setS {X : Cx} (hc : X.calm = true) : CallR X (.type "set") (rSetS X.K X.prog X.w) := by
  intro pins s σ H xs us Q I r h
  obtain ⟨l, ns, rfl, hq, hl, q⟩ := h
  rw [Vals.ref1 r]
  rcases hq with hq | hq
  · obtain ⟨its, rv, pl, hz⟩ := I.list hq
    refine call_setG_lst (P := X.prog) (w := X.w) (knd := PySem.strKind X.prog X.w) ns (I.ok.hd hc) pl.isList (by simpa using strs_paired rv) (by unfold scanBound; omega) fun h' tk R k => ?_
    exact ⟨.ref s.heap.objs.size, _, I.laid (t' := tk) k (Nat.le_refl _) (setSO_new R), rfl, q _ (I.hok.fresh (Nat.le_refl _))⟩
  · obtain ⟨its, rv, pt, hz⟩ := I.tuple hq
    refine call_setG_tup (P := X.prog) (w := X.w) (knd := PySem.strKind X.prog X.w) ns (I.ok.hd hc) (show s.heap.IsTuple l its.toArray from pt) (by simpa using strs_paired rv) (by unfold scanBound; omega) fun h' tk R k => ?_
    exact ⟨.ref s.heap.objs.size, _, I.laid (t' := tk) k (Nat.le_refl _) (setSO_new R), rfl, q _ (I.hok.fresh (Nat.le_refl _))⟩
def rLenSetS (P : Program) (w : World) : List V → Hp → VK → Prop := fun xs H Q => ∃ (a : Addr) (L : List Str), xs = [V.ref a] ∧ H a = some (SetSO P w a L) ∧ Q (.int L.length) H
theorem cr_lenSetS {X : Cx} : CallR X (.builtin "len") (rLenSetS X.prog X.w) := by
  intro pins s σ H xs us Q I r h
  obtain ⟨a, L, rfl, ha, q⟩ := h
  rw [Vals.ref1 r]
  obtain ⟨o, es, ep, t, ks, ho, hex, hd, hg, hp, nd, hb, hf, hr, hl⟩ := (I.hok a _ ha).1
  have e : es.size = L.length := by rw [← Array.length_toList, ← paired_len hg, hp.length_eq]
  refine call_len_set ho hex hd hf (by unfold scanBound at hb; omega) ⟨.int L.length, H, I.tok _, ⟨_, by rw [e]⟩, q⟩
def strsOf : List PyData → Option (List Str)
  | [] => some []
  | .str i :: r => (strsOf r).map (i :: ·)
  | _ => none
theorem strsOf_eq : ∀ {ds : List PyData} {ns : List Str}, strsOf ds = some ns → ds = ns.map PyData.str
  | [], _, h => by cases h; rfl
  | d :: r, ns, h => by
    cases d <;> simp only [strsOf, reduceCtorEq, Option.map_eq_some_iff] at h
    obtain ⟨ms, h1, rfl⟩ := h
    rw [strsOf_eq h1]
    rfl
theorem strsOf_map (ns : List Str) : strsOf (ns.map PyData.str) = some ns := by
  induction ns with
  | nil => rfl
  | cons x r ih => rw [List.map_cons, strsOf, ih]; rfl
theorem RpL.of_strs {K : PySem.W.Frag} {G : Hp} : ∀ {xs : List Str} {vs : List V}, RpL K G vs (xs.map PyData.str) → vs = xs.map V.str
  | [], _, h => by cases h; rfl
  | x :: xs, _, h => by
    rw [List.map_cons] at h
    cases h with
    | cons r t =>
      rw [RpL.of_strs t]
      cases r
      rfl
theorem RpL.strOks {K : PySem.W.Frag} {G : Hp} : ∀ {vs : List V} {xs : List Str}, RpL K G vs (xs.map PyData.str) → ∀ x ∈ xs, PyData.strOk x = true
  | _, [], _, x, h => by cases h
  | _, y :: xs, h, x, hx => by
    rw [List.map_cons] at h
    cases h with
    | cons r t =>
      rcases List.mem_cons.mp hx with rfl | hx
      · cases r; assumption
      · exact RpL.strOks t x hx
theorem RpL.strs_mk {K : PySem.W.Frag} {G : Hp} : ∀ {ys : List Str}, (∀ y ∈ ys, PyData.strOk y = true) → RpL K G (ys.map V.str) (ys.map PyData.str)
  | [], _ => .nil
  | y :: ys, h => .cons (.str y (h y (by simp))) (RpL.strs_mk fun z hz => h z (by simp [hz]))
/-- sorted of a set of texts -/
theorem sortedG_run {X : Cx} {pins : List (Addr × Obj)} {σ : L2.St} {H : Hp} {s : Shared} (I : Inv X pins σ H s) (hc : X.calm = true) (hu : X.A.units + 200 < cLine) {v : Value} {L : List Str} {Q : VK}
    (hx : ∀ (A : Around) (E' : Value → Shared → Prop) (Q' : List Value → Shared → Prop), A.handled = none → (∀ (s' : Shared) (us : List Value) (ks : List Str), (∀ b o, s.heap.get? b = some o → s'.heap.get? b = some o) → s'.gens = s.gens → s'.os = s.os → ks.Perm L → Vals (ks.map V.str) us → Q' us s') → wpAny (model X.prog X.w) A (collect v) Q' E' s)
    (hr : ∀ ks : List Str, ks.Perm L → RpL X.K H (ks.map V.str) (ks.map PyData.str)) (hl : L.length ≤ sizeLine) (hq : ∀ p, H p = none → Q (.ref p) (upd H p (.lst ((sortS L).map V.str)))) :
    wpAny (model X.prog X.w) X.A (call (.builtin "sorted") [v]) (EP X pins σ Q) X.xe s := by
  refine Calls.call_function_entry PyProof.Rows.kind_sorted PyProof.Rows.plain_sorted PyProof.Rows.entry_sorted (PyProof.Rows.args_sorted1 _) ?_
  unfold Builtin.«sorted»
  refine wpAny_bind (m := checkCount "sorted" 1 1 _) (wpAny_pure ?_)
  refine wpAny_bind (hx _ _ _ (I.ok.hd hc) fun s' us ks hk hgens hos hp hv => ?_)
  have I1 : Inv X pins σ H s' := I.call' (ch := []) hos (Un.kept hk) (I.hok.kept hk) (by rw [hgens]; exact I.bare) (fun _ z => nomatch z)
  have hlk : ks.length = L.length := hp.length_eq
  have hul : us.length = ks.length := by rw [← hv.length, List.length_map]
  have sb := sortB_S ks
  unfold sortB at sb
  rw [Bool.and_eq_true, Bool.and_eq_true] at sb
  obtain ⟨b1, b2, b3⟩ := sb
  have hnd := flat_all b1
  have hrk := hr ks hp
  have m1 : ((ks.map V.str).zip (ks.map PyData.str)).map (·.1) = ks.map V.str := List.map_fst_zip (by simp)
  have m2 : ((ks.map V.str).zip (ks.map PyData.str)).map (·.2) = ks.map PyData.str := List.map_snd_zip (by simp)
  refine wpAny_bind (wpAny_newList ?_ (by rw [hul]; omega))
  have hoL : (s'.heap.push (seqObj "list" us.toArray 0)).get? s'.heap.objs.size = some (seqObj "list" us.toArray 0) := Heap.get?_push_size _ rfl
  show wpAny _ _ _ _ _ { s' with heap := s'.heap.push (seqObj "list" us.toArray 0) }
  have I3 : L2.Inv X pins σ H { s' with heap := PySem.W.sortingHeap (s'.heap.push (seqObj "list" us.toArray 0)) s'.heap.objs.size us } := I1.kept (t' := s'.toks) fun b o e => by
    have hb : b < s'.heap.objs.size := Heap.lt_size e
    exact PySem.W.sortingHeap_old (Nat.ne_of_lt hb) (Heap.get?_push_of_some _ e)
  obtain ⟨as, hra⟩ := (hrk.reads I3 hnd hv).1
  have er : PySem.W.EachIs (fun v (b : V × PyData) => ∃ as, Reads (PySem.W.sortingHeap (s'.heap.push (seqObj "list" us.toArray 0)) s'.heap.objs.size us) v b.2 as) us ((ks.map V.str).zip (ks.map PyData.str)) := reads_each (by rw [m2]; exact hra)
  have ev : PySem.W.EachIs (fun v (b : V × PyData) => RelV b.1 v) us ((ks.map V.str).zip (ks.map PyData.str)) := vals_each (by rw [m1]; exact hv)
  have hal : PySem.W.AllAlike (((ks.map V.str).zip (ks.map PyData.str)).map (·.2)) := by rw [m2]; exact alike_of b2
  have hso : PySem.W.Sortable (((ks.map V.str).zip (ks.map PyData.str)).map (·.2)) := by rw [m2]; exact sortable_of b3
  refine wpAny_bind (wpAny_holding (wpAny_call_entry PyProof.Rows.slot_list_sort ⟨_, hoL, rfl⟩ PyProof.Rows.entry_list_sort
    (PySem.W.list_sort_vals (κ := PySem.W.dataKind (PySem.W.sortingHeap (s'.heap.push (seqObj "list" us.toArray 0)) s'.heap.objs.size us) (((ks.map V.str).zip (ks.map PyData.str)).map (·.2))) hoL
      (PySem.W.SortsAt.data (s := { s' with heap := PySem.W.sortingHeap (s'.heap.push (seqObj "list" us.toArray 0)) s'.heap.objs.size us }) (PySem.W.each_map (R := fun v d => ∃ as, Reads (PySem.W.sortingHeap (s'.heap.push (seqObj "list" us.toArray 0)) s'.heap.objs.size us) v d as) (fun b : V × PyData => b.2) er) hal hso (fun d hd => ?_)) (by rw [hul]; omega) ⟨.none, rfl, ?_⟩) (PyProof.Rows.args_list_sort _)))
  · rw [m2] at hd
    rw [List.all_eq_true] at b1
    have := flat_depth (b1 d hd)
    show X.A.units + 1 + 1 + d.depth < cLine
    omega
  · have eo := PySem.W.sortVals_data (enc := fun b : V × PyData => b.2) false ev er hal
    generalize hout : PySem.W.sortVals (PySem.W.dataKind (PySem.W.sortingHeap (s'.heap.push (seqObj "list" us.toArray 0)) s'.heap.objs.size us) (((ks.map V.str).zip (ks.map PyData.str)).map (·.2))) false us us = out at eo ⊢
    have ro := each_vals eo
    obtain ⟨e', he'⟩ := PyProof.Rows.sortedHeap_at (vs := us) (out := out.toArray) hoL
    have e2 : (((ks.map V.str).zip (ks.map PyData.str)).mergeSort (PySem.W.dataLe false fun b => b.2)).map (·.1) = (sortS L).map V.str := by
      have e3 := PySem.W.sort_maps (r := PySem.W.dataLe false fun b : V × PyData => b.2) (s := PySem.W.dataLe false id) (fun b : V × PyData => b.2) (l := (ks.map V.str).zip (ks.map PyData.str)) fun _ _ _ _ => rfl
      have e4 : (((ks.map V.str).zip (ks.map PyData.str)).mergeSort (PySem.W.dataLe false fun b => b.2)).map (·.2) = (sortS L).map PyData.str := by
        rw [m2] at e3
        have e5 := sortD_S ks
        unfold sortD at e5
        rw [e3, e5, sortS_eq hp]
      have gen : ∀ (l : List (V × PyData)) (xs : List Str), (∀ p ∈ l, ∃ x, p = (V.str x, PyData.str x)) → l.map (·.2) = xs.map PyData.str → l.map (·.1) = xs.map V.str := by
        intro l
        induction l with
        | nil => intro xs _ e; cases xs with | nil => rfl | cons _ _ => cases e
        | cons p r ih =>
          intro xs hm e
          cases xs with
          | nil => cases e
          | cons x xs =>
            obtain ⟨y, rfl⟩ := hm p (by simp)
            rw [List.map_cons, List.map_cons] at e
            injection e with e1 e2
            injection e1 with e1
            subst e1
            rw [List.map_cons, List.map_cons, ih xs (fun q hq => hm q (by simp [hq])) e2]
      refine gen _ _ (fun p hp2 => ?_) e4
      have := (List.mergeSort_perm _ _).mem_iff.mp hp2
      rw [List.zip_map'] at this
      obtain ⟨x, _, rfl⟩ := List.mem_map.mp this
      exact ⟨x, rfl⟩
    have hol : ((sortS L).map V.str).length = L.length := by rw [List.length_map, sortS_len]
    rw [e2] at ro
    refine wpAny_pure ⟨_, rfl, .ref s'.heap.objs.size, upd H s'.heap.objs.size (.lst ((sortS L).map V.str)), I1.laid (t' := s'.toks) (fun b u e => ?_) (Nat.le_refl _)
      (show ObjOk X.prog X.w _ _ _ (.lst _) from ⟨by rw [hol]; exact hl, out, e', ro, he'⟩), rfl, hq _ (I1.hok.fresh (Nat.le_refl _))⟩
    have hb : b < s'.heap.objs.size := Heap.lt_size e
    rw [PyProof.Rows.sortedHeap_old (Nat.ne_of_lt hb) (by rw [size_push']; exact Nat.lt_succ_of_lt hb)]
    exact Heap.get?_push_of_some _ e
end PX

namespace PX
open PySem PySem.Spec PyProof.Rows L2
/-! ### dicts written out -/
def cPairs : List (Ex × Ex) → SEnv → List Int → Option (List (PyData × PyData) × List Int)
  | [], _, W => some ([], W)
  | f :: r, env, W => (f.1 env W).bind fun a => (f.2 env a.2.2).bind fun b => if (esc a.2.1 && esc b.2.1) = true then (cPairs r env b.2.2).map fun q => ((a.1, b.1) :: q.1, q.2) else none
abbrev PP2 (K : PySem.W.Frag) (G : Hp) : List (V × V) → List (PyData × PyData) → Prop := Paired fun p e => Rp K G p.1 e.1 ∧ Rp K G p.2 e.2
theorem PP2.mono {K : PySem.W.Frag} {G G' : Hp} (h : Sub G G') {ps : List (V × V)} {es : List (PyData × PyData)} (r : PP2 K G ps es) : PP2 K G' ps es := Paired.mapP r fun _ _ q => ⟨Rp.mono h q.1, Rp.mono h q.2⟩
section
variable {K : PySem.W.Frag} {B Gb G H : Hp} {σ : L2.St} {env : SEnv} {W W' : List Int}
theorem pairs_tP (fs : List (Ex × Ex)) : ∀ (G H : Hp) (W : List Int) (es : List (PyData × PyData)) (Q : List (V × V) → Hp → Prop), Sta K B Gb G H σ env W → cPairs fs env W = some (es, W') →
    (∀ ps G' H', Same G G' → Sta K B Gb G' H' σ env W' → PP2 K G' ps es → Q ps H') → tPairs (fs.map fun f => (tE K f.1, tE K f.2)) σ H Q := by
  induction fs with
  | nil =>
    intro G H W es Q S e q
    cases e
    exact q [] G H (Same.refl _) S .nil
  | cons f r ih =>
    intro G H W es Q S e q
    rw [cPairs, Option.bind_eq_some_iff] at e
    obtain ⟨⟨d1, k1, W1⟩, e1, e⟩ := e
    rw [Option.bind_eq_some_iff] at e
    obtain ⟨⟨d2, k2, W2⟩, e2, e⟩ := e
    dsimp only at e
    split at e
    · rename_i hk
      rw [Bool.and_eq_true] at hk
      rw [Option.map_eq_some_iff] at e
      obtain ⟨⟨es', W3⟩, e3, e4⟩ := e
      cases e4
      refine ⟨B, Gb, G, env, W, d1, k1, W1, S, e1, fun x G1 H1 s1 S1 h1 => ?_⟩
      obtain ⟨G2, s2, S2, r2, _⟩ := freeze1 S1 h1 hk.1
      refine ⟨B, Gb, G2, env, W1, d2, k2, W2, S2, e2, fun y G3 H3 s3 S3 h3 => ?_⟩
      obtain ⟨G4, s4, S4, r4, _⟩ := freeze1 S3 h3 hk.2
      refine ih G4 H3 W2 es' _ S4 e3 fun ps G5 H5 s5 S5 r5 => ?_
      exact q _ G5 H5 ((((s1.trans s2).trans s3).trans s4).trans s5) S5 (.cons ⟨Rp.mono (Sub.of ((s3.trans s4).trans s5)) r2, Rp.mono (Sub.of s5) r4⟩ r5)
    · cases e
/-- the object in the making takes its last form -/
theorem Sta.last {p : Addr} {o o' : HO} (S : Sta K (upd B p o) Gb G H σ env W) (hb : B p = none) (hg : G p = none) : Sta K B Gb G (upd H p o') σ env W := by
  have nB : ∀ {q : Addr}, (upd B p o) q = none → q ≠ p ∧ B q = none := fun {q} e => by
    by_cases z : q = p
    · subst z; rw [upd_same] at e; cases e
    · rw [upd_ne z] at e; exact ⟨z, e⟩
  have upH : ∀ {q : Addr} {x : HO}, q ≠ p → H q = some x → (upd H p o') q = some x := fun h e => by rw [upd_ne h]; exact e
  exact {
    sg := fun a x e => by
      rw [upd_ne (show a ≠ p from fun z => by subst z; rw [hg] at e; cases e)]
      exact S.sg _ _ e
    sb := fun a x e => by
      have z : a ≠ p := fun z => by subst z; rw [hb] at e; cases e
      rw [upd_ne z]
      exact S.sb a x (by rw [upd_ne z]; exact e)
    sgb := S.sgb
    gb := fun a x e n => by
      have z : a ≠ p := fun z => by subst z; rw [hb] at e; cases e
      exact S.gb a x (by rw [upd_ne z]; exact e) n
    len := S.len
    pl := S.pl
    ow := fun i d e => by
      obtain ⟨q, x, a1, a2, a3, a4, a5⟩ := S.ow i d e
      exact ⟨q, x, a1, a2, (nB a3).2, upH (nB a3).1 a4, a5⟩
    lk := fun i od x d e => by
      obtain ⟨q, a1, a2, a3, a4, a5⟩ := S.lk i od x d e
      exact ⟨q, a1, a2, (nB a3).2, upH (nB a3).1 a4, a5⟩
    wd := fun i => fun e => by
      obtain ⟨q, l, ns, k, a1, a2, a3, a4, a5⟩ := S.wd i e
      exact ⟨q, l, ns, k, a1, a2, (nB a3).2, upH (nB a3).1 a4, a5⟩
    sc := S.sc
    one := S.one
    sep := S.sep }
theorem disp_core {p : Addr} {o : HO} {fs : List (Ex × Ex)} {es : List (PyData × PyData)} {d : PyData} {Q : VK} {R : List (V × V) → Hp → Prop} (S : Sta K B Gb G H σ env W) (hp : H p = none) (ho : ∀ xs, o ≠ .tup xs) {dd : PyData} (hr : ∀ G, RpO K G o dd) (e : cPairs fs env W = some (es, W')) (c : Cont K B Gb G σ env W' d .fr Q)
    (f : ∀ ps G' H', Same G G' → PP2 K G' ps es → H' p = some o → (∀ o', RpO K G' o' d → Q (.ref p) (upd H' p o')) → (∀ q xs, G' q = some (.tup xs) → H' q = some (.tup xs)) → R ps H') : tPairs (fs.map fun f => (tE K f.1, tE K f.2)) σ (upd H p o) R := by
  obtain ⟨n1, n2, n3⟩ := S.new hp
  have S1 := S.laid (o := o) hp
  have v1 : VOk K B G (upd H p o) σ env (.ref p) dd .fr := ⟨p, o, rfl, n1, n2, upd_same, hr G, n3⟩
  have S2 := S1.prot v1
  rw [prot_fr upd_same] at S2
  refine pairs_tP fs G _ W es _ S2 e fun ps G' H' s' S' r => ?_
  have hH : H' p = some o := S'.sb _ _ upd_same
  have hG : G' p = none := by
    cases q : G' p with
    | none => rfl
    | some x =>
      rcases S'.gb p o upd_same (by rw [q]; simp) with z | ⟨xs, z⟩
      · exact absurd (S.sgb.free n1) z
      · exact absurd z (ho xs)
  refine f ps G' H' s' r hH (fun o' ro => ?_) fun q xs hq => S'.sg _ _ hq
  exact c _ G' _ s' (S'.last n2 hG) ⟨p, o', rfl, hG, n2, upd_same, ro, n3⟩
end
def keyPairs : List (PyData × PyData) → Option (List (Key × PyData))
  | [] => some []
  | (a, b) :: r => (keyOf a).bind fun k => (keyPairs r).map ((k, b) :: ·)
theorem keyPairs_rp {K : PySem.W.Frag} {G : Hp} : ∀ {ps : List (V × V)} {es : List (PyData × PyData)} {qs : List (Key × PyData)}, PP2 K G ps es → keyPairs es = some qs → ∃ kvs : List (Key × V), ps = kvs.map (fun kv => (kV kv.1, kv.2)) ∧ RpP K G kvs qs
  | _, _, qs, .nil, e => by cases e; exact ⟨[], rfl, .nil⟩
  | _, _, qs, @Paired.cons _ _ _ a b as bs h t, e => by
    obtain ⟨x, y⟩ := a
    obtain ⟨u, v⟩ := b
    rw [keyPairs, Option.bind_eq_some_iff] at e
    obtain ⟨k, e1, e2⟩ := e
    rw [Option.map_eq_some_iff] at e2
    obtain ⟨qs', e2, rfl⟩ := e2
    obtain ⟨kvs, rfl, r⟩ := keyPairs_rp t e2
    have ek := keyOf_eq e1
    have h1 : Rp K G x u := h.1
    subst ek
    obtain ⟨ok, rfl⟩ := keyOf_ok h1
    exact ⟨(k, y) :: kvs, rfl, .cons ok h.2 r⟩
def cDisp (fs : List (Ex × Ex)) : Ex := fun env W => (cPairs fs env W).bind fun q => (keyPairs q.1).map fun ps => (.dict (mergeE [] ps), .fr, q.2)
section
variable {X : Cx} {pos : Pos}
theorem ppx_nil : PPs X pos [] [] (([] : List (Ex × Ex)).map fun f => (tE X.K f.1, tE X.K f.2)) := pps_nil
theorem ppx_cons {k v : Expr} {ks : List (Option Expr)} {vs : List Expr} {fk fv : Ex} {fs : List (Ex × Ex)} (hk : PX X k fk) (hv : PX X v fv) (hr : PPs X pos ks vs (fs.map fun f => (tE X.K f.1, tE X.K f.2))) :
    PPs X pos (some k :: ks) (v :: vs) (((fk, fv) :: fs).map fun f => (tE X.K f.1, tE X.K f.2)) := pps_cons hk hv hr
theorem px_disp {keys : List (Option Expr)} {values : List Expr} {fs : List (Ex × Ex)} (h : PPs X pos keys values (fs.map fun f => (tE X.K f.1, tE X.K f.2))) (hall : keys.all (·.isSome) = true := by rfl) (hl : keys.length = values.length := by rfl) (h0 : keys ≠ [] := by intro z; cases z)
    (h15 : fs.length ≤ 15 := by decide) (hk15 : keys.length ≤ 15 := by decide) : PX X (.Dict keys values pos) (cDisp fs) :=
  PE.imp (pe_disp h hall hl h0 hk15) fun σ H Q q => by
    obtain ⟨B, Gb, G, env, W, d, k, W', S, e, c⟩ := q
    unfold cDisp at e
    rw [Option.bind_eq_some_iff] at e
    obtain ⟨⟨es, W1⟩, e1, e2⟩ := e
    rw [Option.map_eq_some_iff] at e2
    obtain ⟨qs, e2, e3⟩ := e2
    cases e3
    intro p hp
    refine disp_core S hp (fun _ z => nomatch z) (dd := .dict []) (fun _ => (RpD.nil : RpD _ _ [] [])) e1 c fun ps G' H' s' r hH hq _ => ?_
    obtain ⟨kvs, rfl, rr⟩ := keyPairs_rp r e2
    refine ⟨hH, kvs, rfl, ?_, hq _ (show RpO X.K G' (.dK (mergeK [] kvs)) (.dict (mergeE [] qs)) from RpP.merge rr .nil)⟩
    have hlen : ∀ {fs : List (Ex × Ex)} {W : List Int} {es : List (PyData × PyData)} {W' : List Int}, cPairs fs env W = some (es, W') → es.length = fs.length := by
      intro fs
      induction fs with
      | nil => intro W es W' e; cases e; rfl
      | cons f fs ih =>
        intro W es W' e
        rw [cPairs, Option.bind_eq_some_iff] at e
        obtain ⟨a, _, e⟩ := e
        rw [Option.bind_eq_some_iff] at e
        obtain ⟨b, _, e⟩ := e
        split at e
        · rw [Option.map_eq_some_iff] at e
          obtain ⟨q, e4, e5⟩ := e
          cases e5
          rw [List.length_cons, List.length_cons, ih e4]
        · cases e
    have h1 := hlen e1
    have h2 := Paired.length r
    rw [List.length_map] at h2
    omega
end
end PX

namespace PX
open PySem PySem.Spec PyProof.Rows L2
/-! ### texts of the module, str(i), l.index(x) -/
section
variable {X : Cx} {pos : Pos}
theorem px_globS {x : Str} {s : Str} (hg : Gl X x) (hm : ∃ t, X.mg x = some (.str s t)) (hs : PyData.strOk s = true := by decide +kernel) (hd : (x == ("__debug__" : Str)) = false := by decide) : PX X (.Name x pos) (cK (.str s)) := by
  obtain ⟨t, hm⟩ := hm
  exact px_c (pe_glob (v := .str s) hg hm ⟨t, rfl⟩ hd) fun _ => .str s hs
end
def strI (i : Int) : Str := toString i
def oStr : Op
  | [(.int i, _)] => if i.natAbs.log2 < 1920 ∧ PyData.strOk (strI i) = true then some (.str (strI i), .im) else none
  | _ => none
theorem so_str {X : Cx} : CallR X (.type "str") (rV X.K oStr) := by
  intro pins s σ H xs us Q I r h
  obtain ⟨B, Gb, G, σ1, env, W, ds, d, k, S, p, e, c⟩ := h
  unfold oStr at e
  split at e
  · match xs, p with
    | [x], p =>
      split at e
      · rename_i hn
        cases e
        have ex := p.1.int S
        subst ex
        exact call_str_int pins s σ H _ us Q I r ⟨_, rfl, hn.1, c.str S hn.2⟩
      · cases e
  · cases e
def idxD (x : PyData) (ds : List PyData) : Option Nat := ds.findIdx? fun z => PyData.eqv z x
def oIndexL : Op
  | [(.list ds, _), (d, _)] => if flat (.list ds) = true ∧ flat d = true then (idxD d ds).map fun j => (.int (j : Nat), .im) else none
  | _ => none
theorem px_index {X : Cx} {a b : Expr} {f g : Ex} {apos cpos : Pos} (hu : X.A.units + 200 < cLine) (ho : PX X a f) (hb : PX X b g)
    (hbase : attributeBase a "index" X.env (eval a X.env) = eval a X.env := by rfl)
    (hfew : ((backTo cpos (starEach [b] X.env)).all (fun x => !x.1) && (backToKw cpos (keywordEach [] X.env)).all (fun x => x.1.isSome)
      && decide (([b] : List Expr).length + ([] : List Keyword).length + (if ([] : List Keyword).isEmpty then 0 else 1) < 30)) = true := by rfl)
    (hline : (apos.endLine == cpos.line) = true := by rfl) (hs : starEach [b] X.env = (false, eval b X.env) :: starEach [] X.env := by rfl) (hplain : (backTo cpos (starEach [] X.env)).any (·.1) = false := by rfl) :
    PX X (.Call (.Attribute a "index" apos) [b] [] cpos) (cCall oIndexL [f, g]) :=
  PE.imp (pe_bm PySem.F.plainAttrs_list PySem.F.slot_list_index PySem.F.type_list_index (mt_indexD (by omega)) ho (pxs_cons hb pxs_nil hs) hbase hfew hline hs hplain) fun σ H Q q => by
    obtain ⟨B, Gb, G, env, W, d, k, W', S, e, c⟩ := q
    obtain ⟨d1, k1, W1, d2, k2, e1, e2, e3⟩ := cCall_two e
    unfold oIndexL at e3
    split at e3
    · rename_i q
      cases q
      split at e3
      · rename_i hf
        rw [Option.map_eq_some_iff] at e3
        obtain ⟨j, e4, e5⟩ := e3
        cases e5
        refine ⟨B, Gb, G, env, W, _, _, W1, S, e1, fun v1 G1 H1 s1 S1 h1 => ?_⟩
        obtain ⟨x, xs, rfl, hx, rx⟩ := h1.list S1
        refine ⟨.inl ⟨rfl, xs, .of hx⟩, PX.prot H1 (.ref x) k1 B, Gb, G1, env, W1, [(d2, k2)], W', S1.prot h1, by simp only [cArgs, e2, Option.bind_some, Option.map_some], fun vs G2 H2 s2 S2 p2 => ?_⟩
        match vs, p2 with
        | [v], p2 =>
          have h1' := VOk.kept S1 h1 s2 S2
          have S2' := S2.unprot (prot_same h1)
          have h2' := p2.1.base (prot_same h1)
          obtain ⟨dp1, sh1⟩ := flat_shaped (h1'.rp S2') hf.1
          obtain ⟨dp2, sh2⟩ := flat_shaped (h2'.rp S2') hf.2
          unfold idxD at e4
          rw [List.findIdx?_eq_some_iff_getElem] at e4
          obtain ⟨hj, hz, hn⟩ := e4
          exact ⟨x, v, _, _, j, _, rfl, rfl, dp1, dp2, sh1, sh2, List.getElem?_eq_getElem hj, hz, fun m z' hm hz' => by
            have hmj : m < _ := Nat.lt_trans hm hj
            rw [List.getElem?_eq_getElem hmj] at hz'
            cases hz'
            have := hn m hm
            simpa using this, (c.sub (s1.trans s2)).int S2'⟩
      · cases e3
    · cases e3
/-! ### {} of either sort, compared -/
theorem index_S {x : Str} {xs : List Str} {j : Nat} (hj : xs[j]? = some x) (hn : ∀ m, m < j → xs[m]? ≠ some x) (k k' : Kd) : oIndexL [(.list (xs.map PyData.str), k), (.str x, k')] = some (.int (j : Nat), .im) := by
  have h1 : flat (.list (xs.map PyData.str)) = true := flatSL xs
  have h2 : flat (.str x) = true := flat_D (α := Str) (by decide) x
  show (if flat (.list (xs.map PyData.str)) = true ∧ flat (.str x) = true then _ else _) = _
  rw [if_pos ⟨h1, h2⟩]
  have e : idxD (.str x) (xs.map PyData.str) = some j := by
    unfold idxD
    rw [List.findIdx?_eq_some_iff_getElem]
    obtain ⟨hl, he⟩ := List.getElem?_eq_some_iff.mp hj
    refine ⟨by rw [List.length_map]; exact hl, ?_, fun m hm => ?_⟩
    · rw [List.getElem_map, he, eqv_str]; simp
    · rw [List.getElem_map, eqv_str]
      have hml : m < xs.length := by omega
      have := hn m hm
      rw [List.getElem?_eq_getElem hml] at this
      simp only [decide_eq_false_iff_not, Bool.not_eq_true, decide_eq_true_eq]
      exact fun z => this (by rw [z])
  rw [e]
  rfl
end PX

namespace PX
open PySem PySem.Spec PyProof.Rows L2
/-! ### xs != [], xs a list of anything -/
def oNeL : Op
  | [(.list ds, _), (.list [], _)] => some (.bool (!ds.isEmpty), .im)
  | _ => none
theorem so_neL {X : Cx} (hu : X.A.units + 200 < cLine) : OpR X (compareOp .NotEq) (fun x y => rV X.K oNeL [x, y]) := by
  intro pins s σ H x y v u Q I rx ry h
  obtain ⟨B, Gb, G, σ1, env, W, d1, k1, d2, k2, d, k, S, h1, h2, ap, e, c⟩ := rV.two h
  unfold oNeL at e
  split at e
  · rename_i ds e3 e4 q
    cases q
    cases e
    obtain ⟨a, xs, rfl, ha, ra⟩ := h1.list S
    obtain ⟨b, ys, rfl, hb, rb⟩ := h2.list S
    cases rb
    cases rx
    cases ry
    obtain ⟨its, rv, ⟨⟨cls, dd, data, sl⟩, n, ho, hc, hdn, hdt⟩, hz⟩ := I.list (show SqL X.K H a xs from .of ha)
    obtain ⟨its2, rv2, ⟨⟨cls2, dd2, data2, sl2⟩, n2, ho2, hc2, hdn2, hdt2⟩, hz2⟩ := I.list (show SqL X.K H b [] from .of hb)
    simp only at hc hdt hc2 hdt2
    subst hc hdt hc2 hdt2
    cases rv2
    have ty1 : s.TypeIs (.ref a) "list" := ⟨_, ho, rfl⟩
    have ty2 : s.TypeIs (.ref b) "list" := ⟨_, ho2, rfl⟩
    have l1 : its.length = ds.length := by rw [← rv.length, ra.length]
    cases ds with
    | nil =>
      have e0 : its = [] := List.length_eq_zero_iff.mp l1
      subst e0
      refine wpAny_richCompare_same_room (T := "list") (op := .NotEq) ty1 ty2 PySem.F.slot_list_ne (call_meets PySem.F.slot_list_ne ty1 PySem.F.entry_list_ne (PySem.F.args_list_ne_2 _ _) (SeqAt.list_neAt a b #[] #[] n n2 dd dd2 sl sl2 rfl (fun _ => true)) ⟨ho, ho2, fun j h1 => absurd h1 (Nat.not_lt_zero j), ?_⟩) (by omega)
      exact ⟨(fun z => nomatch z), .bl false, H, I, rfl, c.bool S⟩
    | cons x r =>
      have hne : (its.toArray.size != (([] : List Value).toArray).size) = true := by
        rw [List.size_toArray, l1]
        simp
      refine wpAny_richCompare_same_room (T := "list") (op := .NotEq) ty1 ty2 PySem.F.slot_list_ne (call_meets PySem.F.slot_list_ne ty1 PySem.F.entry_list_ne (PySem.F.args_list_ne_2 _ _) (SeqAt.list_ne_lengthsAt a b its.toArray ([] : List Value).toArray n n2 dd dd2 sl sl2 hne) ⟨ho, ho2, ?_⟩) (by omega)
      exact ⟨(fun z => nomatch z), .bl true, H, I, rfl, c.bool S⟩
  · cases e
theorem neLnil {ds : List PyData} (k k' : Kd) : oNeL [(.list ds, k), (.list [], k')] = some (.bool (!ds.isEmpty), .im) := rfl
end PX

namespace PX
open PySem PySem.Spec PyProof.Rows L2
/-! ### min(a, b), both tuples -/
section
variable {prog : Program} {w : World} {A : Around} {E : Value → Shared → Prop} {s : Shared}
theorem min_two_data {a b : Value} {x y : PyData} {as : List Addr} {Q : Value → Shared → Prop} (hh : A.handled = none) (hr : ReadsAll s.heap [a, b] [x, y] as) (ha : PySem.W.AlikeAll [x, y]) (hu : A.units + 1 + PyData.depthAll [x, y] < cLine)
    (h : ∀ (i : Nat) v h' tk bs, #[a, b][i]? = some v → Reads h' v (PySem.W.minD x [y]) bs → (∀ b o, s.heap.get? b = some o → h'.get? b = some o) → Q v { s with heap := h', toks := tk }) :
    wpAny (model prog w) A (call (.builtin "min") [a, b]) Q E s := by
  have hname : (toString "min" ++ toString ".loop" : String) = "min.loop" := by decide
  refine call_function_tree F.kind_min F.plain_min F.entry_min (F.args_min2 _ _) ?_
  show wpAny _ A.in1 (Builtin.Builtins.bindParams "min" ["key", "default"] 0 ⟨[], []⟩ >>= _) _ _ s
  refine wpAny_bind (wpAny_of_eq (show Builtin.Builtins.bindParams "min" ["key", "default"] 0 ⟨[], []⟩ = pure [none, none] from rfl) ?_)
  show wpAny _ A.in1 (newTuple [a, b] >>= _) _ _ s
  refine wpAny_bind (wpAny_newObj_type ?_)
  have hT : (s.heap.push { cls := .type "tuple", data := .seq #[a, b] }).IsTuple s.heap.objs.size #[a, b] := ⟨_, Heap.get?_push_size _ rfl, rfl, 0, rfl⟩
  have kp : ∀ c o, s.heap.get? c = some o → (s.heap.push { cls := .type "tuple", data := .seq #[a, b] }).get? c = some o := fun c o e => Heap.get?_push_of_some _ e
  have hr1 : ReadsAll (s.heap.push { cls := .type "tuple", data := .seq #[a, b] }) (#[a, b] : Array Value).toList [x, y] as := ReadsAll.keeps kp hr
  refine wpAny_bind (PySem.W.iter_tupleW (A := A.in1) (s := { s with heap := s.heap.push { cls := .type "tuple", data := .seq #[a, b] } }) hh hT fun s₂ e W hst hfp hw hk => ?_)
  refine wpAny_bind (wpAny_newObj_type ?_)
  have hSf : s₂.heap.objs.size ∉ _ := fun hm => Nat.lt_irrefl _ (hfp _ hm)
  rw [hname]
  refine wpAny_pure ⟨plainId_quiet F.plain_min_loop _, PySem.codeAny_min_loop_firstH W (s.heap.push { cls := .type "tuple", data := .seq #[a, b] }) hw _ (PySem.W.cmpIn_lt (A := A.in1) (s := { s with heap := s.heap.push { cls := .type "tuple", data := .seq #[a, b] } }) hr1 ha hu) s₂.heap.objs.size hSf (PySem.fresh_in hk) _ (show 0 < 2 by decide) (fun b o e => Heap.get?_push_of_some _ (hk b o e)) (W.frame 0 s₂ _ s₂.toks hst (Nat.le_refl _) fun b _ o e => Heap.get?_push_of_some _ e) (Heap.get?_push_size _ rfl) fun v s' hP hm => ?_⟩
  obtain ⟨h', tk, rfl, hk'⟩ := PySem.W.moved_old e rfl (Moved.drop_new (tk := s₂.toks) hm (Nat.le_refl _))
  obtain ⟨bs, r, _, _, _⟩ := PySem.W.readsAll_atA hr1 _ v hP
  have e2 := (PySem.W.argBest_fold PySem.W.dataLt PyData.none x [y] 1 (Nat.le_refl _)).2
  have e3 : [x, y].getD (argBest (fun i j => PySem.W.dataLt ([x, y].getD i .none) ([x, y].getD j .none)) 1) PyData.none = PySem.W.minD x [y] := by rw [e2]; rfl
  exact h _ v h' tk bs hP (PySem.W.reads_keeps hk' (e3 ▸ r)) fun c o e => hk' c o (kp c o e)
end
def oMinT : Op
  | [(.tuple a, _), (.tuple b, _)] => if minOk [.tuple a, .tuple b] then some (PySem.W.minD (.tuple a) [.tuple b], .im) else none
  | _ => none
theorem so_min2 {X : Cx} (hc : X.calm = true) (hu : X.A.units + 200 < cLine) : CallR X (.builtin "min") (rV X.K oMinT) := by
  intro pins s σ H xs us Q I r h
  obtain ⟨B, Gb, G, σ1, env, W, ds, d, k, S, p, e, c⟩ := h
  unfold oMinT at e
  split at e
  · match xs, p with
    | [x, y], p =>
      split at e
      · rename_i hs
        cases e
        obtain ⟨k1, k2⟩ := minOk_of hs
        obtain ⟨a, ys, rfl, h1, h2⟩ := p.1.tuple S
        obtain ⟨b, zs, rfl, h3, h4⟩ := p.2.2.1.tuple S
        have hrp : RpL X.K G [V.ref a, V.ref b] [.tuple _, .tuple _] := .cons (.tup h1 h2) (.cons (.tup h3 h4) .nil)
        obtain ⟨as, hra⟩ := ((RpL.mono (Sub.of S.sg) hrp).reads I (flat_all k1) r).1
        cases r with
        | cons r1 r2 =>
          cases r2 with
          | cons r2 r3 =>
            cases r3
            exact min_two_data (I.ok.hd hc) hra k2 (by have := depth_all k1; omega) fun i u h' tk bs hi hr hk => pick_of I S (fun x hx => c.im S hx) hrp (.cons r1 (.cons r2 .nil)) k1 (noD_mem k1 (minD_mem _ _)) (by simpa using hi) hr hk
      · cases e
  · cases e
/-! ### a > b, a < b, both tuples -/
def oGtT : Op
  | [(.tuple a, _), (.tuple b, _)] => if minOk [.tuple a, .tuple b] then some (.bool (PySem.W.dataLt (.tuple b) (.tuple a)), .im) else none
  | _ => none
theorem so_gtT {X : Cx} (hu : X.A.units + 200 < cLine) : OpR X (compareOp .Gt) (fun x y => rV X.K oGtT [x, y]) := by
  intro pins s σ H x y v u Q I rx ry h
  obtain ⟨B, Gb, G, σ1, env, W, d1, k1, d2, k2, d, k, S, h1, h2, ap, e, c⟩ := rV.two h
  unfold oGtT at e
  split at e
  · rename_i q
    cases q
    split at e
    · rename_i hs
      cases e
      obtain ⟨f1, f2⟩ := minOk_of hs
      obtain ⟨a, ys, rfl, g1, g2⟩ := h1.tuple S
      obtain ⟨b, zs, rfl, g3, g4⟩ := h2.tuple S
      have hrp : RpL X.K G [V.ref a, V.ref b] [.tuple _, .tuple _] := .cons (.tup g1 g2) (.cons (.tup g3 g4) .nil)
      obtain ⟨as, hra⟩ := ((RpL.mono (Sub.of S.sg) hrp).reads I (flat_all f1) (.cons rx (.cons ry .nil))).1
      cases hra with
      | cons r1 r2 =>
        cases r2 with
        | cons r2 r3 =>
          have dd := depth_all f1
          refine PySem.W.gt_data r1 r2 (f2.1 _ List.mem_cons_self _ (List.mem_cons_of_mem _ List.mem_cons_self)) (fun z => nomatch z) ?_ ⟨.bl _, H, I, rfl, c.bool S⟩
          have h3 := flat_depth (List.all_eq_true.mp f1 _ List.mem_cons_self)
          have h4 := Nat.min_le_left (PyData.tuple ‹_›).depth (PyData.tuple ‹_›).depth
          omega
    · cases e
  · cases e
/-! ### len(set(e)), sorted(set(e)), e texts -/
def oSortSetS : Op
  | [(.list ds, _)] => (strsOf ds).bind fun ns => if ns.length ≤ 1000 then some (.list ((sortS (ddL ns)).map PyData.str), .fr) else none
  | [(.tuple ds, _)] => (strsOf ds).bind fun ns => if ns.length ≤ 1000 then some (.list ((sortS (ddL ns)).map PyData.str), .fr) else none
  | _ => none
def oLenSetS : Op
  | [(.list ds, _)] => (strsOf ds).bind fun ns => if ns.length ≤ 1000 then some (.int (ddL ns).length, .im) else none
  | [(.tuple ds, _)] => (strsOf ds).bind fun ns => if ns.length ≤ 1000 then some (.int (ddL ns).length, .im) else none
  | _ => none
theorem strs_seq {K : PySem.W.Frag} {B Gb G H : Hp} {σ : L2.St} {env : SEnv} {W : List Int} {v : V} {ds : List PyData} {ns : List Str} {k : Kd} {d : PyData} (S : Sta K B Gb G H σ env W) (h : VOk K B G H σ env v d k) (hd : d = .list ds ∨ d = .tuple ds) (hn : ds = ns.map PyData.str) :
    ∃ l, v = .ref l ∧ (SqL K H l (ns.map V.str) ∨ SqT K H l (ns.map V.str)) ∧ ∀ x ∈ ns, PyData.strOk x = true := by
  subst hn
  rcases hd with rfl | rfl
  · obtain ⟨a, xs, rfl, ha, r⟩ := h.list S
    have ok := r.strOks
    rw [RpL.of_strs r] at ha
    exact ⟨a, rfl, .inl (.of ha), ok⟩
  · obtain ⟨a, xs, rfl, ha, r⟩ := h.tuple S
    have ok := r.strOks
    rw [RpL.of_strs r] at ha
    exact ⟨a, rfl, .inr ((Sub.of S.sg).sqT ha.sqT), ok⟩
theorem oLenSetS_of {d1 d : PyData} {k1 k : Kd} (e : oLenSetS [(d1, k1)] = some (d, k)) : ∃ ds ns, (d1 = .list ds ∨ d1 = .tuple ds) ∧ strsOf ds = some ns ∧ ns.length ≤ 1000 ∧ d = .int (ddL ns).length ∧ k = .im := by
  unfold oLenSetS at e
  split at e <;> first | (cases e; done) | skip
  all_goals
    rename_i q; cases q
    rw [Option.bind_eq_some_iff] at e
    obtain ⟨ns, hi, e2⟩ := e
    split at e2
    · rename_i hl
      cases e2
      first | exact ⟨_, _, .inl rfl, hi, hl, rfl, rfl⟩ | exact ⟨_, _, .inr rfl, hi, hl, rfl, rfl⟩
    · cases e2
theorem oSortSetS_of {d1 d : PyData} {k1 k : Kd} (e : oSortSetS [(d1, k1)] = some (d, k)) : ∃ ds ns, (d1 = .list ds ∨ d1 = .tuple ds) ∧ strsOf ds = some ns ∧ ns.length ≤ 1000 ∧ d = .list ((sortS (ddL ns)).map PyData.str) ∧ k = .fr := by
  unfold oSortSetS at e
  split at e <;> first | (cases e; done) | skip
  all_goals
    rename_i q; cases q
    rw [Option.bind_eq_some_iff] at e
    obtain ⟨ns, hi, e2⟩ := e
    split at e2
    · rename_i hl
      cases e2
      first | exact ⟨_, _, .inl rfl, hi, hl, rfl, rfl⟩ | exact ⟨_, _, .inr rfl, hi, hl, rfl, rfl⟩
    · cases e2
/-- sorted of a set of texts -/
def rSortS (P : Program) (w : World) (K : PySem.W.Frag) : List V → Hp → VK → Prop := fun vs H Q => ∃ (a : Addr) (L : List Str), vs = [V.ref a] ∧ H a = some (SetSO P w a L) ∧ (∀ x ∈ L, PyData.strOk x = true) ∧ ∀ p, H p = none → Q (.ref p) (upd H p (.lst ((sortS L).map V.str)))
theorem cr_sortS {X : Cx} (hc : X.calm = true) (hu : X.A.units + 200 < cLine) : CallR X (.builtin "sorted") (rSortS X.prog X.w X.K) := by
  intro pins s σ H xs us Q I r h
  obtain ⟨a, L, rfl, ha, hok, q⟩ := h
  rw [Vals.ref1 r]
  obtain ⟨o, es, ep, t, ks, ho, hex, hd, hg, hp, nd, hb, hf, hr, hl⟩ := (I.hok a _ ha).1
  have hes : es.size = L.length := by rw [← Array.length_toList, ← paired_len hg, hp.length_eq]
  refine sortedG_run I hc hu (L := L) (fun A E' Q' hh hQ => ?_) (fun ks' hp' => RpL.strs_mk fun y hy => hok y (hp'.mem_iff.mp hy)) (by unfold scanBound at hb; rw [sizeLine_eq]; omega) q
  refine collect_set (A := A) hh ⟨o, ho, hex.1, hd⟩ hf hb hr hl fun s1 vs k1 hz g1 o1 pm => ?_
  obtain ⟨ks', p', hv⟩ := vals_perm hg pm
  exact hQ s1 vs ks' k1 g1 o1 (p'.trans hp) hv
section
variable {X : Cx} {a : Expr} {f : Ex} {p p2 q pos : Pos}
theorem px_lenSetS (hc : X.calm = true) (hg : Gl X "len") (hm : X.mg "len" = none) (hg2 : Gl X "set") (hm2 : X.mg "set" = none) (ha : PX X a f) (na : starEach [a] X.env = (false, eval a X.env) :: starEach [] X.env := by rfl)
    (nb : starEach [Expr.Call (.Name "set" p2) [a] [] q] X.env = (false, eval (.Call (.Name "set" p2) [a] [] q) X.env) :: starEach [] X.env := by rfl) : PX X (.Call (.Name "len" p) [.Call (.Name "set" p2) [a] [] q] [] pos) (cCall oLenSetS [f]) :=
  PE.imp (pe_callB cr_lenSetS hg hm PySem.boot_len (pa_cons (pe_callTy (cr_setS hc) hg2 hm2 PyProof.Rows.boot_set (pa_cons ha pa_nil na) (by decide) (by decide) na rfl) pa_nil nb) (by decide) (by decide) nb rfl) fun σ H Q h => by
    obtain ⟨B, Gb, G, env, W, d, k, W', S, e, c⟩ := h
    obtain ⟨d1, k1, e1, e2⟩ := cCall_one e
    obtain ⟨ds, ns, hd, hi, hl, rfl, rfl⟩ := oLenSetS_of e2
    refine ⟨B, Gb, G, env, W, d1, k1, W', S, e1, fun v G1 H1 s1 S1 h1 => ?_⟩
    obtain ⟨l, rfl, hq, _⟩ := strs_seq S1 h1 hd (strsOf_eq hi)
    exact ⟨l, ns, rfl, hq, hl, fun p hp => ⟨p, _, rfl, upd_same, (c.sub s1).int (S1.laid hp)⟩⟩
theorem px_sortSetS (hc : X.calm = true) (hu : X.A.units + 200 < cLine) (hg : Gl X "sorted") (hm : X.mg "sorted" = none) (hg2 : Gl X "set") (hm2 : X.mg "set" = none) (ha : PX X a f) (na : starEach [a] X.env = (false, eval a X.env) :: starEach [] X.env := by rfl)
    (nb : starEach [Expr.Call (.Name "set" p2) [a] [] q] X.env = (false, eval (.Call (.Name "set" p2) [a] [] q) X.env) :: starEach [] X.env := by rfl) : PX X (.Call (.Name "sorted" p) [.Call (.Name "set" p2) [a] [] q] [] pos) (cCall oSortSetS [f]) :=
  PE.imp (pe_callB (cr_sortS hc hu) hg hm PyProof.Rows.boot_sorted (pa_cons (pe_callTy (cr_setS hc) hg2 hm2 PyProof.Rows.boot_set (pa_cons ha pa_nil na) (by decide) (by decide) na rfl) pa_nil nb) (by decide) (by decide) nb rfl) fun σ H Q h => by
    obtain ⟨B, Gb, G, env, W, d, k, W', S, e, c⟩ := h
    obtain ⟨d1, k1, e1, e2⟩ := cCall_one e
    obtain ⟨ds, ns, hd, hi, hl, rfl, rfl⟩ := oSortSetS_of e2
    refine ⟨B, Gb, G, env, W, d1, k1, W', S, e1, fun v G1 H1 s1 S1 h1 => ?_⟩
    obtain ⟨l, rfl, hq, ok⟩ := strs_seq S1 h1 hd (strsOf_eq hi)
    refine ⟨l, ns, rfl, hq, hl, fun p hp => ⟨p, _, rfl, upd_same, fun x hx => ok x (ddL_mem.mp hx), fun p' hp' => ?_⟩⟩
    exact (c.sub s1).fr (S1.laid hp) hp' (show RpO _ _ (.lst _) (.list _) from RpL.strs_mk fun y hy => ok y (ddL_mem.mp (sortS_mem.mp hy)))
end
end PX

namespace PX
open PySem PySem.Spec PyProof.Rows L2
/-! ### rows: tuples that are known to have no dict of their own -/
def RW (ds : List PyData) : PyData := .dict (rowE ds)
def rowOf : PyData → Option (List PyData)
  | .dict ((.none, _) :: fs) => some (fs.map (·.2))
  | _ => none
theorem rowOf_RW (ds : List PyData) : rowOf (RW ds) = some ds := by
  show some ((ds.map fun d => ((PyData.none, d) : PyData × PyData)).map (·.2)) = some ds
  rw [List.map_map]
  congr 1
  exact List.map_id ds
theorem rowOf_isT {d : PyData} {ds : List PyData} (h : rowOf d = some ds) : ∃ es, d = .dict es ∧ isT es = true := by
  unfold rowOf at h
  split at h
  · exact ⟨_, rfl, rfl⟩
  · cases h
section
variable {X : Cx} {K : PySem.W.Frag} {B Gb G H : Hp} {σ : L2.St} {env : SEnv} {W : List Int} {v : V} {k : Kd} {d : PyData} {ds : List PyData} {pins : List (Addr × Obj)} {s : Shared}
theorem VOk.rowAt (S : Sta K B Gb G H σ env W) (h : VOk K B G H σ env v d k) (hr : rowOf d = some ds) : ∃ a ob xs, v = .ref a ∧ H a = some (.frz ob (.tup xs)) ∧ ob.dict = Option.none ∧ RpL K G xs ds := by
  obtain ⟨es, rfl, ht⟩ := rowOf_isT hr
  obtain ⟨a, ob, xs, ds', e, e2, g, hd, r⟩ := h.row S ht
  have : rowOf (.dict es) = some ds' := by rw [e2]; exact rowOf_RW ds'
  rw [hr] at this
  cases this
  exact ⟨a, ob, xs, e, g, hd, r⟩
theorem row_sqT {a : Addr} {ob : Obj} {xs : List V} (h : H a = some (.frz ob (.tup xs))) : SqT K H a xs := .inl (.inr ⟨ob, h⟩)
theorem row_reads (I : Inv X pins σ H s) {a : Addr} {ob : Obj} {xs : List V} (h : H a = some (.frz ob (.tup xs))) (r : RpL X.K H xs ds) (n : noDs ds = true) : (∃ as, Reads s.heap (.ref a) (.tuple ds) as) ∧ PyData.canLayAll0 ds = true := by
  have q := RpL.dp r n
  exact ⟨Dp.reads I (.tuple ds) (.ref a) (.ref a) (.tup (row_sqT h) q.1) rfl, q.2⟩
end
def oInR : Op
  | [(x, _), (d, _)] => match rowOf d with
    | some ds => if flat x && ds.all flat then some (.bool (ds.any fun z => PyData.eqv z x), .im) else none
    | none => none
  | _ => none
theorem so_inR {X : Cx} (hu : X.A.units + 200 < cLine) : OpR X (compareOp .In) (fun x y => rV X.K oInR [x, y]) := by
  intro pins s σ H x y v u Q I rx ry h
  obtain ⟨B, Gb, G, σ1, env, W, d1, k1, d2, k2, d, k, S, h1, h2, ap, e, c⟩ := rV.two h
  unfold oInR at e
  dsimp only at e
  split at e
  · rename_i ds hr
    split at e
    · rename_i f
      cases e
      rw [Bool.and_eq_true] at f
      obtain ⟨⟨as, r1⟩, l1⟩ := (h1.rp S).reads I (flat_noD f.1) rx
      obtain ⟨a, ob, xs, rfl, g, hd, rl⟩ := h2.rowAt S hr
      cases ry
      obtain ⟨⟨bs, r2⟩, l2⟩ := row_reads I g (RpL.mono (Sub.of S.sg) rl) (flat_all f.2)
      exact SeqAt.in_tuple_reads r2 r1 l2 l1 (by have := flat_depth f.1; omega) ⟨.bl _, H, I, rfl, c.bool S⟩
    · cases e
  · cases e
def oLenR : Op
  | [(d, _)] => (rowOf d).map fun ds => (.int ds.length, .im)
  | _ => none
theorem so_lenR {X : Cx} : CallR X (.builtin "len") (rV X.K oLenR) := by
  intro pins s σ H xs us Q I r h
  obtain ⟨B, Gb, G, σ1, env, W, ds, d, k, S, p, e, c⟩ := h
  unfold oLenR at e
  split at e
  · match xs, p with
    | [x], p =>
      rw [Option.map_eq_some_iff] at e
      obtain ⟨ds, hr, e⟩ := e
      cases e
      obtain ⟨a, ob, ys, rfl, g, hd, rl⟩ := p.1.rowAt S hr
      refine call_len_seq pins s σ H _ us Q I r ⟨a, ys, rfl, .inr (row_sqT g), ?_⟩
      rw [rl.length]
      exact c.im S (.int _)
  · cases e
def oSortedR : Op
  | [(d, _)] => match rowOf d with
    | some ds => if sortB ds then some (.list (sortD ds), .fr) else none
    | none => none
  | _ => none
theorem so_sortedR {X : Cx} (hc : X.calm = true) (hu : X.A.units + 200 < cLine) : CallR X (.builtin "sorted") (rV X.K oSortedR) := by
  intro pins s σ H xs us Q I r h
  obtain ⟨B, Gb, G, σ1, env, W, ds, d, k, S, p, e, c⟩ := h
  unfold oSortedR at e
  split at e
  · match xs, p with
    | [x], p =>
      split at e
      · rename_i ds hr
        split at e
        · rename_i hs
          cases e
          obtain ⟨a, ob, ys, rfl, g, hd, rl⟩ := p.1.rowAt S hr
          obtain ⟨u, rfl, ru⟩ := vals_one r
          cases ru
          exact sorted_run I hc hu (coll_tup I (row_sqT g)) (RpL.mono (Sub.of S.sg) rl) hs (I.tuple (row_sqT g)).choose_spec.2.2 fun p' ys' hp hr => c.fr S hp (hr _ _ rl)
        · cases e
      · cases e
  · cases e
def oIxR : Op
  | [(d, _), (.int i, _)] => (rowOf d).bind fun ds => (atI ds i).map fun d => (d, .im)
  | _ => none
theorem px_ixR {X : Cx} {a b : Expr} {f g : Ex} {pos : Pos} (ha : PX X a f) (hb : PX X b g) (hs : PlainIx b := by intro _ _; rfl) : PX X (.Subscript a b pos) (cCall oIxR [f, g]) := by
  refine ⟨fun pins s σ H Q I q => ?_⟩
  obtain ⟨B, Gb, G, env, W, d, k, W', S, e, c⟩ := q
  obtain ⟨d1, k1, W1, d2, k2, e1, e2, e3⟩ := cCall_two e
  unfold oIxR at e3
  split at e3
  · rename_i q
    cases q
    rw [Option.bind_eq_some_iff] at e3
    obtain ⟨ds, hr, e3⟩ := e3
    rw [Option.map_eq_some_iff] at e3
    obtain ⟨d', e3, e4⟩ := e3
    cases e4
    refine (pe_ix ix_tup ha hb hs).run pins s σ H Q I ⟨B, Gb, G, env, W, _, _, W1, S, e1, fun v1 G1 H1 s1 S1 h1 => step2 S1 h1 e2 fun v2 G2 H2 s2 S2 h1' h2' ne => ?_⟩
    obtain ⟨p, ob, xs, rfl, hx, hd, rx⟩ := h1'.rowAt S2 hr
    obtain rfl := h2'.int S2
    obtain ⟨v, hv, rv⟩ := rx.atI e3
    exact ⟨p, xs, _, v, rfl, rfl, row_sqT hx, hv, (c.sub (s1.trans s2)).im S2 rv⟩
  · cases e3
def iSeqR (f : Ex) : Ci := fun env W => match f env W with
  | some (d, .im, W') => (rowOf d).map fun ds => (ds, .im, W')
  | _ => none
theorem pix_seqR {X : Cx} {tg : Expr} {e : Expr} {f : Ex} (he : PX X e f) : PIX X tg e (iSeqR f) := PI.imp (PI.hok (pi_seq he)) fun σ H R q => by
  obtain ⟨B, Gb, G, env, W, ds, k, W', S, e, c⟩ := q
  unfold iSeqR at e
  split at e
  · rename_i d W1 e1
    rw [Option.map_eq_some_iff] at e
    obtain ⟨ds', hr, e⟩ := e
    cases e
    refine ⟨B, Gb, G, env, W, _, .im, _, S, e1, fun v G1 H1 s1 S1 h1 => ?_⟩
    have h1 : Rp X.K G1 v d := h1
    obtain ⟨es, rfl, ht⟩ := rowOf_isT hr
    cases h1 with
    | dK ha rd => rw [rd.notT] at ht; exact absurd ht Bool.false_ne_true
    | @dT a ob xs ds2 _ ee ha hd rl =>
      have : rowOf (.dict es) = some ds2 := by rw [ee]; exact rowOf_RW ds2
      rw [hr] at this
      cases this
      have q1 : ∀ {G3 H3 : Hp}, Same G1 G3 → Same G3 H3 → SqT X.K H3 a xs := fun s3 s4 => row_sqT (s4 _ _ (s3 _ _ ha))
      refine ⟨a, rfl, .inr ⟨⟨xs, q1 (Same.refl _) S1.sg⟩, fun L => ?_⟩⟩
      have hl := L.t a xs (q1 (Same.refl _) S1.sg)
      refine c _ G1 H1 _ s1 S1 iw_tup (fun B3 Gb3 G3 H3 σ3 env3 W3 s3 S3 _ => ⟨xs, q1 s3 S3.sg, RpL.mono (Sub.of s3) rl⟩) ?_
      rw [← rl.length]
      rwa [sizeLine_eq] at hl
  · cases e
/-! ### row.index(x), texts -/
theorem items_S {A : Around} {s : Shared} (y : Str) (ty : Tok) : ∀ {xs : List Str} {us : List Value}, Vals (xs.map V.str) us → SeqAt.ItemsEq A s us xs (.str y ty) y
  | [], us, h => by
    cases h
    exact ⟨rfl, fun j h => absurd h (Nat.not_lt_zero j)⟩
  | x :: xs, us, h => by
    cases h with
    | cons a t =>
      obtain ⟨i1, i2⟩ := items_S (A := A) (s := s) y ty t
      refine ⟨by simp [i1], fun j h1 h2 => ?_⟩
      cases j with
      | zero =>
        obtain ⟨tk, rfl⟩ := a
        exact SeqAt.EqAt.str_str x tk y ty
      | succ j => exact i2 j (Nat.lt_of_succ_lt_succ h1) (Nat.lt_of_succ_lt_succ h2)
def oIndexR : Op
  | [(d, _), (.str y, _)] => ((rowOf d).bind strsOf).bind fun xs => if y ∈ xs then some (.int (xs.idxOf y : Nat), .im) else none
  | _ => none
def tIdxR (te ty : TE) : TE := fun σ H Q => te σ H fun x H1 => ∃ (a : Addr) (ob : Obj) (xs : List Str), x = .ref a ∧ H1 a = some (.frz ob (.tup (xs.map V.str))) ∧ ob.dict = none ∧ tCons ty tNil σ H1 fun vs H2 => ∃ y ob', vs = [.str y] ∧ y ∈ xs ∧ H2 a = some (.frz ob' (.tup (xs.map V.str))) ∧ Q (.int (xs.idxOf y : Nat)) H2
theorem pe_idxR {X : Cx} {o : Expr} {te ty : TE} {apos cpos : Pos} {c : Expr} (ho : PE X o te) (hc : PE X c ty)
    (hbase : attributeBase o "index" X.env (eval o X.env) = eval o X.env)
    (hfew : ((backTo cpos (starEach [c] X.env)).all (fun x => !x.1) && (backToKw cpos (keywordEach [] X.env)).all (fun x => x.1.isSome) && decide (([c] : List Expr).length + ([] : List Keyword).length + (if ([] : List Keyword).isEmpty then 0 else 1) < 30)) = true)
    (hline : (apos.endLine == cpos.line) = true) (hs : starEach [c] X.env = (false, eval c X.env) :: starEach [] X.env) (hplain : (backTo cpos (starEach [] X.env)).any (·.1) = false) :
    PE X (.Call (.Attribute o "index" apos) [c] [] cpos) (tIdxR te ty) := ⟨fun pins s σ H Q I h => by
  refine wpAny_Call_method_late hbase hfew hline rfl (thn (ho.run pins s σ H _ I h) fun v s1 w => ?_)
  obtain ⟨x, H1, I1, r1, a, ob, xs, rfl, hH, hd, q⟩ := w
  cases r1
  obtain ⟨hob, hz, its, rv, ht⟩ := I1.hok a _ hH
  refine ⟨"tuple", "tuple.index", PySem.F.plainAttrs_tuple, PySem.F.slot_tuple_index, PySem.F.type_tuple_index, ht.typeIs, fun b e => by cases e; exact ⟨ob, hob, hd⟩, ?_⟩
  have hA := (pa_cons hc pa_nil hs).run cpos pins s1 σ H1 _ I1 q
  rw [hs] at hA ⊢
  refine Calls.callWith_builtin (by show (false || (backTo cpos (starEach [] X.env)).any (·.1)) = false; rw [hplain]; rfl) (Calls.evalArgs_plain ?_)
  refine thn hA fun us s2 w => ?_
  obtain ⟨vs, H2, I2, r2, y, ob', rfl, hy, hH2, q2⟩ := w
  obtain ⟨u, rfl, ru⟩ := vals_one r2
  obtain ⟨ty, rfl⟩ := ru
  obtain ⟨hob2, hz2, its2, rv2, ht2⟩ := I2.hok a _ hH2
  refine SeqAt.call_tuple_index (ks := xs) (k := y) (show s2.heap.IsTuple a its2.toArray from ht2) (items_S y ty rv2) hy ?_
  exact ⟨.int (xs.idxOf y : Nat), H2, I2.tok _, ⟨_, rfl⟩, q2⟩⟩
theorem px_indexR {X : Cx} {a b : Expr} {f g : Ex} {apos cpos : Pos} (ho : PX X a f) (hb : PX X b g)
    (hbase : attributeBase a "index" X.env (eval a X.env) = eval a X.env := by rfl)
    (hfew : ((backTo cpos (starEach [b] X.env)).all (fun x => !x.1) && (backToKw cpos (keywordEach [] X.env)).all (fun x => x.1.isSome)
      && decide (([b] : List Expr).length + ([] : List Keyword).length + (if ([] : List Keyword).isEmpty then 0 else 1) < 30)) = true := by rfl)
    (hline : (apos.endLine == cpos.line) = true := by rfl) (hs : starEach [b] X.env = (false, eval b X.env) :: starEach [] X.env := by rfl) (hplain : (backTo cpos (starEach [] X.env)).any (·.1) = false := by rfl) :
    PX X (.Call (.Attribute a "index" apos) [b] [] cpos) (cCall oIndexR [f, g]) :=
  PE.imp (pe_idxR ho hb hbase hfew hline hs hplain) fun σ H Q q => by
    obtain ⟨B, Gb, G, env, W, d, k, W', S, e, c⟩ := q
    obtain ⟨d1, k1, W1, d2, k2, e1, e2, e3⟩ := cCall_two e
    unfold oIndexR at e3
    split at e3
    · rename_i q
      cases q
      rw [Option.bind_eq_some_iff] at e3
      obtain ⟨xs, hx, e3⟩ := e3
      rw [Option.bind_eq_some_iff] at hx
      obtain ⟨ds, hr, hx⟩ := hx
      split at e3
      · rename_i hy
        cases e3
        have ed := strsOf_eq hx
        subst ed
        refine ⟨B, Gb, G, env, W, _, _, W1, S, e1, fun v1 G1 H1 s1 S1 h1 => ?_⟩
        obtain ⟨p, ob, ys, rfl, hx, hd, rx⟩ := h1.rowAt S1 hr
        have ey := RpL.of_strs rx
        subst ey
        refine ⟨p, ob, xs, rfl, hx, hd, step2 S1 h1 e2 fun v2 G2 H2 s2 S2 h1' h2' ne => ?_⟩
        obtain rfl := h2'.str S2
        obtain ⟨p', ob', ys', ep, hx', hd', rx'⟩ := h1'.rowAt S2 hr
        cases ep
        have ey' := RpL.of_strs rx'
        subst ey'
        exact ⟨_, ob', rfl, hy, hx', (c.sub (s1.trans s2)).im S2 (.int _)⟩
      · cases e3
    · cases e3
/-! ### tuple(list), known -/
def oTupR : Op
  | [(.list ds, _)] => some (RW ds, .im)
  | _ => none
theorem so_tupR {X : Cx} : CallR X (.type "tuple") (rV X.K oTupR) := by
  intro pins s σ H xs us Q I r h
  obtain ⟨B, Gb, G, σ1, env, W, ds, d, k, S, p, e, c⟩ := h
  unfold oTupR at e
  split at e
  · match xs, p with
    | [x], p =>
      cases e
      obtain ⟨a, ys, rfl, h1, h2⟩ := p.1.list S
      obtain ⟨u, rfl, rx⟩ := vals_one r
      cases rx
      obtain ⟨its, r', pl, hz⟩ := I.list (.of h1)
      have hlen := r'.length
      refine call_tuple_list pl.isList (fun h' kp => ?_) (by simp only [List.size_toArray] <;> omega)
      have I1 : Inv X pins σ H { s with heap := h' } := I.kept (t' := s.toks) kp
      have hn : H h'.objs.size = none := I1.hok.fresh (Nat.le_refl _)
      have I2 : Inv X pins σ (upd H h'.objs.size (.frz { cls := .type "tuple", data := .seq its.toArray } (.tup ys))) { s with heap := h'.push { cls := .type "tuple", data := .seq its.toArray } } :=
        I1.laid (t' := s.toks) (fun b o e => Heap.get?_push_of_some _ e) (Nat.le_refl _) ⟨Heap.get?_push_size _ rfl, hz, its, r', IsTup.new _ _⟩
      refine ⟨.ref h'.objs.size, _, I2, rfl, ?_⟩
      obtain ⟨n1, n2, n3⟩ := S.new hn
      have S1 := (S.laid (o := .frz { cls := .type "tuple", data := .seq its.toArray } (.tup ys)) hn).freeze upd_same n1 (.inl n2) n3
      exact (c.sub (same_upd n1)).im S1 (.dT rfl upd_same rfl (RpL.mono (Sub.of (same_upd n1)) h2))
  · cases e
end PX

namespace PX
open PySem PySem.Spec PyProof.Rows L2
/-! ### defs whose first parameter is the draws' dict -/
def tRW (K : PySem.W.Frag) (g : Sx) (f : Ex) (q : Addr) : TS := fun D σ H => ∃ B Gb G env W e' W' d W2, Sta K B Gb G H σ env W ∧ g env W = some (.nx e' W') ∧ e'[0]? = some (.wd q) ∧ f e' W' = some (d, .im, W2) ∧
  ∀ v G' H', Same G G' → Same G' H' → Same B H' → Same Gb G' → (∀ a o, B a = some o → G' a ≠ none → Gb a ≠ none ∨ ∃ xs, o = .tup xs) → G' q = none → (∃ (l : Addr) (ns : List Int) (k : Nat), H' q = some (wdO l (k : Nat)) ∧ G' l = some (.lst (ns.map V.int)) ∧ W2 = ns.drop k) → Rp K G' v d → D.rt v H'
section
variable {X : Cx} {e : Expr} {f : Ex} {g h : Sx} {st : Stmt} {rest : List Stmt} {pos : Pos} {q : Addr}
theorem pssW_ret (ha : PX X e f) : PSs X [.Return (some e) pos] (tRW X.K sNil f q) := PSs.imp (pss_one (ps_ret ha)) fun D σ H z => by
  obtain ⟨B, Gb, G, env, W, e', W', d, W2, S, eg, e0, ef, c⟩ := z
  cases eg
  refine ⟨B, Gb, G, env, W, d, .im, W2, S, ef, fun v G1 H1 s1 S1 h1 => ?_⟩
  obtain ⟨p, l, ns, k, _, g1, _, h2, g2, hw, rfl⟩ := S1.wd 0 e0
  exact c v G1 H1 s1 S1.sg S1.sb S1.sgb S1.gb g1 ⟨l, ns, k, h2, g2, hw⟩ h1
theorem pssW_cons (h1 : PSX X st g) (h2 : PSs X rest (tRW X.K h f q)) : PSs X (st :: rest) (tRW X.K (sSeq g h) f q) := PSs.imp (pss_cons h1 h2) fun D σ H z => by
  obtain ⟨B, Gb, G, env, W, e', W', d, W2, S, eg, e0, ef, c⟩ := z
  unfold sSeq at eg
  split at eg
  · rename_i e1 W1 q1
    refine ⟨B, Gb, G, env, W, _, S, q1, fun σ1 G1 H1 s1 S1 => ?_⟩
    exact ⟨B, Gb, G1, e1, W1, e', W', d, W2, S1, eg, e0, ef, fun v G' H' s' => c v G' H' (s1.trans s')⟩
  · rename_i r hn
    exact absurd eg (hn e' W')
theorem pssW_wipe (is : List Nat) (h1 : PSs X rest (tRW X.K g f q)) : PSs X rest (tRW X.K (sWipe is g) f q) := PSs.imp h1 fun D σ H z => by
  obtain ⟨B, Gb, G, env, W, e', W', d, W2, S, eg, e0, ef, c⟩ := z
  exact ⟨B, Gb, G, _, W, e', W', d, W2, Sta.wipeE is S, eg, e0, ef, c⟩
end
def spW (K : PySem.W.Frag) (n : Nat) (F : Addr → List PyData → List Int → Option (PyData × List Int)) : Sp := fun vs H Q _ => ∃ (p : Addr) (vs' : List V) (l : Addr) (ns : List Int) (k : Nat) (G : Hp) (ds : List PyData) (d : PyData) (W2 : List Int),
  vs = .ref p :: vs' ∧ vs'.length = n ∧ H p = some (wdO l (k : Nat)) ∧ G l = some (.lst (ns.map V.int)) ∧ G p = none ∧ Same G H ∧ RpL K G vs' ds ∧ F p ds (ns.drop k) = some (d, W2) ∧
  ∀ v G1 H1 l' (ns' : List Int) (k' : Nat), (∀ a o, a ≠ p → H a = some o → H1 a = some o) → Same G G1 → Same G1 H1 → (∀ a o, a ≠ p → H a = some o → G1 a ≠ none → G a ≠ none ∨ ∃ xs, o = .tup xs) → G1 p = none →
    H1 p = some (wdO l' (k' : Nat)) → G1 l' = some (.lst (ns'.map V.int)) → W2 = ns'.drop k' → Rp K G1 v d → Q v H1
def envW (p : Addr) (n : Nat) (ds : List PyData) : SEnv := Sl.wd p :: (ds.map Sl.pl ++ List.replicate (n - 1 - ds.length) Sl.no)
def runW (n np : Nat) (g : Sx) (f : Ex) : Addr → List PyData → List Int → Option (PyData × List Int) := fun p ds W => if ds.length = np then (match g (envW p n ds) W with
  | some (.nx e W1) => (match (e[0]? : Option Sl) with
    | some (.wd q) => if q = p then (match f e W1 with
      | some (d, .im, W2) => some (d, W2)
      | _ => none) else none
    | _ => none)
  | _ => none) else none
theorem envW_at {p : Addr} {n : Nat} {ds : List PyData} {i : Nat} {s : Sl} (h : (envW p n ds)[i]? = some s) : (i = 0 ∧ s = .wd p) ∨ s = .no ∨ ∃ j d, i = j + 1 ∧ s = .pl d ∧ ds[j]? = some d := by
  unfold envW at h
  match i with
  | 0 => simp at h; exact .inl ⟨rfl, h.symm⟩
  | j + 1 =>
    rw [List.getElem?_cons_succ] at h
    by_cases hi : j < ds.length
    · rw [List.getElem?_append_left (by simpa using hi), List.getElem?_map, Option.map_eq_some_iff] at h
      obtain ⟨d, h1, h2⟩ := h
      exact .inr (.inr ⟨j, d, rfl, h2.symm, h1⟩)
    · rw [List.getElem?_append_right (by simpa using hi), List.getElem?_replicate] at h
      split at h
      · cases h; exact .inr (.inl rfl)
      · cases h
theorem staW {K : PySem.W.Frag} {N : List Str} {G H : Hp} {p l : Addr} {ns : List Int} {k : Nat} {vs : List V} {ds : List PyData} (s : Same G H) (r : RpL K G vs ds) (hl : vs.length + 1 ≤ N.length) (hw : H p = some (wdO l (k : Nat))) (hg : G l = some (.lst (ns.map V.int))) (hp : G p = none) :
    Sta K (fun a => if a = p then none else H a) G G H (L2.start N (.ref p :: vs)) (envW p N.length ds) (ns.drop k) where
  sg := s
  sb := fun a o e => by
    dsimp only at e
    split at e
    · cases e
    · exact e
  sgb := Same.refl _
  gb := fun a o _ n => .inl n
  len := by
    unfold envW L2.start
    rw [List.length_cons, List.length_append, List.length_append, List.length_map, List.length_map, List.length_replicate, List.length_replicate, List.length_cons, ← r.length]
    omega
  pl := fun i d e => by
    rcases envW_at e with ⟨_, z⟩ | z | ⟨j, d', rfl, z, h⟩
    · cases z
    · cases z
    · cases z
      obtain ⟨v, h1, h2⟩ := r.get h
      exact ⟨v, start_get (by rw [List.getElem?_cons_succ]; exact h1), h2⟩
  ow := fun i d e => by
    rcases envW_at e with ⟨_, z⟩ | z | ⟨j, d', _, z, h⟩ <;> cases z
  lk := fun i od o d e => by
    rcases envW_at e with ⟨_, z⟩ | z | ⟨j, d', _, z, h⟩ <;> cases z
  wd := fun i {q} e => by
    rcases envW_at e with ⟨rfl, z⟩ | z | ⟨j, d', _, z, h⟩
    · cases z
      exact ⟨p, l, ns, k, start_get rfl, hp, if_pos rfl, hw, hg, rfl, rfl⟩
    · cases z
    · cases z
  sc := fun i d e => by
    rcases envW_at e with ⟨_, z⟩ | z | ⟨j, d', _, z, h⟩ <;> cases z
  one := fun i j {a b} e1 e2 => by
    rcases envW_at e1 with ⟨rfl, _⟩ | z | ⟨_, _, _, z, _⟩
    · rcases envW_at e2 with ⟨rfl, _⟩ | z | ⟨_, _, _, z, _⟩
      · rfl
      · cases z
      · cases z
    · cases z
    · cases z
  sep := fun i j a h1 h2 => by
    obtain ⟨⟨s1, e1, o1⟩, _⟩ := h1
    obtain ⟨⟨s2, e2, o2⟩, _⟩ := h2
    rcases envW_at e1 with ⟨rfl, _⟩ | z | ⟨_, _, _, z, _⟩
    · rcases envW_at e2 with ⟨rfl, _⟩ | z | ⟨_, _, _, z, _⟩
      · rfl
      · subst z; exact absurd o2 Bool.false_ne_true
      · subst z; exact absurd o2 Bool.false_ne_true
    · subst z; exact absurd o1 Bool.false_ne_true
    · subst z; exact absurd o1 Bool.false_ne_true
section
variable {P : Program} {w : World} {K : PySem.W.Frag} {mg : Str → Option Value} {base : Heap} {f : Addr} {fd : FuncData} {N ps : List Str}
theorem fn_ruleW {x qual : Str} {st : Stmt} {k np : Nat} {g : Sx} {fe : Ex} (F : Fun K x qual st f fd) (S : FnScope N ps (defScope st)) (hnp : ps.length = np + 1) (hN : np + 1 ≤ N.length)
    (hb : ∀ (q : Addr) (cdv : Value) (A : Around) (outer : List Env) (s : Shared) (H : Hp) (E : XK), Room k (A.deeper (envOfC qual (defScope st) s.heap.objs.size f cdv)) → PSs (cxOf CX0 P w K mg base N qual (defScope st) f cdv A outer s H E).nox (defBody st) (tRW K g fe q)) :
    FnOk P w K mg base CX0 (k + 1) f fd ps (spW K np (runW N.length np g fe)) := by
  refine F.ok S (fun vs H Q E h => ?_) (fun cdv A outer s H vs Q E hr h => ?_)
  · obtain ⟨p, vs', l, ns, k, G, ds, d, W2, rfl, hl, _⟩ := h
    rw [List.length_cons, hl, hnp]
  obtain ⟨p, vs', l, ns, k, G, ds, d, W2, rfl, hl, hw, hg, hp, sg, r, hF, c⟩ := h
  refine ⟨_, hb p cdv A outer s H E hr, ?_⟩
  unfold runW at hF
  split at hF
  · rename_i hds
    split at hF
    · rename_i e1 W1 h1
      split at hF
      · rename_i q0 h0
        split at hF
        · rename_i hq
          subst hq
          split at hF
          · rename_i d1 W3 h2
            cases hF
            refine ⟨_, G, G, _, _, e1, W1, d, W2, staW sg r (by omega) hw hg hp, h1, h0, h2, fun v G1 H1 t1 t2 t3 t4 t5 gq ⟨l', ns', k', a1, a2, a3⟩ rv => ?_⟩
            exact c v G1 H1 l' ns' k' (fun a o ne e => t3 a o (by dsimp only; rw [if_neg ne]; exact e)) t1 t2 (fun a o ne e n => t5 a o (by rw [if_neg ne]; exact e) n) gq a1 a2 a3 rv
          · cases hF
        · cases hF
      · cases hF
    · cases hF
  · cases hF
end
/-- the caller's state behind such a call -/
theorem Sta.afterW {K : PySem.W.Frag} {B Gb G H G1 H1 : Hp} {σ : L2.St} {env : SEnv} {W W2 : List Int} (S : Sta K B Gb G H σ env W) {i : Nat} {p l : Addr} {ns : List Int} {k : Nat} (e : env[i]? = some (.wd p)) (h : ∀ a o, a ≠ p → H a = some o → H1 a = some o) (g : Same G G1) (s1 : Same G1 H1)
    (hn : ∀ a o, a ≠ p → H a = some o → G1 a ≠ none → G a ≠ none ∨ ∃ xs, o = .tup xs) (gp : G1 p = none) (hw : H1 p = some (wdO l (k : Nat))) (hg : G1 l = some (.lst (ns.map V.int))) (hW : W2 = ns.drop k) : Sta K B Gb G1 H1 σ env W2 := by
  obtain ⟨p', l0, ns0, k0, m1, m2, m3, m4, m5, m6, rfl⟩ := S.wd i e
  have me : Own env σ i p' := ⟨⟨_, e, rfl⟩, m1⟩
  have free : ∀ q o, q ≠ p' → H q = some o → (∀ xs, o ≠ .tup xs) → G q = none → G1 q = none := fun q o ne e ht hg => by
    cases z : G1 q with
    | none => rfl
    | some x =>
      rcases hn q o ne e (by rw [z]; simp) with z | ⟨xs, z⟩
      · exact absurd hg z
      · exact absurd z (ht xs)
  have other : ∀ {j q}, j ≠ i → Own env σ j q → q ≠ p' := fun ne h z => ne (S.sep _ i p' (z ▸ h) me)
  have nb : ∀ a o, B a = some o → a ≠ p' := fun a o e z => by rw [z, m3] at e; cases e
  exact {
    sg := s1
    sb := fun a o e => h a o (nb a o e) (S.sb a o e)
    sgb := S.sgb.trans g
    gb := fun a o e n => by
      rcases hn a o (nb a o e) (S.sb _ _ e) n with z | z
      · exact S.gb a o e z
      · exact .inr z
    len := S.len
    pl := fun i d e => by
      obtain ⟨v, h1, h2⟩ := S.pl i d e
      exact ⟨v, h1, Rp.mono (Sub.of g) h2⟩
    ow := fun j d e' => by
      obtain ⟨q, o, h1, h2, h3, h4, h5⟩ := S.ow j d e'
      have ne : j ≠ i := fun z => by subst z; rw [e] at e'; cases e'
      have nq := other ne ⟨⟨_, e', rfl⟩, h1⟩
      exact ⟨q, o, h1, free q o nq h4 h5.notTup h2, h3, h _ _ nq h4, h5.mono (Sub.of g)⟩
    lk := fun j od o d e' => by
      obtain ⟨q, h1, h2, h3, h4, h5, h6⟩ := S.lk j od o d e'
      have ne : j ≠ i := fun z => by subst z; rw [e] at e'; cases e'
      have nq := other ne ⟨⟨_, e', rfl⟩, h1⟩
      exact ⟨q, h1, free q _ nq h4 (fun _ z => nomatch z) h2, h3, h _ _ nq h4, h5.mono (Sub.of g), h6⟩
    wd := fun j {q} e' => by
      have ji := S.one j i e' e
      subst ji
      rw [e] at e'
      cases e'
      exact ⟨_, l, ns, k, m1, gp, m3, hw, hg, hW, rfl⟩
    sc := fun i ns e => by
      obtain ⟨q, h1, h2⟩ := S.sc i ns e
      exact ⟨q, h1, g.seq h2⟩
    one := S.one
    sep := S.sep }
def cFnW (i : Nat) (F : Addr → List PyData → List Int → Option (PyData × List Int)) (fs : List Ex) : Ex := fun env W => match env[i]? with
  | some (.wd p) => (cArgs fs env W).bind fun q => if q.1.all (fun t => esc t.2) then (F p (q.1.map (·.1)) q.2).map fun r => (r.1, .im, r.2) else none
  | _ => none
section
variable {X : Cx} {x : Str} {e0 e : Expr} {es : List Expr} {fs : List Ex} {p pos : Pos}
theorem px_fnW {k j n : Nat} {x : Str} {F : Addr → List PyData → List Int → Option (PyData × List Int)} {ps : List Str} (i : Nat) (C : Cal X.prog X.w X.K X.mg X.base x k ps (spW X.K n F)) (hr : Room j X.A) (hw : PE X e0 (tVar i)) (ha : PXs X (e :: es) fs) (hn : (e :: es).length = n := by rfl) (hj : k ≤ j := by decide) (hg : Gl X x := by rfl) (hdb : (x == ("__debug__" : Str)) = false := by decide)
    (he : starEach (e0 :: e :: es) X.env = (false, eval e0 X.env) :: starEach (e :: es) X.env := by rfl) (hpl : (backTo pos (starEach (e :: es) X.env)).any (·.1) = false := by rfl) (hl : fs.length = n := by rfl) : PX X (.Call (.Name x p) (e0 :: e :: es) [] pos) (cFnW i F fs) := by
  obtain ⟨fa, fd, hF, hm, hk, hb⟩ := C.ex
  refine PE.imp (pe_call (E := E0) hF (hr.mono hj) hg hm hk hb .nil pass0 (pa_cons hw ha he) hdb he hpl) fun σ H Q q => ?_
  obtain ⟨B, Gb, G, env, W, d, k, W', S, e, c⟩ := q
  unfold cFnW at e
  split at e
  · rename_i pp ew
    rw [Option.bind_eq_some_iff] at e
    obtain ⟨⟨ds, W1⟩, e1, e2⟩ := e
    dsimp only at e2
    split at e2
    · rename_i hs
      rw [Option.map_eq_some_iff] at e2
      obtain ⟨⟨d', W2⟩, e3, e4⟩ := e2
      cases e4
      obtain ⟨p', l0, ns0, k0, m1, m2, m3, m4, m5, m6, rfl⟩ := S.wd i ew
      refine ⟨_, m1, B, Gb, G, env, W, ds, _, S, e1, fun vs G1 H1 s1 S1 p1 => ?_⟩
      obtain ⟨G2, s2, S2, r2⟩ := freezeL S1 p1 hs
      obtain ⟨p2, l2, ns2, k2, q1, q2, q3, q4, q5, q6, q7⟩ := S2.wd i ew
      rw [m1] at q1
      cases q1
      have hlen : ∀ (fs : List Ex) (env : SEnv) (W : List Int) (ds : List Dk) (W1 : List Int), cArgs fs env W = some (ds, W1) → ds.length = fs.length := by
        intro fs
        induction fs with
        | nil => intro env W ds W1 h; cases h; rfl
        | cons f fs ih =>
          intro env W ds W1 h
          rw [cArgs, Option.bind_eq_some_iff] at h
          obtain ⟨r, _, h⟩ := h
          rw [Option.map_eq_some_iff] at h
          obtain ⟨q, h1, h2⟩ := h
          cases h2
          rw [List.length_cons, List.length_cons, ih _ _ _ _ h1]
      rw [List.append_nil]
      rw [q6] at e3
      refine ⟨_, vs, l2, ns2, k2, G2, ds.map (·.1), _, _, rfl, by rw [p1.length, hlen _ _ _ _ _ e1, hl], q4, q5, q2, S2.sg, r2, e3, fun v G3 H3 l' ns' k' t1 t2 t3 t4 gp hh hg' hW rv => ?_⟩
      exact c v G3 H3 ((s1.trans s2).trans t2) (S2.afterW ew t1 t2 t3 t4 gp hh hg' hW) rv
    · cases e2
  · cases e
end
end PX

namespace PX
open PySem PySem.Spec PyProof.Rows L2
/-! ### sorted of what is collected, new things among it -/
theorem sortedX_run {X : Cx} {pins : List (Addr × Obj)} {σ : L2.St} {s : Shared} (hh : X.A.handled = none) (hu : X.A.units + 200 < cLine) {v : Value} {Ok : Hp → List V → List PyData → Prop} {Q : VK}
    (hx : ∀ (A : Around) (E' : Value → Shared → Prop) (Q' : List Value → Shared → Prop), A.handled = none → (∀ (s' : Shared) (us : List Value) (xs : List V) (ds : List PyData) (H : Hp), Inv X pins σ H s' → RpL X.K H xs ds → sortB ds = true → xs.length ≤ sizeLine → Ok H xs ds → Vals xs us → Q' us s') → wpAny (model X.prog X.w) A (collect v) Q' E' s)
    (hq : ∀ H xs ds p ys, Ok H xs ds → H p = none → (∀ K G, RpL K G xs ds → RpL K G ys (sortD ds)) → Q (.ref p) (upd H p (.lst ys))) :
    wpAny (model X.prog X.w) X.A (call (.builtin "sorted") [v]) (EP X pins σ Q) X.xe s := by
  refine Calls.call_function_entry PyProof.Rows.kind_sorted PyProof.Rows.plain_sorted PyProof.Rows.entry_sorted (PyProof.Rows.args_sorted1 _) ?_
  unfold Builtin.«sorted»
  refine wpAny_bind (m := checkCount "sorted" 1 1 _) (wpAny_pure ?_)
  refine wpAny_bind (hx _ _ _ hh fun s' us xs ds H I1 hrk hb hl hok hv => ?_)
  have hlen : xs.length = ds.length := hrk.length
  have hul : us.length = xs.length := hv.length.symm
  unfold sortB at hb
  rw [Bool.and_eq_true, Bool.and_eq_true] at hb
  obtain ⟨b1, b2, b3⟩ := hb
  have hnd := flat_all b1
  have m1 : (xs.zip ds).map (·.1) = xs := List.map_fst_zip (by omega)
  have m2 : (xs.zip ds).map (·.2) = ds := List.map_snd_zip (by omega)
  refine wpAny_bind (wpAny_newList ?_ (by rw [hul]; exact hl))
  have hoL : (s'.heap.push (seqObj "list" us.toArray 0)).get? s'.heap.objs.size = some (seqObj "list" us.toArray 0) := Heap.get?_push_size _ rfl
  show wpAny _ _ _ _ _ { s' with heap := s'.heap.push (seqObj "list" us.toArray 0) }
  have I3 : L2.Inv X pins σ H { s' with heap := PySem.W.sortingHeap (s'.heap.push (seqObj "list" us.toArray 0)) s'.heap.objs.size us } := I1.kept (t' := s'.toks) fun b o e => by
    have hb : b < s'.heap.objs.size := Heap.lt_size e
    exact PySem.W.sortingHeap_old (Nat.ne_of_lt hb) (Heap.get?_push_of_some _ e)
  obtain ⟨as, hra⟩ := (hrk.reads I3 hnd hv).1
  have er : PySem.W.EachIs (fun v (b : V × PyData) => ∃ as, Reads (PySem.W.sortingHeap (s'.heap.push (seqObj "list" us.toArray 0)) s'.heap.objs.size us) v b.2 as) us (xs.zip ds) := reads_each (by rw [m2]; exact hra)
  have ev : PySem.W.EachIs (fun v (b : V × PyData) => RelV b.1 v) us (xs.zip ds) := vals_each (by rw [m1]; exact hv)
  have hal : PySem.W.AllAlike ((xs.zip ds).map (·.2)) := by rw [m2]; exact alike_of b2
  have hso : PySem.W.Sortable ((xs.zip ds).map (·.2)) := by rw [m2]; exact sortable_of b3
  refine wpAny_bind (wpAny_holding (wpAny_call_entry PyProof.Rows.slot_list_sort ⟨_, hoL, rfl⟩ PyProof.Rows.entry_list_sort
    (PySem.W.list_sort_vals (κ := PySem.W.dataKind (PySem.W.sortingHeap (s'.heap.push (seqObj "list" us.toArray 0)) s'.heap.objs.size us) ((xs.zip ds).map (·.2))) hoL
      (PySem.W.SortsAt.data (s := { s' with heap := PySem.W.sortingHeap (s'.heap.push (seqObj "list" us.toArray 0)) s'.heap.objs.size us }) (PySem.W.each_map (R := fun v d => ∃ as, Reads (PySem.W.sortingHeap (s'.heap.push (seqObj "list" us.toArray 0)) s'.heap.objs.size us) v d as) (fun b : V × PyData => b.2) er) hal hso (fun d hd => ?_)) (by rw [hul]; exact hl) ⟨.none, rfl, ?_⟩) (PyProof.Rows.args_list_sort _)))
  · rw [m2] at hd
    rw [List.all_eq_true] at b1
    have := flat_depth (b1 d hd)
    show X.A.units + 1 + 1 + d.depth < cLine
    omega
  · have eo := PySem.W.sortVals_data (enc := fun b : V × PyData => b.2) false ev er hal
    generalize hout : PySem.W.sortVals (PySem.W.dataKind (PySem.W.sortingHeap (s'.heap.push (seqObj "list" us.toArray 0)) s'.heap.objs.size us) ((xs.zip ds).map (·.2))) false us us = out at eo ⊢
    have ro := each_vals eo
    obtain ⟨e', he'⟩ := PyProof.Rows.sortedHeap_at (vs := us) (out := out.toArray) hoL
    have hol : ((xs.zip ds).mergeSort (PySem.W.dataLe false fun b => b.2)).length = xs.length := by
      rw [List.length_mergeSort, List.length_zip]
      omega
    refine wpAny_pure ⟨_, rfl, .ref s'.heap.objs.size, upd H s'.heap.objs.size (.lst (((xs.zip ds).mergeSort (PySem.W.dataLe false fun b => b.2)).map (·.1))), I1.laid (t' := s'.toks) (fun b u e => ?_) (Nat.le_refl _)
      (show ObjOk X.prog X.w _ _ _ (.lst _) from ⟨by rw [List.length_map, hol]; exact hl, out, e', ro, he'⟩), rfl, hq _ _ _ _ _ hok (I1.hok.fresh (Nat.le_refl _)) fun K G hg => ?_⟩
    · have hb : b < s'.heap.objs.size := Heap.lt_size e
      rw [PyProof.Rows.sortedHeap_old (Nat.ne_of_lt hb) (by rw [size_push']; exact Nat.lt_succ_of_lt hb)]
      exact Heap.get?_push_of_some _ e
    · have z := RpL.of_zip (K := K) (G := G) ((xs.zip ds).mergeSort (PySem.W.dataLe false fun b => b.2)) fun p hp => hg.zip p ((List.mergeSort_perm _ _).mem_iff.mp hp)
      have e2 : ((xs.zip ds).mergeSort (PySem.W.dataLe false fun b => b.2)).map (·.2) = sortD ds := by
        unfold sortD
        have e3 := PySem.W.sort_maps (r := PySem.W.dataLe false fun b : V × PyData => b.2) (s := PySem.W.dataLe false id) (fun b : V × PyData => b.2) (l := xs.zip ds) fun _ _ _ _ => rfl
        rw [m2] at e3
        exact e3
      rw [e2] at z
      exact z
/-! ### sorted(d.items()) -/
def itemsD (es : List (PyData × PyData)) : List PyData := es.map fun e => .tuple [e.1, e.2]
theorem items_rp {K : PySem.W.Frag} {G : Hp} : ∀ {ts : List Addr} {kvs : List (Key × V)} {es : List (PyData × PyData)}, Paired (fun (t : Addr) (q : Key × V) => G t = some (.tup [kV q.1, q.2])) ts kvs → RpD K G kvs es → RpL K G (ts.map V.ref) (itemsD es)
  | _, _, _, .nil, h => by cases h; exact .nil
  | _, _, _, .cons a t, h => by
    cases h with
    | cons o r rest => exact .cons (.tup (.inl a) (.cons (kV_rp o) (.cons r .nil))) (items_rp t rest)
theorem putT_same : ∀ (ts : List Addr) (kvs : List (Key × V)) (H : Hp), (∀ t ∈ ts, H t = none) → ts.Nodup → Same H (LiI.putT H ts kvs)
  | [], _, H, _, _ => Same.refl _
  | _ :: _, [], H, _, _ => Same.refl _
  | t :: ts, p :: kvs, H, h, nd => by
    have nd' := List.nodup_cons.mp nd
    refine (same_upd (h t List.mem_cons_self)).trans (putT_same ts kvs _ (fun u hu => ?_) nd'.2)
    rw [upd_ne (show u ≠ t from fun z => nd'.1 (z ▸ hu))]
    exact h u (List.mem_cons_of_mem _ hu)
theorem Sta.putT {K : PySem.W.Frag} {B Gb : Hp} {σ : L2.St} {env : SEnv} {W : List Int} : ∀ (ts : List Addr) (kvs : List (Key × V)) {G H : Hp}, Sta K B Gb G H σ env W → (∀ t ∈ ts, H t = none) → ts.Nodup → Sta K B Gb (LiI.putT G ts kvs) (LiI.putT H ts kvs) σ env W
  | [], _, _, _, S, _, _ => S
  | _ :: _, [], _, _, S, _, _ => S
  | t :: ts, p :: kvs, G, H, S, h, nd => by
    have nd' := List.nodup_cons.mp nd
    have ht := h t List.mem_cons_self
    obtain ⟨n1, n2, n3⟩ := S.new ht
    have S1 := (S.laid (o := .tup [kV p.1, p.2]) ht).freeze upd_same n1 (.inl n2) n3
    refine Sta.putT ts kvs S1 (fun u hu => ?_) nd'.2
    rw [upd_ne (show u ≠ t from fun z => nd'.1 (z ▸ hu))]
    exact h u (List.mem_cons_of_mem _ hu)
section
variable {X : Cx} {e : Expr} {te : TE} {f : Ex} {p apos cpos pos : Pos}
def tItemsK (te : TE) : TE := fun σ H Q => te σ H fun x H1 => ∃ (d : Addr) (kvs : List (Key × V)), x = .ref d ∧ Rd H1 d (.dK kvs) ∧ ∀ p, H1 p = none → Q (.ref p) (upd H1 p (L2.DX.itemsO p d))
theorem pe_itemsK (he : PE X e te) (hbase : attributeBase e "items" X.env (eval e X.env) = eval e X.env := by rfl) (hline : (apos.endLine == cpos.line) = true := by rfl) : PE X (.Call (.Attribute e "items" apos) [] [] cpos) (tItemsK te) := by
  refine ⟨fun pins s σ H Q I hq => ?_⟩
  refine wpAny_Call_method (T := "dict") (id := "dict.items") hbase rfl hline F.plainAttrs_dict F.slot_dict_items F.type_dict_items (thn (he.run pins s σ H _ I hq) fun u s1 ⟨x, H1, I1, rx, d, kvs, ex, hd, q⟩ => ?_)
  subst ex
  obtain rfl : u = Value.ref d := rx
  obtain ⟨hz, hs0, vs, kv, hdo⟩ := dk_rd I1.hok hd
  refine ⟨hdo.typeIs, hdo.mapOf.noDict, ?_⟩
  show wpAny _ _ (callWith cpos (.builtin "dict.items") [.ref d] [] []) _ X.xe s1
  refine method_meetsIn F.slot_dict_items F.entry_dict_items rfl (PySem.evalArgs_none ⟨rfl, hdo.typeIs, F.args_dict_items_1 _, _, meets_dict_items (mixKind X.prog X.w) d hs0, ⟨vs, hdo⟩, ?_⟩)
  have hf : H1 s1.heap.objs.size = none := I1.hok.fresh (Nat.le_refl _)
  exact ⟨.ref _, upd H1 s1.heap.objs.size (L2.DX.itemsO s1.heap.objs.size d), I1.laid (t' := s1.toks) (fun b u e => Heap.get?_push_of_some _ e) (Nat.le_refl _) (L2.DX.itemsO_ok (Heap.get?_push_size _ rfl)), rfl, q _ hf⟩
def rSortedK (K : PySem.W.Frag) : List V → Hp → VK → Prop := fun vs H Q => ∃ (p d : Addr) (kvs : List (Key × V)) (es : List (PyData × PyData)), vs = [.ref p] ∧ H p = some (L2.DX.itemsO p d) ∧ Rd H d (.dK kvs) ∧ RpD K H kvs es ∧ sortB (itemsD es) = true ∧
  ∀ (ts : List Addr) (l : Addr) (ys : List V), ts.Nodup → (∀ t ∈ ts, H t = none) → ts.length = kvs.length → LiI.putT H ts kvs l = none → (∀ K G, RpL K G (ts.map V.ref) (itemsD es) → RpL K G ys (sortD (itemsD es))) → Q (.ref l) (upd (LiI.putT H ts kvs) l (.lst ys))
theorem items_laid2 {pins : List (Addr × Obj)} {σ : L2.St} {H : Hp} {s : Shared} {h' : Heap} {tk : Nat} {kvs : List (Key × V)} {vs : List (Key × Value)} {as : List Addr} (I : Inv X pins σ H s) (kv : KV kvs vs)
    (hk : ∀ b o, s.heap.get? b = some o → h'.get? b = some o) (hl : as.length = vs.length) (hG : PySem.W.KdxG (mixKind X.prog X.w) vs s.heap.objs.size h' as) :
    as.Nodup ∧ (∀ t ∈ as, H t = none) ∧ as.length = kvs.length ∧ Paired (fun (t : Addr) (q : Key × V) => LiI.putT H as kvs t = some (.tup [kV q.1, q.2])) as kvs ∧ Inv X pins σ (LiI.putT H as kvs) { s with heap := h', toks := tk } := by
  have lk : kvs.length = vs.length := Paired.length kv
  have nd : as.Nodup := List.Pairwise.imp (fun {a b} (h : a < b) => Nat.ne_of_lt h) hG.rise
  have new : ∀ t ∈ as, H t = none := fun t ht => I.hok.fresh (Nat.le_of_lt (hG.above t ht))
  have atP := LiI.putT_at as kvs H (by omega) nd
  have off : ∀ b, b ∉ as → LiI.putT H as kvs b = H b := fun b h1 => LiI.putT_off as kvs _ h1
  have low : ∀ b o, s.heap.get? b = some o → b ∉ as := fun b o e z => absurd (Heap.lt_size e) (Nat.not_lt.mpr (Nat.le_of_lt (hG.above b z)))
  have kp : ∀ b u, H b = some u → (LiI.putT H as kvs) b = some u := fun b u e => by
    rw [off b (fun z => by rw [new b z] at e; cases e)]
    exact e
  refine ⟨nd, new, by omega, atP, ?_⟩
  refine I.call' (ch := []) rfl ⟨fun b o q _ _ _ => hk b o q, fun b o q _ _ _ => ⟨o.slots, hk b o q⟩, fun b o q n _ => ?_, fun b o q _ => ⟨o, hk b o q⟩, fun b xs q => kp b _ q, fun b o u q => kp b _ q, fun b ps q => ⟨#[], by rw [kp b _ q]; simp⟩⟩ (fun b u q => ?_) I.bare fun b z => by simp at z
  · rw [off b (low b o q)]
    exact n
  · by_cases hb : b ∈ as
    · obtain ⟨j, pk, e1, e2, e3⟩ := LiI.paired_ix atP hb
      rw [e3] at q
      cases q
      obtain ⟨key, k, x, f1, f2, f3⟩ := hG.pairs j b e1
      obtain ⟨qv, g1, g2, g3⟩ := LiI.paired_get kv e2
      rw [f1] at g1
      cases g1
      have rk : RelV (kV pk.1) key := by
        rw [g2]
        exact relV_key (show keyIs k key = true from f2)
      exact ⟨by show 2 ≤ sizeLine; decide, [key, x], .cons rk (.cons g3 .nil), ⟨_, f3, rfl, _, rfl⟩⟩
    · rw [off b hb] at q
      exact (I.hok b u q).stay (fun d v _ y => hk d v y) (fun d y => kp d _ y) fun d xs y => kp d _ y
theorem cr_sortedK (hc : X.calm = true) (hu : X.A.units + 200 < cLine) : CallR X (.builtin "sorted") (rSortedK X.K) := by
  intro pins s σ H xs us Q I r h
  obtain ⟨p, d, kvs, es, rfl, hp, hd, rd, hb, q⟩ := h
  obtain rfl := Vals.ref1 r
  have view : s.heap.IsItemsView p d := (show ObjOk X.prog X.w H s.heap p (L2.DX.itemsO p d) from I.hok p _ hp).1
  obtain ⟨hz, hs0, vs, kv, hdo⟩ := dk_rd I.hok hd
  obtain ⟨ep, hat⟩ := hdo.dictAt
  have lk : kvs.length = vs.length := Paired.length kv
  refine sortedX_run (Ok := fun H' ys ds => ∃ ts : List Addr, ys = ts.map V.ref ∧ ds = itemsD es ∧ H' = LiI.putT H ts kvs ∧ ts.Nodup ∧ (∀ t ∈ ts, H t = none) ∧ ts.length = kvs.length) (I.ok.hd hc) hu (fun A E' Q' hh k => ?_) (fun H' ys ds l zs ok hl g => ?_)
  · refine PySem.W.kdx_collect (knd := mixKind X.prog X.w) (kvs := vs) (ep := ep) hh view hat (by omega) fun h' tk as hk hl hG => ?_
    obtain ⟨nd, new, la, atP, J⟩ := items_laid2 (tk := tk) I kv hk hl hG
    refine k _ _ _ (itemsD es) _ J (items_rp atP ?_) hb (by rw [List.length_map]; omega) ⟨as, rfl, rfl, rfl, nd, new, la⟩ (LiI.vals_refs as)
    exact RpD.mono (Sub.of (putT_same as kvs H new nd)) rd
  · obtain ⟨ts, rfl, rfl, rfl, nd, new, la⟩ := ok
    exact q ts l zs nd new la hl g
def cSortI (f : Ex) : Ex := fun env W => (f env W).bind fun r => match r.1 with
  | .dict es => if isT es = false ∧ sortB (itemsD es) = true then some (.list (sortD (itemsD es)), .fr, r.2.2) else none
  | _ => none
theorem putT_upd {p : Addr} {o : HO} : ∀ (ts : List Addr) (kvs : List (Key × V)) (H : Hp) {q : Addr}, LiI.putT (upd H p o) ts kvs q = none → q ≠ p ∧ LiI.putT H ts kvs q = none := by
  have key : ∀ (ts : List Addr) (kvs : List (Key × V)) (H H' : Hp) {q : Addr}, (H' q = none → H q = none) → LiI.putT H' ts kvs q = none → LiI.putT H ts kvs q = none := by
    intro ts
    induction ts with
    | nil => intro kvs H H' q g h; exact g h
    | cons t ts ih =>
      intro kvs H H' q g h
      cases kvs with
      | nil => exact g h
      | cons a kvs =>
        refine ih kvs _ _ (fun z => ?_) h
        by_cases e : q = t
        · subst e; rw [upd_same] at z; cases z
        · rw [upd_ne e] at z ⊢; exact g z
  have k2 : ∀ (ts : List Addr) (kvs : List (Key × V)) (H : Hp) {q : Addr}, LiI.putT H ts kvs q = none → H q = none := by
    intro ts
    induction ts with
    | nil => intro kvs H q h; exact h
    | cons t ts ih =>
      intro kvs H q h
      cases kvs with
      | nil => exact h
      | cons a kvs =>
        have z := ih kvs _ h
        by_cases e : q = t
        · subst e; rw [upd_same] at z; cases z
        · rw [upd_ne e] at z; exact z
  intro ts kvs H q h
  have z := k2 ts kvs _ h
  have ne : q ≠ p := fun e => by subst e; rw [upd_same] at z; cases z
  exact ⟨ne, key ts kvs H _ (fun z => by rw [upd_ne ne] at z; exact z) h⟩
theorem px_sortI (hc : X.calm = true) (hu : X.A.units + 200 < cLine) (hg : Gl X "sorted") (hm : X.mg "sorted" = none) (he : PX X e f) (hbase : attributeBase e "items" X.env (eval e X.env) = eval e X.env := by rfl) (hline : (apos.endLine == cpos.line) = true := by rfl)
    (hs : starEach [.Call (.Attribute e "items" apos) [] [] cpos] X.env = (false, eval (.Call (.Attribute e "items" apos) [] [] cpos) X.env) :: starEach [] X.env := by rfl) :
    PX X (.Call (.Name "sorted" p) [.Call (.Attribute e "items" apos) [] [] cpos] [] pos) (cSortI f) :=
  PE.imp (pe_callB (cr_sortedK hc hu) hg hm PyProof.Rows.boot_sorted (pa_cons (pe_itemsK he hbase hline) pa_nil hs) (by decide) (by decide) hs (by rfl)) fun σ H Q q => by
    obtain ⟨B, Gb, G, env, W, d, k, W', S, e, c⟩ := q
    unfold cSortI at e
    rw [Option.bind_eq_some_iff] at e
    obtain ⟨⟨d1, k1, W1⟩, e1, e⟩ := e
    dsimp only at e
    split at e
    · rename_i es
      split at e
      · rename_i hcond
        cases e
        refine ⟨B, Gb, G, env, W, _, _, _, S, e1, fun v1 G1 H1 s1 S1 h1 => ?_⟩
        obtain ⟨a, kvs, rfl, hd, rd⟩ := h1.dictD S1 hcond.1
        refine ⟨a, kvs, rfl, hd, fun p hp => ?_⟩
        have S2 := S1.laid (o := L2.DX.itemsO p a) hp
        refine ⟨p, a, kvs, es, rfl, upd_same, Rd.same (same_upd hp) hd, RpD.mono (Sub.of S2.sg) rd, hcond.2, fun ts l ys nd new la hl g => ?_⟩
        have S3 := S2.putT ts kvs new nd
        have newG : ∀ t ∈ ts, G1 t = none := fun t ht => S2.sg.free (new t ht)
        have atP := LiI.putT_at ts kvs G1 la nd
        have sG : Same G1 (LiI.putT G1 ts kvs) := putT_same ts kvs G1 newG nd
        have rl := items_rp (K := X.K) atP (RpD.mono (Sub.of sG) rd)
        exact (c.sub (s1.trans sG)).fr S3 hl (show RpO X.K (LiI.putT G1 ts kvs) (.lst ys) (.list _) from g _ _ rl)
      · cases e
    · cases e
end
end PX

namespace PX
open PySem PySem.Spec PyProof.Rows L2
section
variable {X : Cx} {a b c : Expr} {f g fk : Ex} {pos : Pos}
/-! ### x = xs.pop(0) -/
def sPop (i j : Nat) : Sx := fun env W => match env[i]? with
  | some (.ow (.list (d :: ds))) => some (.nx ((env.set i (.ow (.list ds))).set j (.pl d)) W)
  | _ => none
theorem psx_pop {i j : Nat} {o : Expr} {x : Str} {pos' apos cpos : Pos} (hN : X.N.Nodup) (ho : PX X o (cVar i)) (hc : PX X c (cK (.int 0))) (hj : X.N[j]? = some x := by rfl) (hx : Loc X.env.scope x := by first | exact .inl rfl | exact .inr rfl)
    (hbase : attributeBase o "pop" X.env (eval o X.env) = eval o X.env := by rfl)
    (hfew : ((backTo cpos (starEach [c] X.env)).all (fun x => !x.1) && (backToKw cpos (keywordEach [] X.env)).all (fun x => x.1.isSome)
      && decide (([c] : List Expr).length + ([] : List Keyword).length + (if ([] : List Keyword).isEmpty then 0 else 1) < 30)) = true := by rfl)
    (hline : (apos.endLine == cpos.line) = true := by rfl) (hs : starEach [c] X.env = (false, eval c X.env) :: starEach [] X.env := by rfl) (hplain : (backTo cpos (starEach [] X.env)).any (·.1) = false := by rfl)
    (hsw : swapsWith (.Call (.Attribute o "pop" apos) [c] [] cpos) (some (.Name x pos')) pos.line X.env = pure false := by rfl)
    (hf : X.fn x = true ∨ X.env.scope.names.lookup x = some .local := by first | exact .inl rfl | exact .inr rfl) :
    PSX X (.Assign [.Name x pos'] (.Call (.Attribute o "pop" apos) [c] [] cpos) pos) (sPop i j) :=
  PS.imp (ps_set hN hj hx (pe_bm PySem.F.plainAttrs_list PySem.F.slot_list_pop PySem.F.type_list_pop mt_popAt ho (pxs_cons hc pxs_nil hs) hbase hfew hline hs hplain) hsw hf) fun D σ H q => by
  obtain ⟨B, Gb, G, env, W, o, S, e, p⟩ := q
  unfold sPop at e
  split at e
  · rename_i d ds ed
    cases e
    have ev : cVar i env W = some (.list (d :: ds), .pk i, W) := by unfold cVar; rw [ed]
    refine ⟨B, Gb, G, env, W, _, _, W, S, ev, fun v1 G1 H1 s1 S1 h1 => ?_⟩
    obtain ⟨x, xs, rfl, hx, rx⟩ := h1.list S1
    refine ⟨.inl ⟨rfl, xs, .of hx⟩, B, Gb, G1, env, W, [(.int 0, .im)], W, S1, rfl, fun vs G2 H2 s2 S2 p2 => ?_⟩
    match vs, p2 with
    | [v], p2 =>
      obtain rfl := p2.1.int S2
      obtain ⟨qa, ob, b1, b2, b3, b4, b5⟩ := S2.ow i _ ed
      have ex : qa = x := by
        have := h1.1
        rw [b1] at this
        cases this
        rfl
      subst ex
      cases ob <;> first | exact b5.elim | skip
      rename_i ys
      have b5 : RpL X.K G2 ys (d :: ds) := b5
      cases b5 with
      | cons ra rb =>
        rename_i y yr
        refine ⟨qa, y :: yr, 0, 0, y, rfl, rfl, b4, by decide, by decide, ?_, rfl, ?_⟩
        · unfold seqIndex?
          simp
        · have S3 := S2.change (o := .lst yr) (d' := .list ds) ed b1 rb
          exact p _ G2 _ (s1.trans s2) (S3.setSl j (.pl d) y ra fun z => absurd z Bool.false_ne_true)
  · cases e
/-! ### x, d[k] = e, f -/
def sParD (i j : Nat) (f g fk : Ex) : Sx := fun env W => match cArgs [f, g] env W with
  | some ([(d1, .im), (d2, .im)], W1) => (match fk (env.set i (.pl d1)) W1, (env.set i (.pl d1))[j]? with
    | some (k, .im, W2), some (.ow (.dict es)) => if keyFit es k = true ∧ es.length < 16777216 then some (.nx ((env.set i (.pl d1)).set j (.ow (.dict (dputE es k d2)))) W2) else none
    | _, _ => none)
  | _ => none
theorem psx_parD {i j : Nat} {x : Str} {o kx : Expr} {px ps pt : Pos} {kt k2 : Nat} {pt2 : Pos} (hc : X.calm = true) (hu : X.A.units + 200 < cLine) (hN : X.N.Nodup) (ha : PX X a f) (hb : PX X b g) (ho : PX X o (cVar j)) (hk : PX X kx fk)
    (hi : X.N[i]? = some x := by rfl) (hx : Loc X.env.scope x := by first | exact .inl rfl | exact .inr rfl) (hf : X.fn x = true ∨ X.env.scope.names.lookup x = some .local := by first | exact .inl rfl | exact .inr rfl)
    (hs2 : starEach [a, b] X.env = (false, eval a X.env) :: starEach [b] X.env := by rfl) (hs1 : starEach [b] X.env = (false, eval b X.env) :: starEach [] X.env := by rfl)
    (ht1 : (assignEach [.Name x px, .Subscript o kx ps] X.env).map (·.2) = assign (.Name x px) X.env :: (assignEach [.Subscript o kx ps] X.env).map (·.2) := by rfl) (ht2 : (assignEach [.Subscript o kx ps] X.env).map (·.2) = assign (.Subscript o kx ps) X.env :: (assignEach [] X.env).map (·.2) := by rfl)
    (hn : (assignEach [.Name x px, .Subscript o kx ps] X.env).length = 2 := by rfl) (hst : (assignEach [.Name x px, .Subscript o kx ps] X.env).findIdx? (·.1) = none := by rfl)
    (hss : swapsWithSole [.Tuple [.Name x px, .Subscript o kx ps] kt pt] (.Tuple [a, b] k2 pt2) pos.line X.env = pure false := by rfl) (hw : swappedStores [.Tuple [.Name x px, .Subscript o kx ps] kt pt] (.Tuple [a, b] k2 pt2) X.env = pure none := by rfl)
    (h1 : (assignEach [.Tuple [.Name x px, .Subscript o kx ps] kt pt] X.env).map (·.2) = [assign (.Tuple [.Name x px, .Subscript o kx ps] kt pt) X.env] := by rfl)
    (has : ∀ v, assign (.Subscript o kx ps) X.env v = (do
      let ov ← holding [v] (eval o X.env)
      let iv ← holding [v, ov] (eval kx X.env)
      standAt ps
      holding [v, ov, iv] (setItem ov iv v)
      release [v, ov, iv] []) := by intro _; rfl) :
    PSX X (.Assign [.Tuple [.Name x px, .Subscript o kx ps] kt pt] (.Tuple [a, b] k2 pt2) pos) (sParD i j f g fk) :=
  PS.imp (ps_asg (pe_tup (pxs_cons ha (pxs_cons hb pxs_nil hs1) hs2)) (pg_tup hc (pgs_cons (pg_name hN hi hx hf) (pgs_cons (pg_sub ho hk (set_dict (by omega)) has) pgs_nil ht2) ht1) hn hst) hss hw h1) fun D σ H q => by
  obtain ⟨B, Gb, G, env, W, o, S, e, p⟩ := q
  unfold sParD at e
  split at e
  · rename_i d1 d2 W1 e1
    split at e
    · rename_i k W2 es e2 e3
      split at e
      · rename_i hcond
        cases e
        refine ⟨B, Gb, G, env, W, _, W1, S, e1, fun vs G1 H1 t1 S1 p1 => ?_⟩
        match vs, p1 with
        | [v1, v2], p1 =>
          obtain ⟨r1, _, r2, _⟩ := p1
          have r1 : Rp X.K G1 v1 d1 := r1
          have r2 : Rp X.K G1 v2 d2 := r2
          refine ⟨by show 2 ≤ sizeLine; decide, fun a hp => ⟨a, [v1, v2], rfl, .of upd_same, rfl, v1, [v2], rfl, v2, [], rfl, ?_⟩⟩
          have S2 := S1.laid (o := .tup [v1, v2]) hp
          have S3 := S2.setSl i (.pl d1) v1 r1 fun z => absurd z Bool.false_ne_true
          have ev : cVar j (env.set i (.pl d1)) W1 = some (.dict es, .pk j, W1) := by unfold cVar; rw [e3]
          refine ⟨B, Gb, G1, _, W1, _, _, W1, S3, ev, fun v G2 H2 s2 S4 h2 => ⟨B, Gb, G2, _, W1, _, _, W2, S4, e2, fun vk G3 H3 s3 S5 h3 => ?_⟩⟩
          have h3 : Rp X.K G3 vk k := h3
          obtain ⟨pa, ob, b1, b2, b3, b4, b5⟩ := S5.ow j _ e3
          have ex : v = .ref pa := by
            have := h2.1
            rw [b1] at this
            cases this
            rfl
          obtain ⟨o', dp, ro⟩ := dput_of S5.sg b4 b5 h3 (Rp.mono (Sub.of (s2.trans s3)) r2) hcond.1 hcond.2
          exact ⟨pa, _, ex, dp, rfl, p _ G3 _ ((t1.trans s2).trans s3) (S5.change e3 b1 ro)⟩
      · cases e
    · cases e
  · cases e
end
end PX

namespace PX
open PySem PySem.Spec PyProof.Rows L2
open PySem.AutoSeq1 (wpAny_loadPart')
open PySem.MeetsSeq PySem.MeetsSeq2 PySem.MeetsSeq3 PySem.SeqRoads2
/-! ### x in a list of data with dicts -/
section
variable {prog : Program} {w : World}
theorem contains_loopIn (l : Addr) (items : Array Value) (n : Nat) (dd : Option Addr) (sl : Array (Option Value)) (x : Value) (e : Value → Bool) (k : Nat) :
    ∀ i : Nat, items.size - i = k → MeetsIn prog w (Builtin.«list.__contains__.loop» ⟨[.ref l, x, rawInt i], []⟩)
      (fun A R s => s.heap.get? l = some { cls := .type "list", dict := dd, data := .seq items n, slots := sl } ∧ (∀ y, y ∈ items → SeqAt.EqIn prog w A.in1 s y x (e y)) ∧ R (.ok (.ret (.bool ((items.toList.drop i).any e)))) s) := by
  induction k with
  | zero =>
    intro i hk A R s h
    obtain ⟨hp, g, d, tk, os⟩ := s; obtain ⟨hl, he, h⟩ := h
    wp_walk using wpAny_loadPart' hl
    have hi : items[((i : Nat) : Int).toNat]? = none := by simp; omega
    have hd : items.toList.drop i = [] := by simp; omega
    rw [hd] at h
    rw [hi]
    wp_walk
    exact h
  | succ k ih =>
    intro i hk A R s h
    obtain ⟨hp, g, d, tk, os⟩ := s; obtain ⟨hl, he, h⟩ := h
    wp_walk using wpAny_loadPart' hl
    have hlt : i < items.size := by omega
    have hi : items[((i : Nat) : Int).toNat]? = some items[i] := by simp [hlt]
    have hd : items.toList.drop i = items[i] :: items.toList.drop (i + 1) := by simp [List.drop_eq_getElem_cons, hlt]
    rw [hd, List.any_cons] at h
    rw [hi]
    refine wpAny_bind (he _ (Array.getElem_mem hlt) _ _ ?_)
    cases hb : e items[i] with
    | true =>
      rw [hb] at h
      wp_walk
      exact h
    | false =>
      rw [hb] at h
      have hc : ((i : Int) + 1) = ((i + 1 : Nat) : Int) := by push_cast; rfl
      wp_walk
      rw [hc]
      exact ⟨plainId_quiet plain_contains_loop _, codeAny_builtin entry_contains_loop (by
        rw [Around.under_plainId plain_contains_loop _]
        exact ih (i + 1) (by omega) A R _ ⟨hl, he, by simpa using h⟩)⟩
theorem list_containsIn (l : Addr) (items : Array Value) (n : Nat) (dd : Option Addr) (sl : Array (Option Value)) (x : Value) (e : Value → Bool) :
    MeetsIn prog w (Builtin.«list.__contains__» ⟨[.ref l, x], []⟩)
      (fun A R s => s.heap.get? l = some { cls := .type "list", dict := dd, data := .seq items n, slots := sl } ∧ (∀ y, y ∈ items → SeqAt.EqIn prog w A.in1 s y x (e y)) ∧ R (.ok (.ret (.bool (items.any e)))) s) := by
  intro A R s h
  obtain ⟨hp, g, d, tk, os⟩ := s; obtain ⟨hl, he, h⟩ := h
  wp_walk using wpAny_loadPart' hl
  exact ⟨plainId_quiet plain_contains_loop _, codeAny_builtin entry_contains_loop (by
    rw [Around.under_plainId plain_contains_loop _]
    exact contains_loopIn l items n dd sl x e _ 0 rfl A R _ ⟨hl, he, by simpa using h⟩)⟩
variable {A : Around} {E : Value → Shared → Prop} {s : Shared}
theorem in_listIn {l : Addr} {items : Array Value} {x : Value} {Q : Value → Shared → Prop} (e : Value → Bool) (hl : s.heap.IsList l items) (he : ∀ y, y ∈ items → SeqAt.EqIn prog w A.in1 s y x (e y))
    (h : Q (.bool (items.any e)) s) : wpAny (model prog w) A (compareOp .In x (.ref l)) Q E s := by
  obtain ⟨⟨cls, dd, data, sl⟩, ho, hc, n, hd⟩ := id hl
  simp only at hc hd
  subst hc hd
  show wpAny _ A (do return .bool (← contains (.ref l) x)) Q E s
  refine wpAny_bind (wpAny_contains_slot (T := "list") ⟨_, ho, rfl⟩ F.slot_list_contains (wpAny_mono (call_meetsIn F.slot_list_contains ⟨_, ho, rfl⟩ F.entry_list_contains (F.args_list_contains_2 _ _) (list_containsIn l items n dd sl x e) ⟨ho, he, show wants (fun v s' => ∃ b, v = .bool b ∧ Q (.bool b) s') E _ _ from ⟨_, rfl, h⟩⟩) (fun v s' hv => ?_) fun _ _ e => e))
  obtain ⟨b, rfl, hq⟩ := hv
  exact wpAny_truthy_bool (wpAny_pure hq)
theorem notIn_listIn {l : Addr} {items : Array Value} {x : Value} {Q : Value → Shared → Prop} (e : Value → Bool) (hl : s.heap.IsList l items) (he : ∀ y, y ∈ items → SeqAt.EqIn prog w A.in1 s y x (e y))
    (h : Q (.bool (!items.any e)) s) : wpAny (model prog w) A (compareOp .NotIn x (.ref l)) Q E s := by
  obtain ⟨⟨cls, dd, data, sl⟩, ho, hc, n, hd⟩ := id hl
  simp only at hc hd
  subst hc hd
  show wpAny _ A (do return .bool (!(← contains (.ref l) x))) Q E s
  refine wpAny_bind (wpAny_contains_slot (T := "list") ⟨_, ho, rfl⟩ F.slot_list_contains (wpAny_mono (call_meetsIn F.slot_list_contains ⟨_, ho, rfl⟩ F.entry_list_contains (F.args_list_contains_2 _ _) (list_containsIn l items n dd sl x e) ⟨ho, he, show wants (fun v s' => ∃ b, v = .bool b ∧ Q (.bool (!b)) s') E _ _ from ⟨_, rfl, h⟩⟩) (fun v s' hv => ?_) fun _ _ e => e))
  obtain ⟨b, rfl, hq⟩ := hv
  exact wpAny_truthy_bool (wpAny_pure hq)
end
/-! ### a dict against None or a list -/
theorem list_eq_declines_dict (l b : Addr) (items : Array Value) (n : Nat) (dd dd2 : Option Addr) (sl sl2 : Array (Option Value)) (dt : Data) :
    Meets (Builtin.«list.__eq__» ⟨[.ref l, .ref b], []⟩) (fun _ R s => s.heap.get? l = some { cls := .type "list", dict := dd, data := .seq items n, slots := sl } ∧ s.heap.get? b = some { cls := .type "dict", dict := dd2, data := dt, slots := sl2 } ∧ R (.ok (.ret .notImplemented)) s) :=
  .of_wp fun prog w A R s h => by obtain ⟨hp, g, d, tk, os⟩ := s; obtain ⟨hl, hb, h⟩ := h; have f1 := F.sub_dict_list; wp_walk using wpAny_loadPart' hl, wpAny_load hb; exact ⟨_, rfl, h⟩
section
variable {prog : Program} {w : World} {A : Around} {E : Value → Shared → Prop} {s : Shared}
theorem dict_declines {a : Addr} {x : Value} {T : String} (ta : s.TypeIs (.ref a) "dict") (tx : s.TypeIs x T) (hs : isSubtype (.type T) (.type "dict") = pure false) {Q : Value → Shared → Prop} (h : Q .notImplemented s) : wpAny (model prog w) A (call (.builtin "dict.__eq__") [.ref a, x]) Q E s := by
  refine wpAny_call_entry PySem.F.slot_dict_eq ta PySem.F.entry_dict_eq ?_ (PySem.F.args_dict_eq_2 _ _)
  show wpAny _ _ (Builtin.Dict.dictSlotArgs "__eq__" ⟨[.ref a, x], []⟩ >>= _) _ _ s
  refine wpAny_bind ?_
  unfold Builtin.Dict.dictSlotArgs
  refine wpAny_bind (wpAny_notOrdered_dict ta ?_)
  show wpAny _ _ (pure (Value.ref a, x)) _ _ s
  refine wpAny_pure ?_
  refine wpAny_bind (wpAny_isInstance (T := T) tx hs ?_)
  simp only [Bool.not_false, if_true]
  refine wpAny_bind (wpAny_rule ?_)
  exact wpAny_pure ⟨_, rfl, h⟩
theorem eqIn_dict_none {a : Addr} (ta : s.TypeIs (.ref a) "dict") (hu : A.units < cLine) : SeqAt.EqIn prog w A s (.ref a) .none false := fun E Q h => by
  unfold eqBool
  refine wpAny_holding ?_
  refine wpAny_ite_split (fun hab => absurd (eq_of_beq hab) nofun) (fun _ => ?_)
  exact wpAny_bind (SeqAt.rc_eq_decline_or (k := false) ta rfl (by decide) F.sub_NoneType_dict F.slot_dict_eq F.slot_NoneType_eq_refl
    (fun _ hq => dict_declines ta (show s.TypeIs .none "NoneType" from rfl) F.sub_NoneType_dict hq)
    (fun _ hq => call_gives F.slot_NoneType_eq_refl rfl F.entry_NoneType_eq (F.args_NoneType_eq_2 _ _) (SeqAt.NoneType___eq___none_ref_0 a) hq)
    (fun _ hq => wpAny_of_eq (rfl : isSame (.ref a) .none = pure false) hq) (.inr hu) (wpAny_truthy_bool h))
theorem eqIn_dict_list {a l : Addr} {items : Array Value} {o : Obj} (ho : s.heap.get? a = some o) (hc : o.cls = .type "dict") (hl : s.heap.IsList l items) (hu : A.units < cLine) : SeqAt.EqIn prog w A s (.ref a) (.ref l) false := by
  obtain ⟨⟨cls, dd, data, sl⟩, ho2, hc2, n, hd2⟩ := id hl
  obtain ⟨c1, d1, t1, s1⟩ := o
  simp only at hc2 hd2 hc
  subst hc2 hd2 hc
  have hne : a ≠ l := fun e => by
    subst e
    rw [ho] at ho2
    have z := congrArg Obj.cls (Option.some.inj ho2)
    exact absurd z (by simp)
  exact SeqAt.EqIn.of_refs hne fun E Q h => SeqAt.rc_eq_decline_or (k := false) ⟨_, ho, rfl⟩ ⟨_, ho2, rfl⟩ (by decide) F.sub_list_dict F.slot_dict_eq F.slot_list_eq_refl
    (fun _ hq => dict_declines (show s.TypeIs (.ref a) "dict" from ⟨_, ho, rfl⟩) (show s.TypeIs (.ref l) "list" from ⟨_, ho2, rfl⟩) F.sub_list_dict hq)
    (fun _ hq => call_meets F.slot_list_eq_refl ⟨_, ho2, rfl⟩ F.entry_list_eq (F.args_list_eq_2 _ _) (list_eq_declines_dict l a items n dd d1 sl s1 t1) ⟨ho2, ho, hq⟩)
    (fun _ hq => SeqAt.wpAny_isSame_ref_other' hne ho ho2 (by simp) hq) (.inr hu) h
end
/-- y == x for an item y of the list -/
def deq2 (y x : PyData) : Option Bool := match y, x with
  | .dict es, .none => if isT es = false then some false else none
  | .dict es, .list _ => if isT es = false then some false else none
  | _, _ => deq 8 y x
def anyD : List PyData → PyData → Option Bool
  | [], _ => some false
  | y :: ys, x => (deq2 y x).bind fun b => (anyD ys x).map fun c => b || c
def oInD : Op
  | [(x, _), (.list ds, _)] => (anyD ds x).map fun b => (.bool b, .im)
  | _ => none
def oNotInD : Op
  | [(x, _), (.list ds, _)] => (anyD ds x).map fun b => (.bool (!b), .im)
  | _ => none
section
variable {X : Cx} {pins : List (Addr × Obj)} {σ : L2.St} {H : Hp} {s : Shared}
theorem Rp.dK' {K : PySem.W.Frag} {G : Hp} {v : V} {es : List (PyData × PyData)} (h : Rp K G v (.dict es)) (n : isT es = false) : ∃ a kvs, v = .ref a ∧ Rd G a (.dK kvs) ∧ RpD K G kvs es := by
  cases h with
  | dK ha rd => exact ⟨_, _, rfl, ha, rd⟩
  | dT e _ _ _ => subst e; cases n
theorem deq2_run (I : Inv X pins σ H s) (hu : X.A.units + 200 < cLine) {y x : V} {u v : Value} {a b : PyData} {r : Bool} (ha : Rp X.K H y a) (hb : Rp X.K H x b) (ry : RelV y u) (rx : RelV x v) (h : deq2 a b = some r) : SeqAt.EqIn X.prog X.w X.A.in1 s u v r := by
  have hu1 : X.A.in1.units < cLine := by show X.A.units + 1 < cLine; omega
  unfold deq2 at h
  split at h
  · split at h
    · rename_i hn
      cases h
      obtain ⟨d, kvs, rfl, g, rd⟩ := ha.dK' hn
      cases ry
      cases hb
      cases rx
      obtain ⟨_, _, vs, kv, hdo⟩ := dk_rd I.hok g
      exact eqIn_dict_none hdo.typeIs hu1
    · cases h
  · split at h
    · rename_i hn
      cases h
      obtain ⟨d, kvs, rfl, g, rd⟩ := ha.dK' hn
      cases ry
      cases hb with
      | lst hx rl =>
        cases rx
        obtain ⟨_, _, vs, kv, o, es, ep, ho, hx', _⟩ := dk_rd I.hok g
        obtain ⟨its, r', pl, hz⟩ := I.list (.of hx)
        exact eqIn_dict_list ho hx'.1 pl.isList hu1
    · cases h
  · exact (eq_run I 8 X.A.in1 (by show X.A.units + 1 + 8 + 64 < cLine; omega)).eq ha hb ry rx h
theorem anyD_run (I : Inv X pins σ H s) (hu : X.A.units + 200 < cLine) {x : V} {v : Value} {b : PyData} (hb : Rp X.K H x b) (rx : RelV x v) : ∀ {ys : List V} {us : List Value} {ds : List PyData} {r : Bool}, RpL X.K H ys ds → Vals ys us → anyD ds b = some r →
    ∃ rs : List (Value × Bool), rs.map (·.1) = us ∧ (∀ p ∈ rs, SeqAt.EqIn X.prog X.w X.A.in1 s p.1 v p.2) ∧ rs.any (·.2) = r
  | _, _, _, _, .nil, rv, h => by
    cases rv
    cases h
    exact ⟨[], rfl, fun _ z => by simp at z, rfl⟩
  | _, _, _, _, .cons ha hr, rv, h => by
    cases rv with
    | cons r1 r2 =>
      unfold anyD at h
      rw [Option.bind_eq_some_iff] at h
      obtain ⟨b1, e1, h⟩ := h
      rw [Option.map_eq_some_iff] at h
      obtain ⟨b2, e2, h⟩ := h
      subst h
      obtain ⟨rs, q1, q2, q3⟩ := anyD_run I hu hb rx hr r2 e2
      refine ⟨(_, b1) :: rs, by rw [List.map_cons, q1], fun p hp => ?_, by rw [List.any_cons, q3]⟩
      rcases List.mem_cons.mp hp with rfl | hp
      · exact deq2_run I hu ha hb r1 rx e1
      · exact q2 p hp
open Classical in
theorem anyD_fn {A : Around} {rs : List (Value × Bool)} {v : Value} (h : ∀ p ∈ rs, SeqAt.EqIn X.prog X.w A s p.1 v p.2) : ∃ e : Value → Bool, (∀ y, y ∈ (rs.map (·.1)).toArray → SeqAt.EqIn X.prog X.w A s y v (e y)) ∧ (rs.map (·.1)).toArray.any e = rs.any (·.2) := by
  refine ⟨fun y => decide (∃ p ∈ rs, p.1 = y ∧ p.2 = true), fun y hy => ?_, ?_⟩
  · obtain ⟨p, hp, rfl⟩ := List.mem_map.mp (List.mem_toArray.mp hy)
    by_cases q : ∃ p' ∈ rs, p'.1 = p.1 ∧ p'.2 = true
    · dsimp only
      rw [decide_eq_true q]
      obtain ⟨p', h1, h2, h3⟩ := q
      have := h p' h1
      rw [h2, h3] at this
      exact this
    · dsimp only
      rw [decide_eq_false q]
      have := h p hp
      have e : p.2 = false := by
        cases z : p.2 with
        | false => rfl
        | true => exact absurd ⟨p, hp, rfl, z⟩ q
      rw [e] at this
      exact this
  · rw [Bool.eq_iff_iff]
    simp only [List.any_toArray, List.any_map, List.any_eq_true, Function.comp, decide_eq_true_eq]
    constructor
    · rintro ⟨p, hp, p', hp', _, h3⟩
      exact ⟨p', hp', h3⟩
    · rintro ⟨p, hp, h3⟩
      exact ⟨p, hp, p, hp, rfl, h3⟩
theorem so_inD (hu : X.A.units + 200 < cLine) : OpR X (compareOp .In) (fun x y => rV X.K oInD [x, y]) := by
  intro pins s σ H x y v u Q I rx ry h
  obtain ⟨B, Gb, G, σ1, env, W, d1, k1, d2, k2, d, k, S, h1, h2, ap, e, c⟩ := rV.two h
  unfold oInD at e
  split at e
  · rename_i q
    cases q
    rw [Option.map_eq_some_iff] at e
    obtain ⟨r, e, e2⟩ := e
    cases e2
    obtain ⟨a, ys, rfl, hx, rl⟩ := h2.list S
    cases ry
    obtain ⟨its, rv, pl, hz⟩ := I.list (.of hx)
    obtain ⟨rs, q1, q2, q3⟩ := anyD_run I hu (h1.rp S) rx (RpL.mono (Sub.of S.sg) rl) rv e
    obtain ⟨f, g1, g2⟩ := anyD_fn q2
    rw [q1] at g1 g2
    exact in_listIn f pl.isList g1 ⟨.bl _, H, I, rfl, by rw [g2, q3]; exact c.bool S⟩
  · cases e
theorem so_notInD (hu : X.A.units + 200 < cLine) : OpR X (compareOp .NotIn) (fun x y => rV X.K oNotInD [x, y]) := by
  intro pins s σ H x y v u Q I rx ry h
  obtain ⟨B, Gb, G, σ1, env, W, d1, k1, d2, k2, d, k, S, h1, h2, ap, e, c⟩ := rV.two h
  unfold oNotInD at e
  split at e
  · rename_i q
    cases q
    rw [Option.map_eq_some_iff] at e
    obtain ⟨r, e, e2⟩ := e
    cases e2
    obtain ⟨a, ys, rfl, hx, rl⟩ := h2.list S
    cases ry
    obtain ⟨its, rv, pl, hz⟩ := I.list (.of hx)
    obtain ⟨rs, q1, q2, q3⟩ := anyD_run I hu (h1.rp S) rx (RpL.mono (Sub.of S.sg) rl) rv e
    obtain ⟨f, g1, g2⟩ := anyD_fn q2
    rw [q1] at g1 g2
    exact notIn_listIn f pl.isList g1 ⟨.bl _, H, I, rfl, by rw [g2, q3]; exact c.bool S⟩
  · cases e
end
end PX

namespace PX
open PySem PySem.Spec PyProof.Rows L2
/-! ### isinstance(x, dict) -/
def dictIs : PyData → Option Bool
  | .dict es => if isT es = false then some true else none
  | .list _ => some false
  | .none => some false
  | _ => none
def oIsiDict : Op
  | [(d, _)] => (dictIs d).map fun b => (.bool b, .im)
  | _ => none
theorem rp_tyD {K : PySem.W.Frag} {H : Hp} {v : V} {d : PyData} {b : Bool} (h : Rp K H v d) (n : dictIs d = some b) : TyX K H v (.type (tyD d)) ∧ kitB (tyD d) "dict" = some b := by
  cases h with
  | non => cases n; exact ⟨.base .non, by decide +kernel⟩
  | bl b => cases n
  | int i => cases n
  | str x h => cases n
  | lst ha hr => cases n; exact ⟨.base (.lst ha), show kitB "list" "dict" = some false by decide +kernel⟩
  | tup ha hr => cases n
  | dK ha hr =>
    have n' : (if isT _ = false then some true else none) = some b := n
    rw [if_pos hr.notT] at n'
    cases n'
    refine ⟨?_, by show kitB "dict" "dict" = some true; decide +kernel⟩
    rcases ha with ha | ⟨o, ha⟩
    · exact .base (.dK ha)
    · exact .fDict ha
  | dT e ha _ hr => subst e; cases n
section
variable {X : Cx} {a : Expr} {f : Ex} {p p2 pos : Pos}
theorem px_isiDict (hg : Gl X "isinstance") (hm : X.mg "isinstance" = none) (hg2 : Gl X "dict") (hm2 : X.mg "dict" = none) (ha : PX X a f)
    (h1 : starEach [a, .Name "dict" p2] X.env = (false, eval a X.env) :: starEach [.Name "dict" p2] X.env := by rfl) (h2 : starEach [.Name "dict" p2] X.env = (false, eval (.Name "dict" p2) X.env) :: starEach [] X.env := by rfl) (hpl : (backTo pos (starEach [.Name "dict" p2] X.env)).any (·.1) = false := by rfl) :
    PX X (.Call (.Name "isinstance" p) [a, .Name "dict" p2] [] pos) (cCall oIsiDict [f]) :=
  PE.imp (pe_callB call_isi hg hm PyProof.Rows.boot_isinstance (pa_cons ha (pa_cons (pe_bltn (v := .ty "dict") hg2 hm2 PyProof.Rows.boot_dict rfl (by decide) (by decide)) pa_nil h2) h1) (by decide) (by decide) h1 hpl) fun σ H Q q => by
    obtain ⟨B, Gb, G, env, W, d, k, W', S, e, c⟩ := q
    obtain ⟨d1, k1, e1, e2⟩ := cCall_one e
    have e3 : (dictIs d1).map (fun b => (PyData.bool b, Kd.im)) = some (d, k) := e2
    rw [Option.map_eq_some_iff] at e3
    obtain ⟨b, e3, e4⟩ := e3
    cases e4
    refine ⟨B, Gb, G, env, W, _, _, W', S, e1, fun v1 G1 H1 s1 S1 h1' => ?_⟩
    obtain ⟨t1, t2⟩ := rp_tyD (h1'.rp S1) e3
    exact ⟨v1, .ty "dict", .type (tyD d1), .type "dict", _, rfl, .ty "dict", t1, kit_ty t2, (c.sub s1).bool S1⟩
end
/-! ### sorted of a list that may hold the empty tuple alone -/
def oSortedZ : Op
  | [(.list ds, k)] => if ds.length ≤ 1 then some (.list ds, .fr) else oSorted [(.list ds, k)]
  | _ => none
theorem so_sortedZ {X : Cx} (hc : X.calm = true) (hu : X.A.units + 200 < cLine) : CallR X (.builtin "sorted") (rV X.K oSortedZ) := by
  intro pins s σ H xs us Q I r h
  obtain ⟨B, Gb, G, σ1, env, W, ds, d, k, S, p, e, c⟩ := id h
  unfold oSortedZ at e
  split at e
  · rename_i ds' k'
    split at e
    · rename_i hl
      match xs, p with
      | [x], p =>
        cases e
        obtain ⟨a, ys, rfl, h1, h2⟩ := p.1.list S
        rw [Vals.ref1 r]
        obtain ⟨hz, its, n, hv, ho⟩ := (show ObjOk X.prog X.w H s.heap a (.lst ys) from I.hok _ _ h1)
        have hlen : its.length ≤ 1 := by rw [← hv.length, h2.length]; exact hl
        refine Srt.sorted_any (vs := its) ⟨_, ho, rfl, _, rfl⟩ (by rw [← hv.length]; exact hz) (fun h2 => by omega) fun out hp => ?_
        have ho' : out = its := by
          match its, hlen, hp with
          | [], _, hp => exact List.perm_nil.mp hp
          | [x], _, hp => exact List.perm_singleton.mp hp
        subst ho'
        obtain ⟨ep, he'⟩ := PyProof.Rows.sortedAll_at s.heap out out.toArray
        exact ⟨.ref _, upd H (s.heap.objs.size + 1) (.lst ys), I.laid (t' := s.toks) (fun _ _ => PyProof.Rows.sortedAll_old) (Nat.le_succ _) ⟨hz, out, ep, hv, he'⟩, rfl, c.fr S (I.hok.fresh (Nat.le_succ _)) (show RpO X.K G (.lst ys) (.list ds') from h2)⟩
    · exact so_sorted hc hu pins s σ H xs us Q I r ⟨B, Gb, G, σ1, env, W, _, d, k, S, p, e, c⟩
  · cases e
end PX

namespace PX
open PySem PySem.Spec PyProof.Rows L2
/-! ### xs == [], xs a list of anything -/
def oEqL : Op
  | [(.list ds, _), (.list [], _)] => some (.bool ds.isEmpty, .im)
  | _ => none
theorem so_eqL {X : Cx} (hu : X.A.units + 200 < cLine) : OpR X (compareOp .Eq) (fun x y => rV X.K oEqL [x, y]) := by
  intro pins s σ H x y v u Q I rx ry h
  obtain ⟨B, Gb, G, σ1, env, W, d1, k1, d2, k2, d, k, S, h1, h2, ap, e, c⟩ := rV.two h
  unfold oEqL at e
  split at e
  · rename_i ds e3 e4 q
    cases q
    cases e
    obtain ⟨a, xs, rfl, ha, ra⟩ := h1.list S
    obtain ⟨b, ys, rfl, hb, rb⟩ := h2.list S
    cases rb
    cases rx
    cases ry
    obtain ⟨its, rv, ⟨⟨cls, dd, data, sl⟩, n, ho, hc, hdn, hdt⟩, hz⟩ := I.list (show SqL X.K H a xs from .of ha)
    obtain ⟨its2, rv2, ⟨⟨cls2, dd2, data2, sl2⟩, n2, ho2, hc2, hdn2, hdt2⟩, hz2⟩ := I.list (show SqL X.K H b [] from .of hb)
    simp only at hc hdt hc2 hdt2
    subst hc hdt hc2 hdt2
    cases rv2
    have ty1 : s.TypeIs (.ref a) "list" := ⟨_, ho, rfl⟩
    have ty2 : s.TypeIs (.ref b) "list" := ⟨_, ho2, rfl⟩
    have l1 : its.length = ds.length := by rw [← rv.length, ra.length]
    cases ds with
    | nil =>
      have e0 : its = [] := List.length_eq_zero_iff.mp l1
      subst e0
      refine wpAny_richCompare_same_room (T := "list") (op := .Eq) ty1 ty2 PySem.F.slot_list_eq (call_meets PySem.F.slot_list_eq ty1 PySem.F.entry_list_eq (PySem.F.args_list_eq_2 _ _) (SeqAt.list_eqAt a b #[] #[] n n2 dd dd2 sl sl2 rfl (fun _ => true)) ⟨ho, ho2, fun j h1 => absurd h1 (Nat.not_lt_zero j), ?_⟩) (by omega)
      exact ⟨(fun z => nomatch z), .bl true, H, I, rfl, c.bool S⟩
    | cons x r =>
      have hne : (its.toArray.size != (([] : List Value).toArray).size) = true := by
        rw [List.size_toArray, l1]
        simp
      refine wpAny_richCompare_same_room (T := "list") (op := .Eq) ty1 ty2 PySem.F.slot_list_eq (call_meets PySem.F.slot_list_eq ty1 PySem.F.entry_list_eq (PySem.F.args_list_eq_2 _ _) (SeqAt.list_eq_lengthsAt a b its.toArray ([] : List Value).toArray n n2 dd dd2 sl sl2 hne) ⟨ho, ho2, ?_⟩) (by omega)
      exact ⟨(fun z => nomatch z), .bl false, H, I, rfl, c.bool S⟩
  · cases e
theorem eqLnil {ds : List PyData} (k k' : Kd) : oEqL [(.list ds, k), (.list [], k')] = some (.bool ds.isEmpty, .im) := rfl
end PX

local macro_rules | `(tactic| walk_at "fwop") => `(tactic| rfl)
local macro_rules | `(tactic| walk_at "fwop") => `(tactic| assumption)
local macro_rules | `(tactic| walk_at "fwop") => `(tactic| first
  | exact PX.addI _ _ _ _ | exact PX.subI _ _ _ _ | exact PX.negI _ _ | exact PX.ltI _ _ _ _ | exact PX.leI _ _ _ _ | exact PX.gtI _ _ _ _ | exact PX.geI _ _ _ _
  | exact PX.evI_eq _ _ _ _ | exact PX.evI_ne _ _ _ _ | exact PX.fwIx0T _ _ | exact PX.fwIx1T _ _ | exact PX.fwIx2T _ _ | exact PX.fwIx0 _ _ | exact PX.fwIx1L _ _
  | exact PX.lenI _ _ | exact PX.lenIL _ _ | exact PX.lenM _ _ _ | exact PX.lenML _ _ _ | exact PX.lenL _ | exact PX.lenT _
  | exact PX.mulI _ _ (by omega) _ _ | exact PX.divI _ _ (by omega) (by omega) _ _ | exact PX.modI _ _ (by omega) _ _ | exact PX.absI _ _)
local macro_rules | `(tactic| walk_at "fwx") => `(tactic| first
  | exact PX.fwVar rfl
  | exact PX.fwK
  | exact PX.fwVarO rfl
  | exact PX.fwLst0
  | exact PX.fwTup0
  | assumption
  | (apply PX.fwTup1; walk_at "fwx"; rfl)
  | (apply PX.fwTup2; walk_at "fwx"; rfl; walk_at "fwx"; rfl)
  | (apply PX.fwTup3; walk_at "fwx"; rfl; walk_at "fwx"; rfl; walk_at "fwx"; rfl)
  | (apply PX.fwLst1; walk_at "fwx"; rfl)
  | (apply PX.fwLst2; walk_at "fwx"; rfl; walk_at "fwx"; rfl)
  | (apply PX.fw1; walk_at "fwx"; walk_at "fwop")
  | (apply PX.fw2; walk_at "fwx"; walk_at "fwx"; walk_at "fwop")
  | (apply PX.fwF1; walk_at "fwx"; rfl; walk_at "fwop")
  | (apply PX.fwF2; walk_at "fwx"; rfl; walk_at "fwx"; rfl; walk_at "fwop")
  | (apply PX.fwF3; walk_at "fwx"; rfl; walk_at "fwx"; rfl; walk_at "fwx"; rfl; walk_at "fwop")
  | (apply PX.fwB; walk_at "fwx")
  | (apply PX.fwAnd; walk_at "fwx"; intro _; walk_at "fwx")
  | (apply PX.fwOr; walk_at "fwx"; intro _; walk_at "fwx")
  | (apply PX.fwNot; walk_at "fwx")
  | (apply PX.fwNext; rfl; walk_at "fwx"; omega)
  | (apply PX.fwIf; walk_at "fwx"; walk_at "fwx"; walk_at "fwx")
  | (apply PX.fw3; walk_at "fwx"; walk_at "fwx"; walk_at "fwx"; walk_at "fwop"))
local macro_rules | `(tactic| walk_at "fwi") => `(tactic| first
  | (apply PX.fwSeqL; walk_at "fwx"; done) | (apply PX.fwSeqF; walk_at "fwx"; done) | (apply PX.fwSeqT; walk_at "fwx"; done)
  | (apply PX.fwR1Z; walk_at "fwx"; omega; omega) | (apply PX.fwR2Z; walk_at "fwx"; walk_at "fwx"; omega; omega; omega; omega))
local macro_rules | `(tactic| walk_at "st_set") => `(tactic| (apply PX.ru_set; walk_at "fwx"; rfl; dsimp only [List.set]))
local macro_rules | `(tactic| walk_at "st_par") => `(tactic| (apply PX.ru_par; walk_at "fwx"; rfl; walk_at "fwx"; rfl; dsimp only [List.set]))
local macro_rules | `(tactic| walk_at "st_aug") => `(tactic| (apply PX.ru_aug; rfl; walk_at "fwx"; dsimp only [List.set]))
local macro_rules | `(tactic| walk_at "st_ret") => `(tactic| (apply PX.ru_ret; walk_at "fwx"; rfl))
local macro_rules | `(tactic| walk_at "st_frz") => `(tactic| first | (apply PX.ru_frz0; rfl) | (apply PX.ru_frz; rfl; dsimp only [List.set]))
local macro_rules | `(tactic| walk_at "st_wipe") => `(tactic| (apply PX.ru_wipe; dsimp only [PX.wipeE, List.set]))

set_option maxHeartbeats 4000000
namespace K39
open PySem PySem.Spec PyProof.Rows L2 PX
noncomputable section
def top (i : Nat) : Stmt := PySem.Challenge.pw_papermade_k39_who_gets_which_paper.main.body.getD i (.Pass ⟨0, 0, 0, 0⟩)
/-- the built-in names that the text uses stand in no module -/
structure Bl (mg : Str → Option Value) : Prop where
  abs : mg "abs" = none
  all : mg "all" = none
  dict : mg "dict" = none
  int : mg "int" = none
  isinstance : mg "isinstance" = none
  len : mg "len" = none
  list : mg "list" = none
  range : mg "range" = none
  set : mg "set" = none
  sorted : mg "sorted" = none
  str : mg "str" = none
  tuple : mg "tuple" = none
/-! ### is_pair -/
abbrev s_is_pair : Stmt := top 1
theorem sc_is_pair : FnScope ["printers", "papers", "name", "paper"] ["printers", "papers", "name", "paper"] (defScope s_is_pair) := ⟨rfl, rfl, rfl, by decide +kernel, rfl, by decide +kernel, by decide +kernel⟩
def g_is_pair : Sx := sSeq (sRetK (cAnd (cCall oInR [cVar 3, cCall oIx [cVar 0, cVar 2]]) (cAnd (cCall oIn [cVar 3, cVar 1]) (cCall oInR [cVar 2, cCall oIx [cVar 1, cVar 3]])))) (sNil)
def f_is_pair : List PyData → Option PyData := runF 4 4 g_is_pair
theorem ok_is_pair {P : Program} {w : World} {K : PySem.W.Frag} {mg : Str → Option Value} {base : Heap} {fa : Addr} {fd : FuncData} (b : Bl mg) (F : Fun K "is_pair" "is_pair" s_is_pair fa fd) : FnOk P w K mg base CX0 1 fa fd ["printers", "papers", "name", "paper"] (spF K 4 f_is_pair) :=
  have sc := sc_is_pair
  fn_rule F sc_is_pair rfl (by decide) fun cdv A outer s H E hr =>
(pssx_cons (psx_ret (px_and (px_cmp (so_inR (room_u hr)) (px_var 3) (px_ix (room_u hr) (px_var 0) (px_var 2)) (by rfl)) (px_and (px_cmp (so_in (room_u hr)) (px_var 3) (px_var 1) (by rfl)) (px_one (px_cmp (so_inR (room_u hr)) (px_var 2) (px_ix (room_u hr) (px_var 1) (px_var 3)) (by rfl))))))
pssx_nil)
/-! ### is_match -/
abbrev s_is_match : Stmt := top 2
theorem sc_is_match : FnScope ["printers", "papers", "thing", "name"] ["printers", "papers", "thing"] (defScope s_is_match) := ⟨rfl, rfl, rfl, by decide +kernel, rfl, by decide +kernel, by decide +kernel⟩
def g_is_match : Sx := sSeq (sIf (kOr (kNot (bOf (cCall oIsiDict [cVar 2]))) (kNot (bOf (cCall oAll [cLc (iKey 2) (gN 3) (kTrue) (cAnd (cCall (oIsi "str") [cVar 3]) (cCall oIn [cVar 3, cVar 0])) [3]])))) (sSeq (sRetK (cK (.bool false))) (sNil)) (sNil)) (sSeq (sIf (kNot (bOf (cCall oAll [cLc (iKey 2) (gN 3) (kTrue) (cAnd (cCall (oIsi "str") [cCall oIx [cVar 2, cVar 3]]) (cFn f_is_pair [cVar 0, cVar 1, cVar 3, cCall oIx [cVar 2, cVar 3]])) [3]]))) (sSeq (sRetK (cK (.bool false))) (sNil)) (sNil)) (sSeq (sRetK (cCall oEq [cCall oLenSetS [cLc (iKey 2) (gN 3) (kTrue) (cCall oIx [cVar 2, cVar 3]) [3]], cCall oLen [cVar 2]])) (sNil)))
def f_is_match : List PyData → Option PyData := runF 4 3 g_is_match
theorem ok_is_match {P : Program} {w : World} {K : PySem.W.Frag} {mg : Str → Option Value} {base : Heap} {fa : Addr} {fd : FuncData} (b : Bl mg) (c_is_pair : Cal P w K mg base "is_pair" 1 ["printers", "papers", "name", "paper"] (spF K 4 f_is_pair)) (F : Fun K "is_match" "is_match" s_is_match fa fd) : FnOk P w K mg base CX0 2 fa fd ["printers", "papers", "thing"] (spF K 3 f_is_match) :=
  have sc := sc_is_match
  fn_rule F sc_is_match rfl (by decide) fun cdv A outer s H E hr =>
(pssx_cons (psx_if (PWX.pt (pwx_or (ptx_not (ptx_val (px_isiDict rfl b.isinstance rfl b.dict (px_var 2)))) (pwx_or1 (ptx_not (ptx_val (px_callB (so_all rfl) rfl b.all PyProof.Rows.boot_all (pxs_cons (px_lcD (i := 2) (own := [("name", 3)]) rfl sc.nd rfl (blkOk_by (by kernel_rfl)) (fun _ _ _ _ _ => (pgx_name 3 sc.nd)) (fun _ _ _ _ _ => ptsx_nil) (fun _ _ _ _ _ => (px_and (px_isi (T := "str") rfl b.isinstance rfl b.str PyProof.Rows.boot_str (px_var 3)) (px_one (px_cmp (so_in (room_u hr)) (px_var 3) (px_var 0) (by rfl)))))) pxs_nil)))))))
(pssx_cons (psx_ret px_bool)
pssx_nil)
pssx_nil)
(pssx_cons (psx_if (ptx_not (ptx_val (px_callB (so_all rfl) rfl b.all PyProof.Rows.boot_all (pxs_cons (px_lcD (i := 2) (own := [("name", 3)]) rfl sc.nd rfl (blkOk_by (by kernel_rfl)) (fun _ _ _ _ _ => (pgx_name 3 sc.nd)) (fun _ _ _ _ _ => ptsx_nil) (fun _ _ _ _ _ => (px_and (px_isi (T := "str") rfl b.isinstance rfl b.str PyProof.Rows.boot_str (px_ix (room_u hr) (px_var 2) (px_var 3))) (px_one (px_fnC c_is_pair hr (pxs_cons (px_var 0) (pxs_cons (px_var 1) (pxs_cons (px_var 3) (pxs_cons (px_ix (room_u hr) (px_var 2) (px_var 3)) pxs_nil)))) rfl (by decide)))))) pxs_nil))))
(pssx_cons (psx_ret px_bool)
pssx_nil)
pssx_nil)
(pssx_cons (psx_ret (px_cmp (so_eq (room_64 hr)) (px_lenSetS rfl rfl b.len rfl b.set (px_lcD (i := 2) (own := [("name", 3)]) rfl sc.nd rfl (blkOk_by (by kernel_rfl)) (fun _ _ _ _ _ => (pgx_name 3 sc.nd)) (fun _ _ _ _ _ => ptsx_nil) (fun _ _ _ _ _ => (px_ix (room_u hr) (px_var 2) (px_var 3))))) (px_callB so_len rfl b.len PySem.boot_len (pxs_cons (px_var 2) pxs_nil)) (nomark _)))
pssx_nil)))
/-! ### would_rather -/
abbrev s_would_rather : Stmt := top 3
theorem sc_would_rather : FnScope ["row", "one", "other"] ["row", "one", "other"] (defScope s_would_rather) := ⟨rfl, rfl, rfl, by decide +kernel, rfl, by decide +kernel, by decide +kernel⟩
def g_would_rather : Sx := sSeq (sRetK (cOr (cCall oIs [cVar 2, cK .none]) (cCall oLt [cCall oIndexR [cVar 0, cVar 1], cCall oIndexR [cVar 0, cVar 2]]))) (sNil)
def f_would_rather : List PyData → Option PyData := runF 3 3 g_would_rather
theorem ok_would_rather {P : Program} {w : World} {K : PySem.W.Frag} {mg : Str → Option Value} {base : Heap} {fa : Addr} {fd : FuncData} (b : Bl mg) (F : Fun K "would_rather" "would_rather" s_would_rather fa fd) : FnOk P w K mg base CX0 1 fa fd ["row", "one", "other"] (spF K 3 f_would_rather) :=
  have sc := sc_would_rather
  fn_rule F sc_would_rather rfl (by decide) fun cdv A outer s H E hr =>
(pssx_cons (psx_ret (px_or (px_cmp so_is (px_var 2) px_none (nomark _)) (px_one (px_cmp so_lt (px_indexR (px_var 0) (px_var 1)) (px_indexR (px_var 0) (px_var 2)) (nomark _)))))
pssx_nil)
/-! ### blocks -/
abbrev s_blocks : Stmt := top 4
theorem sc_blocks : FnScope ["printers", "papers", "match", "owner", "found", "name", "paper", "wants"] ["printers", "papers", "match"] (defScope s_blocks) := ⟨rfl, rfl, rfl, by decide +kernel, rfl, by decide +kernel, by decide +kernel⟩
def g_blocks : Sx := sSeq (sSet 3 false (cCall oDict [cLc (iKey 2) (gN 5) (kTrue) (cCall oTup [cCall oIx [cVar 2, cVar 5], cVar 5]) [5]])) (sSeq (sSet 4 true (cCall oLst [])) (sSeq (sFor (iSeq (cCall oSorted [cVar 0])) (gN 5) (sSeq (sFor (iSeq (cCall oSortedR [cCall oIx [cVar 0, cVar 5]])) (gN 6) (sSeq (sIf (kAnd (bOf (cFn f_is_pair [cVar 0, cVar 1, cVar 5, cVar 6])) (bOf (cCall oNe [cCall oGet1 [cVar 2, cVar 5], cVar 6]))) (sSeq (sSet 7 false (cFn f_would_rather [cCall oIx [cVar 0, cVar 5], cVar 6, cCall oGet1 [cVar 2, cVar 5]])) (sSeq (sIf (kAnd (bOf (cVar 7)) (bOf (cFn f_would_rather [cCall oIx [cVar 1, cVar 6], cVar 5, cCall oGet1 [cVar 3, cVar 6]]))) (sSeq (sApp 4 (cCall oTup [cVar 5, cVar 6])) (sNil)) (sNil)) (sNil))) (sNil)) (sNil))) (sWipe [6, 7] (sNil)))) (sWipe [6, 7] (sSeq (sRetK (cCall oTuple [cVar 4])) (sNil)))))
def f_blocks : List PyData → Option PyData := runF 8 3 g_blocks
theorem ok_blocks {P : Program} {w : World} {K : PySem.W.Frag} {mg : Str → Option Value} {base : Heap} {fa : Addr} {fd : FuncData} (b : Bl mg) (c_is_pair : Cal P w K mg base "is_pair" 1 ["printers", "papers", "name", "paper"] (spF K 4 f_is_pair)) (c_would_rather : Cal P w K mg base "would_rather" 1 ["row", "one", "other"] (spF K 3 f_would_rather)) (F : Fun K "blocks" "blocks" s_blocks fa fd) : FnOk P w K mg base CX0 2 fa fd ["printers", "papers", "match"] (spF K 3 f_blocks) :=
  have sc := sc_blocks
  fn_rule F sc_blocks rfl (by decide) fun cdv A outer s H E hr =>
(pssx_cons (psx_set (i := 3) (own := false) sc.nd (px_callTy (so_dict rfl) rfl b.dict PyProof.Rows.boot_dict (pxs_cons (px_lcD (i := 2) (own := [("name", 5)]) rfl sc.nd rfl (blkOk_by (by kernel_rfl)) (fun _ _ _ _ _ => (pgx_name 5 sc.nd)) (fun _ _ _ _ _ => ptsx_nil) (fun _ _ _ _ _ => (px_tup (pxs_cons (px_ix (room_u hr) (px_var 2) (px_var 5)) (pxs_cons (px_var 5) pxs_nil))))) pxs_nil)))
(pssx_cons (psx_set (i := 4) (own := true) sc.nd (px_lst pxs_nil))
(pssx_cons (psx_for (vs := [5]) PassesOwn.never rfl (pix_seq (px_callB (so_sorted rfl (room_u hr)) rfl b.sorted PyProof.Rows.boot_sorted (pxs_cons (px_var 0) pxs_nil))) (pgx_name 5 sc.nd)
(pssx_cons (psx_for (vs := [6]) PassesOwn.never rfl (pix_seq (px_callB (so_sortedR rfl (room_u hr)) rfl b.sorted PyProof.Rows.boot_sorted (pxs_cons (px_ix (room_u hr) (px_var 0) (px_var 5)) pxs_nil))) (pgx_name 6 sc.nd)
(pssx_cons (psx_if (PWX.pt (pwx_and (ptx_val (px_fnC c_is_pair hr (pxs_cons (px_var 0) (pxs_cons (px_var 1) (pxs_cons (px_var 5) (pxs_cons (px_var 6) pxs_nil)))) rfl (by decide))) (pwx_and1 (ptx_cmp (so_ne (room_64 hr)) (px_get1 (room_u hr) (px_var 2) (px_var 5)) (px_var 6) (nomark _)))))
(pssx_cons (psx_set (i := 7) (own := false) sc.nd (px_fnC c_would_rather hr (pxs_cons (px_ix (room_u hr) (px_var 0) (px_var 5)) (pxs_cons (px_var 6) (pxs_cons (px_get1 (room_u hr) (px_var 2) (px_var 5)) pxs_nil))) rfl (by decide)))
(pssx_cons (psx_if (PWX.pt (pwx_and (ptx_val (px_var 7)) (pwx_and1 (ptx_val (px_fnC c_would_rather hr (pxs_cons (px_ix (room_u hr) (px_var 1) (px_var 6)) (pxs_cons (px_var 5) (pxs_cons (px_get1 (room_u hr) (px_var 3) (px_var 6)) pxs_nil))) rfl (by decide))))))
(pssx_cons (psx_app (px_var 4) (px_tup (pxs_cons (px_var 5) (pxs_cons (px_var 6) pxs_nil))))
pssx_nil)
pssx_nil)
pssx_nil))
pssx_nil)
pssx_nil))
(pssx_wipe [6, 7]
pssx_nil)))
(pssx_wipe [6, 7]
(pssx_cons (psx_ret (px_callTy so_tuple rfl b.tuple PyProof.Rows.boot_tuple (pxs_cons (px_var 4) pxs_nil)))
pssx_nil)))))
/-! ### is_steady -/
abbrev s_is_steady : Stmt := top 5
theorem sc_is_steady : FnScope ["printers", "papers", "match"] ["printers", "papers", "match"] (defScope s_is_steady) := ⟨rfl, rfl, rfl, by decide +kernel, rfl, by decide +kernel, by decide +kernel⟩
def g_is_steady : Sx := sSeq (sRetK (cCall oEq [cFn f_blocks [cVar 0, cVar 1, cVar 2], cCall oTup []])) (sNil)
def f_is_steady : List PyData → Option PyData := runF 3 3 g_is_steady
theorem ok_is_steady {P : Program} {w : World} {K : PySem.W.Frag} {mg : Str → Option Value} {base : Heap} {fa : Addr} {fd : FuncData} (b : Bl mg) (c_blocks : Cal P w K mg base "blocks" 2 ["printers", "papers", "match"] (spF K 3 f_blocks)) (F : Fun K "is_steady" "is_steady" s_is_steady fa fd) : FnOk P w K mg base CX0 3 fa fd ["printers", "papers", "match"] (spF K 3 f_is_steady) :=
  have sc := sc_is_steady
  fn_rule F sc_is_steady rfl (by decide) fun cdv A outer s H E hr =>
(pssx_cons (psx_ret (px_cmp (so_eq (room_64 hr)) (px_fnC c_blocks hr (pxs_cons (px_var 0) (pxs_cons (px_var 1) (pxs_cons (px_var 2) pxs_nil))) rfl (by decide)) (px_tup pxs_nil) (nomark _)))
pssx_nil)
/-! ### asked -/
abbrev s_asked : Stmt := top 6
theorem sc_asked : FnScope ["askers", "others", "holds", "tried", "waiting", "name", "goal"] ["askers", "others"] (defScope s_asked) := ⟨rfl, rfl, rfl, by decide +kernel, rfl, by decide +kernel, by decide +kernel⟩
def g_asked : Sx := sSeq (sPar 2 true 3 true (cDnew) (cCall oDict [cLc (iKey 0) (gN 5) (kTrue) (cCall oTup [cVar 5, cK (.int 0)]) [5]])) (sSeq (sSet 4 true (cCall oSorted [cVar 0])) (sSeq (whileL 40 (bOf (cCall oNe [cVar 4, cCall oLst []])) (sSeq (sPop 4 5) (sSeq (whileL 40 (kAnd (bOf (cCall oIsNot [cVar 5, cK .none])) (bOf (cCall oLt [cCall oIx [cVar 3, cVar 5], cCall oLenR [cCall oIx [cVar 0, cVar 5]]]))) (sSeq (sSet 6 false (cCall oIxR [cCall oIx [cVar 0, cVar 5], cCall oIx [cVar 3, cVar 5]])) (sSeq (sDAug 3 (cVar 5) (fun x y => x + y) (cK (.int 1))) (sSeq (sIf (kAnd (bOf (cCall oIn [cVar 6, cVar 1])) (kAnd (bOf (cCall oInR [cVar 5, cCall oIx [cVar 1, cVar 6]])) (bOf (cFn f_would_rather [cCall oIx [cVar 1, cVar 6], cVar 5, cCall oGet1 [cVar 2, cVar 6]])))) (sSeq (sParD 5 2 (cCall oGet1 [cVar 2, cVar 6]) (cVar 5) (cVar 6)) (sNil)) (sNil)) (sNil))))) (sNil)))) (sSeq (sRetK (cVar 2)) (sNil))))
def f_asked : List PyData → Option PyData := runF 7 2 g_asked
theorem ok_asked {P : Program} {w : World} {K : PySem.W.Frag} {mg : Str → Option Value} {base : Heap} {fa : Addr} {fd : FuncData} (b : Bl mg) (c_would_rather : Cal P w K mg base "would_rather" 1 ["row", "one", "other"] (spF K 3 f_would_rather)) (F : Fun K "asked" "asked" s_asked fa fd) : FnOk P w K mg base CX0 2 fa fd ["askers", "others"] (spF K 2 f_asked) :=
  have sc := sc_asked
  fn_rule F sc_asked rfl (by decide) fun cdv A outer s H E hr =>
(pssx_cons (psx_par (i := 2) (oi := true) (j := 3) (oj := true) rfl sc.nd px_dnew (px_callTy (so_dict rfl) rfl b.dict PyProof.Rows.boot_dict (pxs_cons (px_lcD (i := 0) (own := [("name", 5)]) rfl sc.nd rfl (blkOk_by (by kernel_rfl)) (fun _ _ _ _ _ => (pgx_name 5 sc.nd)) (fun _ _ _ _ _ => ptsx_nil) (fun _ _ _ _ _ => (px_tup (pxs_cons (px_var 5) (pxs_cons px_int pxs_nil))))) pxs_nil)))
(pssx_cons (psx_set (i := 4) (own := true) sc.nd (px_callB (so_sorted rfl (room_u hr)) rfl b.sorted PyProof.Rows.boot_sorted (pxs_cons (px_var 0) pxs_nil)))
(pssx_cons (psx_while 40 PassesOwn.never (ptx_cmp (so_ne (room_64 hr)) (px_var 4) (px_lst pxs_nil) (nomark _))
(pssx_cons (psx_pop (i := 4) (j := 5) sc.nd (px_var 4) px_int)
(pssx_cons (psx_while 40 PassesOwn.never (PWX.pt (pwx_and (ptx_cmp so_isNot (px_var 5) px_none (nomark _)) (pwx_and1 (ptx_cmp so_lt (px_ix (room_u hr) (px_var 3) (px_var 5)) (px_callB so_lenR rfl b.len PySem.boot_len (pxs_cons (px_ix (room_u hr) (px_var 0) (px_var 5)) pxs_nil)) (nomark _)))))
(pssx_cons (psx_set (i := 6) (own := false) sc.nd (px_ixR (px_ix (room_u hr) (px_var 0) (px_var 5)) (px_ix (room_u hr) (px_var 3) (px_var 5))))
(pssx_cons (psx_daug (room_u hr) in_add (px_var 3) (px_var 5) px_int)
(pssx_cons (psx_if (PWX.pt (pwx_and (ptx_cmp (so_in (room_u hr)) (px_var 6) (px_var 1) (by rfl)) (pwx_and (ptx_cmp (so_inR (room_u hr)) (px_var 5) (px_ix (room_u hr) (px_var 1) (px_var 6)) (by rfl)) (pwx_and1 (ptx_val (px_fnC c_would_rather hr (pxs_cons (px_ix (room_u hr) (px_var 1) (px_var 6)) (pxs_cons (px_var 5) (pxs_cons (px_get1 (room_u hr) (px_var 2) (px_var 6)) pxs_nil))) rfl (by decide)))))))
(pssx_cons (psx_parD (i := 5) (j := 2) rfl (room_u hr) sc.nd (px_get1 (room_u hr) (px_var 2) (px_var 6)) (px_var 5) (px_var 2) (px_var 6))
pssx_nil)
pssx_nil)
pssx_nil))))
pssx_nil)))
(pssx_cons (psx_ret (px_var 2))
pssx_nil))))
/-! ### asked_first -/
abbrev s_asked_first : Stmt := top 7
theorem sc_asked_first : FnScope ["printers", "papers", "told", "paper"] ["printers", "papers"] (defScope s_asked_first) := ⟨rfl, rfl, rfl, by decide +kernel, rfl, by decide +kernel, by decide +kernel⟩
def g_asked_first : Sx := sSeq (sSet 2 false (cFn f_asked [cVar 0, cVar 1])) (sSeq (sRetK (cCall oDict [cCall oSorted [cLc (iKey 2) (gN 3) (kTrue) (cCall oTup [cCall oIx [cVar 2, cVar 3], cVar 3]) [3]]])) (sNil))
def f_asked_first : List PyData → Option PyData := runF 4 2 g_asked_first
theorem ok_asked_first {P : Program} {w : World} {K : PySem.W.Frag} {mg : Str → Option Value} {base : Heap} {fa : Addr} {fd : FuncData} (b : Bl mg) (c_asked : Cal P w K mg base "asked" 2 ["askers", "others"] (spF K 2 f_asked)) (F : Fun K "asked_first" "asked_first" s_asked_first fa fd) : FnOk P w K mg base CX0 3 fa fd ["printers", "papers"] (spF K 2 f_asked_first) :=
  have sc := sc_asked_first
  fn_rule F sc_asked_first rfl (by decide) fun cdv A outer s H E hr =>
(pssx_cons (psx_set (i := 2) (own := false) sc.nd (px_fnC c_asked hr (pxs_cons (px_var 0) (pxs_cons (px_var 1) pxs_nil)) rfl (by decide)))
(pssx_cons (psx_ret (px_callTy (so_dict rfl) rfl b.dict PyProof.Rows.boot_dict (pxs_cons (px_callB (so_sorted rfl (room_u hr)) rfl b.sorted PyProof.Rows.boot_sorted (pxs_cons (px_lcD (i := 2) (own := [("paper", 3)]) rfl sc.nd rfl (blkOk_by (by kernel_rfl)) (fun _ _ _ _ _ => (pgx_name 3 sc.nd)) (fun _ _ _ _ _ => ptsx_nil) (fun _ _ _ _ _ => (px_tup (pxs_cons (px_ix (room_u hr) (px_var 2) (px_var 3)) (pxs_cons (px_var 3) pxs_nil))))) pxs_nil)) pxs_nil)))
pssx_nil))
/-! ### offered_first -/
abbrev s_offered_first : Stmt := top 8
theorem sc_offered_first : FnScope ["printers", "papers", "told", "name"] ["printers", "papers"] (defScope s_offered_first) := ⟨rfl, rfl, rfl, by decide +kernel, rfl, by decide +kernel, by decide +kernel⟩
def g_offered_first : Sx := sSeq (sSet 2 false (cFn f_asked [cVar 1, cVar 0])) (sSeq (sRetK (cCall oDict [cLc (iSeq (cCall oSorted [cVar 2])) (gN 3) (kTrue) (cCall oTup [cVar 3, cCall oIx [cVar 2, cVar 3]]) [3]])) (sNil))
def f_offered_first : List PyData → Option PyData := runF 4 2 g_offered_first
theorem ok_offered_first {P : Program} {w : World} {K : PySem.W.Frag} {mg : Str → Option Value} {base : Heap} {fa : Addr} {fd : FuncData} (b : Bl mg) (c_asked : Cal P w K mg base "asked" 2 ["askers", "others"] (spF K 2 f_asked)) (F : Fun K "offered_first" "offered_first" s_offered_first fa fd) : FnOk P w K mg base CX0 3 fa fd ["printers", "papers"] (spF K 2 f_offered_first) :=
  have sc := sc_offered_first
  fn_rule F sc_offered_first rfl (by decide) fun cdv A outer s H E hr =>
(pssx_cons (psx_set (i := 2) (own := false) sc.nd (px_fnC c_asked hr (pxs_cons (px_var 1) (pxs_cons (px_var 0) pxs_nil)) rfl (by decide)))
(pssx_cons (psx_ret (px_callTy (so_dict rfl) rfl b.dict PyProof.Rows.boot_dict (pxs_cons (px_lc (own := [("name", 3)]) rfl sc.nd (pix_seq (px_callB (so_sorted rfl (room_u hr)) rfl b.sorted PyProof.Rows.boot_sorted (pxs_cons (px_var 2) pxs_nil))) (blkOk_by (by kernel_rfl)) (fun _ _ _ _ _ => (pgx_name 3 sc.nd)) (fun _ _ _ _ _ => ptsx_nil) (fun _ _ _ _ _ => (px_tup (pxs_cons (px_var 3) (pxs_cons (px_ix (room_u hr) (px_var 2) (px_var 3)) pxs_nil))))) pxs_nil)))
pssx_nil))
/-! ### all_matches -/
abbrev s_all_matches : Stmt := top 9
theorem sc_all_matches : FnScope ["printers", "papers", "rows", "name", "longer", "row", "paper", "more", "own"] ["printers", "papers"] (defScope s_all_matches) := ⟨rfl, rfl, rfl, by decide +kernel, rfl, by decide +kernel, by decide +kernel⟩
def g_all_matches : Sx := sSeq (sSet 2 false (cCall oLst [cDnew])) (sSeq (sFor (iSeq (cCall oSorted [cVar 0])) (gN 3) (sSeq (sSet 4 true (cCall oList [cVar 2])) (sSeq (sFor (iSeq (cVar 2)) (gN 5) (sSeq (sFor (iSeqR (cCall oIx [cVar 0, cVar 3])) (gN 6) (sSeq (sIf (kAnd (bOf (cFn f_is_pair [cVar 0, cVar 1, cVar 3, cVar 6])) (bOf (cCall oNotIn [cVar 6, cLc (iKey 5) (gN 8) (kTrue) (cCall oIx [cVar 5, cVar 8]) [8]]))) (sSeq (sSet 7 true (cCall oDict [cVar 5])) (sSeq (sDPut 7 (cVar 3) (cVar 6)) (sFrz 7 (sSeq (sApp 4 (cVar 7)) (sNil))))) (sNil)) (sNil))) (sWipe [6, 7] (sNil)))) (sWipe [5, 6, 7] (sSeq (sSet 2 false (cVar 4)) (sNil)))))) (sWipe [3, 4, 5, 6, 7] (sSeq (sRetK (cVar 2)) (sNil))))
def f_all_matches : List PyData → Option PyData := runF 9 2 g_all_matches
theorem ok_all_matches {P : Program} {w : World} {K : PySem.W.Frag} {mg : Str → Option Value} {base : Heap} {fa : Addr} {fd : FuncData} (b : Bl mg) (c_is_pair : Cal P w K mg base "is_pair" 1 ["printers", "papers", "name", "paper"] (spF K 4 f_is_pair)) (F : Fun K "all_matches" "all_matches" s_all_matches fa fd) : FnOk P w K mg base CX0 2 fa fd ["printers", "papers"] (spF K 2 f_all_matches) :=
  have sc := sc_all_matches
  fn_rule F sc_all_matches rfl (by decide) fun cdv A outer s H E hr =>
(pssx_cons (psx_set (i := 2) (own := false) sc.nd (px_lst (pxs_cons px_dnew pxs_nil)))
(pssx_cons (psx_for (vs := [3]) PassesOwn.never rfl (pix_seq (px_callB (so_sorted rfl (room_u hr)) rfl b.sorted PyProof.Rows.boot_sorted (pxs_cons (px_var 0) pxs_nil))) (pgx_name 3 sc.nd)
(pssx_cons (psx_set (i := 4) (own := true) sc.nd (px_callTy (so_list rfl) rfl b.list PyProof.Rows.boot_list (pxs_cons (px_var 2) pxs_nil)))
(pssx_cons (psx_for (vs := [5]) PassesOwn.never rfl (pix_seq (px_var 2)) (pgx_name 5 sc.nd)
(pssx_cons (psx_for (vs := [6]) PassesOwn.never rfl (pix_seqR (px_ix (room_u hr) (px_var 0) (px_var 3))) (pgx_name 6 sc.nd)
(pssx_cons (psx_if (PWX.pt (pwx_and (ptx_val (px_fnC c_is_pair hr (pxs_cons (px_var 0) (pxs_cons (px_var 1) (pxs_cons (px_var 3) (pxs_cons (px_var 6) pxs_nil)))) rfl (by decide))) (pwx_and1 (ptx_cmp (so_notIn (room_u hr)) (px_var 6) (px_lcD (i := 5) (own := [("own", 8)]) rfl sc.nd rfl (blkOk_by (by kernel_rfl)) (fun _ _ _ _ _ => (pgx_name 8 sc.nd)) (fun _ _ _ _ _ => ptsx_nil) (fun _ _ _ _ _ => (px_ix (room_u hr) (px_var 5) (px_var 8)))) (by rfl)))))
(pssx_cons (psx_set (i := 7) (own := true) sc.nd (px_callTy (so_dict rfl) rfl b.dict PyProof.Rows.boot_dict (pxs_cons (px_var 5) pxs_nil)))
(pssx_cons (psx_dput (room_u hr) (px_var 7) (px_var 3) (px_var 6))
(pssx_frz 7
(pssx_cons (psx_app (px_var 4) (px_var 7))
pssx_nil))))
pssx_nil)
pssx_nil))
(pssx_wipe [6, 7]
pssx_nil)))
(pssx_wipe [5, 6, 7]
(pssx_cons (psx_set (i := 2) (own := false) sc.nd (px_var 4))
pssx_nil)))))
(pssx_wipe [3, 4, 5, 6, 7]
(pssx_cons (psx_ret (px_var 2))
pssx_nil))))
/-! ### all_steady -/
abbrev s_all_steady : Stmt := top 10
theorem sc_all_steady : FnScope ["printers", "papers", "rows", "row"] ["printers", "papers"] (defScope s_all_steady) := ⟨rfl, rfl, rfl, by decide +kernel, rfl, by decide +kernel, by decide +kernel⟩
def g_all_steady : Sx := sSeq (sSet 2 false (cLc (iSeq (cFn f_all_matches [cVar 0, cVar 1])) (gN 3) (bOf (cFn f_is_steady [cVar 0, cVar 1, cVar 3])) (cVar 3) [3])) (sSeq (sRetK (cCall oTuple [cCall oSortedZ [cLc (iSeq (cVar 2)) (gN 3) (kTrue) (cCall oTuple [cSortI (cVar 3)]) [3]]])) (sNil))
def f_all_steady : List PyData → Option PyData := runF 4 2 g_all_steady
theorem ok_all_steady {P : Program} {w : World} {K : PySem.W.Frag} {mg : Str → Option Value} {base : Heap} {fa : Addr} {fd : FuncData} (b : Bl mg) (c_all_matches : Cal P w K mg base "all_matches" 2 ["printers", "papers"] (spF K 2 f_all_matches)) (c_is_steady : Cal P w K mg base "is_steady" 3 ["printers", "papers", "match"] (spF K 3 f_is_steady)) (F : Fun K "all_steady" "all_steady" s_all_steady fa fd) : FnOk P w K mg base CX0 4 fa fd ["printers", "papers"] (spF K 2 f_all_steady) :=
  have sc := sc_all_steady
  fn_rule F sc_all_steady rfl (by decide) fun cdv A outer s H E hr =>
(pssx_cons (psx_setLc (i := 2) (oo := false) (own := [("row", 3)]) rfl sc.nd (pix_seq (px_fnC c_all_matches hr (pxs_cons (px_var 0) (pxs_cons (px_var 1) pxs_nil)) rfl (by decide))) (blkOk_by (by kernel_rfl)) (fun _ _ _ _ _ => (pgx_name 3 sc.nd)) (fun _ _ _ _ _ => (ptsx_one (ptx_val (px_fnC c_is_steady hr (pxs_cons (px_var 0) (pxs_cons (px_var 1) (pxs_cons (px_var 3) pxs_nil))) rfl (by decide))))) (fun _ _ _ _ _ => (px_var 3)) (sw_true rfl rfl rfl (by kernel_rfl)))
(pssx_cons (psx_ret (px_callTy so_tuple rfl b.tuple PyProof.Rows.boot_tuple (pxs_cons (px_callB (so_sortedZ rfl (room_u hr)) rfl b.sorted PyProof.Rows.boot_sorted (pxs_cons (px_lc (own := [("row", 3)]) rfl sc.nd (pix_seq (px_var 2)) (blkOk_by (by kernel_rfl)) (fun _ _ _ _ _ => (pgx_name 3 sc.nd)) (fun _ _ _ _ _ => ptsx_nil) (fun _ _ _ _ _ => (px_callTy so_tuple rfl b.tuple PyProof.Rows.boot_tuple (pxs_cons (px_sortI rfl (room_u hr) rfl b.sorted (px_var 3)) pxs_nil)))) pxs_nil)) pxs_nil)))
pssx_nil))
/-! ### sure_pairs -/
abbrev s_sure_pairs : Stmt := top 11
theorem sc_sure_pairs : FnScope ["printers", "papers", "rows", "pair", "row"] ["printers", "papers"] (defScope s_sure_pairs) := ⟨rfl, rfl, rfl, by decide +kernel, rfl, by decide +kernel, by decide +kernel⟩
def g_sure_pairs : Sx := sSeq (sSet 2 false (cFn f_all_steady [cVar 0, cVar 1])) (sSeq (sRetK (cCall oTuple [cLc (iSeq (cCall oIx [cVar 2, cK (.int 0)])) (gN 3) (bOf (cCall oAll [cLc (iSeq (cVar 2)) (gN 4) (kTrue) (cCall oIn [cVar 3, cVar 4]) [4]])) (cVar 3) [3]])) (sNil))
def f_sure_pairs : List PyData → Option PyData := runF 5 2 g_sure_pairs
theorem ok_sure_pairs {P : Program} {w : World} {K : PySem.W.Frag} {mg : Str → Option Value} {base : Heap} {fa : Addr} {fd : FuncData} (b : Bl mg) (c_all_steady : Cal P w K mg base "all_steady" 4 ["printers", "papers"] (spF K 2 f_all_steady)) (F : Fun K "sure_pairs" "sure_pairs" s_sure_pairs fa fd) : FnOk P w K mg base CX0 5 fa fd ["printers", "papers"] (spF K 2 f_sure_pairs) :=
  have sc := sc_sure_pairs
  fn_rule F sc_sure_pairs rfl (by decide) fun cdv A outer s H E hr =>
(pssx_cons (psx_set (i := 2) (own := false) sc.nd (px_fnC c_all_steady hr (pxs_cons (px_var 0) (pxs_cons (px_var 1) pxs_nil)) rfl (by decide)))
(pssx_cons (psx_ret (px_callTy so_tuple rfl b.tuple PyProof.Rows.boot_tuple (pxs_cons (px_lc (own := [("pair", 3)]) rfl sc.nd (pix_seq (px_ix (room_u hr) (px_var 2) px_int)) (blkOk_by (by kernel_rfl)) (fun _ _ _ _ _ => (pgx_name 3 sc.nd)) (fun _ _ _ _ _ => (ptsx_one (ptx_val (px_callB (so_all rfl) rfl b.all PyProof.Rows.boot_all (pxs_cons (px_lc (own := [("row", 4)]) rfl sc.nd (pix_seq (px_var 2)) (blkOk_by (by kernel_rfl)) (fun _ _ _ _ _ => (pgx_name 4 sc.nd)) (fun _ _ _ _ _ => ptsx_nil) (fun _ _ _ _ _ => (px_cmp (so_in (room_u hr)) (px_var 3) (px_var 4) (by rfl)))) pxs_nil))))) (fun _ _ _ _ _ => (px_var 3))) pxs_nil)))
pssx_nil))
/-! ### left_without -/
abbrev s_left_without : Stmt := top 12
theorem sc_left_without : FnScope ["printers", "papers", "told", "name"] ["printers", "papers"] (defScope s_left_without) := ⟨rfl, rfl, rfl, by decide +kernel, rfl, by decide +kernel, by decide +kernel⟩
def g_left_without : Sx := sSeq (sSet 2 false (cFn f_asked_first [cVar 0, cVar 1])) (sSeq (sRetK (cCall oTuple [cLc (iSeq (cCall oSorted [cVar 0])) (gN 3) (bOf (cCall oNotIn [cVar 3, cVar 2])) (cVar 3) [3]])) (sNil))
def f_left_without : List PyData → Option PyData := runF 4 2 g_left_without
theorem ok_left_without {P : Program} {w : World} {K : PySem.W.Frag} {mg : Str → Option Value} {base : Heap} {fa : Addr} {fd : FuncData} (b : Bl mg) (c_asked_first : Cal P w K mg base "asked_first" 3 ["printers", "papers"] (spF K 2 f_asked_first)) (F : Fun K "left_without" "left_without" s_left_without fa fd) : FnOk P w K mg base CX0 4 fa fd ["printers", "papers"] (spF K 2 f_left_without) :=
  have sc := sc_left_without
  fn_rule F sc_left_without rfl (by decide) fun cdv A outer s H E hr =>
(pssx_cons (psx_set (i := 2) (own := false) sc.nd (px_fnC c_asked_first hr (pxs_cons (px_var 0) (pxs_cons (px_var 1) pxs_nil)) rfl (by decide)))
(pssx_cons (psx_ret (px_callTy so_tuple rfl b.tuple PyProof.Rows.boot_tuple (pxs_cons (px_lc (own := [("name", 3)]) rfl sc.nd (pix_seq (px_callB (so_sorted rfl (room_u hr)) rfl b.sorted PyProof.Rows.boot_sorted (pxs_cons (px_var 0) pxs_nil))) (blkOk_by (by kernel_rfl)) (fun _ _ _ _ _ => (pgx_name 3 sc.nd)) (fun _ _ _ _ _ => (ptsx_one (ptx_cmp (so_notIn (room_u hr)) (px_var 3) (px_var 2) (by rfl)))) (fun _ _ _ _ _ => (px_var 3))) pxs_nil)))
pssx_nil))
/-! ### best_for -/
abbrev s_best_for : Stmt := top 13
theorem sc_best_for : FnScope ["printers", "papers", "name"] ["printers", "papers", "name"] (defScope s_best_for) := ⟨rfl, rfl, rfl, by decide +kernel, rfl, by decide +kernel, by decide +kernel⟩
def g_best_for : Sx := sSeq (sRetK (cCall oGet1 [cFn f_asked_first [cVar 0, cVar 1], cVar 2])) (sNil)
def f_best_for : List PyData → Option PyData := runF 3 3 g_best_for
theorem ok_best_for {P : Program} {w : World} {K : PySem.W.Frag} {mg : Str → Option Value} {base : Heap} {fa : Addr} {fd : FuncData} (b : Bl mg) (c_asked_first : Cal P w K mg base "asked_first" 3 ["printers", "papers"] (spF K 2 f_asked_first)) (F : Fun K "best_for" "best_for" s_best_for fa fd) : FnOk P w K mg base CX0 4 fa fd ["printers", "papers", "name"] (spF K 3 f_best_for) :=
  have sc := sc_best_for
  fn_rule F sc_best_for rfl (by decide) fun cdv A outer s H E hr =>
(pssx_cons (psx_ret (px_get1 (room_u hr) (px_fnC c_asked_first hr (pxs_cons (px_var 0) (pxs_cons (px_var 1) pxs_nil)) rfl (by decide)) (px_var 2)))
pssx_nil)
/-! ### _law_draws -/
abbrev s__law_draws : Stmt := top 15
theorem sc__law_draws : FnScope ["script", "many", "draws", "mixed", "k", "cell", "rest", "turn"] ["script", "many"] (defScope s__law_draws) := ⟨rfl, rfl, rfl, by decide +kernel, rfl, by decide +kernel, by decide +kernel⟩
def g__law_draws : Sx := sSeq (sSet 2 true (cCall oLst [])) (sSeq (sSet 3 false (cK (.int 7))) (sSeq (sFor (iR1 (cScLen 0)) (gN 4) (sSeq (sSet 5 false (cCall oAbs [cCall oInt [cScAt 0 (cVar 4)]])) (sSeq (sSet 3 false (cCall oMod [cCall oInt [cCall oAdd [cCall oAdd [cCall oMul [cVar 3, cK (.int 48271)], cCall oMod [cVar 5, cK (.int 1000003)]], cVar 4]], cK (.int 65537)])) (sSeq (sSet 6 false (cK (.int 0))) (sSeq (sIf (bOf (cCall oGe [cVar 5, cCall oPow [cK (.int 10), cK (.int 18)]])) (sSeq (sSet 6 false (cVar 5)) (sNil)) (sSeq (sApp 2 (cCall oMod [cCall oInt [cVar 5], cK (.int 997)])) (sSeq (sApp 2 (cCall oMod [cCall oMod [cCall oInt [cCall oAdd [cCall oMul [cVar 3, cK (.int 69621)], cK (.int 5)]], cK (.int 65521)], cK (.int 997)])) (sNil)))) (sSeq (sFor (iR1 (cK (.int 60))) (gN 7) (sSeq (sIf (bOf (cCall oGt [cVar 6, cK (.int 0)])) (sSeq (sApp 2 (cCall oMod [cCall oInt [cVar 6], cK (.int 997)])) (sSeq (sSet 6 false (cCall oDiv [cVar 6, cK (.int 997)])) (sNil))) (sNil)) (sNil))) (sWipe [7] (sNil)))))))) (sWipe [5, 6, 7] (sSeq (sFor (iR1 (cVar 1)) (gN 4) (sSeq (sSet 3 false (cCall oMod [cCall oInt [cCall oAdd [cCall oAdd [cCall oMul [cVar 3, cK (.int 16807)], cVar 4], cK (.int 1)]], cK (.int 65537)])) (sSeq (sApp 2 (cCall oMod [cCall oInt [cVar 3], cK (.int 997)])) (sNil)))) (sSeq (sRetK (cSlice (cVar 2) none (some (cVar 1)))) (sNil))))))
theorem ok__law_draws {P : Program} {w : World} {K : PySem.W.Frag} {mg : Str → Option Value} {base : Heap} {fa : Addr} {fd : FuncData} (b : Bl mg) (F : Fun K "_law_draws" "_law_draws" s__law_draws fa fd) (hg : ∀ ns : List Int, ns.length ≤ 63 → ∃ ds W', g__law_draws (envS 8 ns 120) [] = some (.rt (.list (ds.map PyData.int)) W') ∧ drOk ds) : FnOk P w K mg base CX0 1 fa fd ["script", "many"] (spDraws K 120) :=
  have sc := sc__law_draws
  draws_rule F sc__law_draws (by decide) hg fun cdv A outer s H E hr =>
(pssx_cons (psx_set (i := 2) (own := true) sc.nd (px_lst pxs_nil))
(pssx_cons (psx_set (i := 3) (own := false) sc.nd px_int)
(pssx_cons (psx_for (vs := [4]) PassesOwn.never rfl (pix_range1 rfl b.range (pxs_cons (px_scLen 0 rfl b.len (pv 0)) pxs_nil)) (pgx_name 4 sc.nd)
(pssx_cons (psx_set (i := 5) (own := false) sc.nd (px_callB so_abs rfl b.abs PyProof.Rows.boot_abs (pxs_cons (px_callTy so_int rfl b.int PyProof.Rows.boot_int (pxs_cons (px_scAt 0 (pv 0) (px_var 4)) pxs_nil)) pxs_nil)))
(pssx_cons (psx_set (i := 3) (own := false) sc.nd (px_bin so_mod (px_callTy so_int rfl b.int PyProof.Rows.boot_int (pxs_cons (px_bin so_add (px_bin so_add (px_bin so_mul (px_var 3) px_int) (px_bin so_mod (px_var 5) px_int)) (px_var 4)) pxs_nil)) px_int))
(pssx_cons (psx_set (i := 6) (own := false) sc.nd px_int)
(pssx_cons (psx_if (ptx_cmp so_ge (px_var 5) (px_bin so_pow px_int px_int) (nomark _))
(pssx_cons (psx_set (i := 6) (own := false) sc.nd (px_var 5))
pssx_nil)
(pssx_cons (psx_app (px_var 2) (px_bin so_mod (px_callTy so_int rfl b.int PyProof.Rows.boot_int (pxs_cons (px_var 5) pxs_nil)) px_int))
(pssx_cons (psx_app (px_var 2) (px_bin so_mod (px_bin so_mod (px_callTy so_int rfl b.int PyProof.Rows.boot_int (pxs_cons (px_bin so_add (px_bin so_mul (px_var 3) px_int) px_int) pxs_nil)) px_int) px_int))
pssx_nil)))
(pssx_cons (psx_for (vs := [7]) PassesOwn.never rfl (pix_range1 rfl b.range (pxs_cons px_int pxs_nil)) (pgx_name 7 sc.nd)
(pssx_cons (psx_if (ptx_cmp so_gt (px_var 6) px_int (nomark _))
(pssx_cons (psx_app (px_var 2) (px_bin so_mod (px_callTy so_int rfl b.int PyProof.Rows.boot_int (pxs_cons (px_var 6) pxs_nil)) px_int))
(pssx_cons (psx_set (i := 6) (own := false) sc.nd (px_bin so_div (px_var 6) px_int))
pssx_nil))
pssx_nil)
pssx_nil))
(pssx_wipe [7]
pssx_nil)))))))
(pssx_wipe [5, 6, 7]
(pssx_cons (psx_for (vs := [4]) PassesOwn.never rfl (pix_range1 rfl b.range (pxs_cons (px_var 1) pxs_nil)) (pgx_name 4 sc.nd)
(pssx_cons (psx_set (i := 3) (own := false) sc.nd (px_bin so_mod (px_callTy so_int rfl b.int PyProof.Rows.boot_int (pxs_cons (px_bin so_add (px_bin so_add (px_bin so_mul (px_var 3) px_int) (px_var 4)) px_int) pxs_nil)) px_int))
(pssx_cons (psx_app (px_var 2) (px_bin so_mod (px_callTy so_int rfl b.int PyProof.Rows.boot_int (pxs_cons (px_var 3) pxs_nil)) px_int))
pssx_nil)))
(pssx_cons (psx_ret (px_slice (px_var 2) pox_none (pox_some (px_var 1))))
pssx_nil))))))
/-! ### _law_next -/
abbrev s__law_next : Stmt := top 16
theorem sc__law_next : FnScope ["w", "many"] ["w", "many"] (defScope s__law_next) := ⟨rfl, rfl, rfl, by decide +kernel, rfl, by decide +kernel, by decide +kernel⟩
theorem ok__law_next {P : Program} {w : World} {K : PySem.W.Frag} {mg : Str → Option Value} {base : Heap} {fa : Addr} {fd : FuncData} (b : Bl mg) (F : Fun K "_law_next" "_law_next" s__law_next fa fd) : FnOk P w K mg base CX0 1 fa fd ["w", "many"] (spNext K) :=
  next_rule F sc__law_next fun cdv A outer s H E hr =>
    pss_cons (L2.ps_daug (room_1 hr) (pv 0) pe_str pe_int in_add (by intros; rfl))
    (pss_cons (ps_if (pt_cmpR op_gt (pe_dget (room_1 hr) (pv 0) pe_str (by intro _ _; rfl)) (pe_callB call_len_seq rfl b.len PySem.boot_len (pa_cons (pe_dget (room_1 hr) (pv 0) pe_str (by intro _ _; rfl)) pa_nil)) (nomark _)) (pss_one (ps_ret pe_int)) pss_nil)
    (pss_one (ps_ret (pe_op op_mod (pe_callTy call_int1 rfl b.int PyProof.Rows.boot_int (pa_cons (pe_ix ix_list (pe_dget (room_1 hr) (pv 0) pe_str (by intro _ _; rfl)) (pe_op op_sub (pe_dget (room_1 hr) (pv 0) pe_str (by intro _ _; rfl)) pe_int) (fun _ _ => rfl)) pa_nil)) (pv 1)))))
/-! ### _law_row -/
abbrev s__law_row : Stmt := top 17
theorem sc__law_row : FnScope ["w", "names", "left", "found", "name", "other"] ["w", "names"] (defScope s__law_row) := ⟨rfl, rfl, rfl, by decide +kernel, rfl, by decide +kernel, by decide +kernel⟩
def g__law_row : Sx := sSeq (sPar 2 false 3 false (cCall oList [cVar 1]) (cCall oLst [])) (sSeq (whileL 10 (bOf (cCall oNe [cVar 2, cCall oLst []])) (sSeq (sSet 4 false (cCall oIx [cVar 2, cNext 0 (cCall oLen [cVar 2])])) (sSeq (sSet 2 false (cLc (iSeq (cVar 2)) (gN 5) (bOf (cCall oNe [cVar 5, cVar 4])) (cVar 5) [5])) (sSeq (sSet 3 false (cCall oAdd [cVar 3, cIf (bOf (cCall oGt [cNext 0 (cK (.int 5)), cK (.int 0)])) (cCall oLst [cVar 4]) (cCall oLst [])])) (sNil))))) (sNil))
def e__law_row : Ex := cCall oTupR [cVar 3]
def f__law_row : Addr → List PyData → List Int → Option (PyData × List Int) := runW 6 1 g__law_row e__law_row
theorem ok__law_row {P : Program} {w : World} {K : PySem.W.Frag} {mg : Str → Option Value} {base : Heap} {fa : Addr} {fd : FuncData} (b : Bl mg) (c_next : Cal P w K mg base "_law_next" 1 ["w", "many"] (spNext K)) (F : Fun K "_law_row" "_law_row" s__law_row fa fd) : FnOk P w K mg base CX0 2 fa fd ["w", "names"] (spW K 1 f__law_row) :=
  have sc := sc__law_row
  fn_ruleW F sc__law_row rfl (by decide) fun q cdv A outer s H E hr =>
(pssW_cons (psx_par (i := 2) (oi := false) (j := 3) (oj := false) rfl sc.nd (px_callTy (so_list rfl) rfl b.list PyProof.Rows.boot_list (pxs_cons (px_var 1) pxs_nil)) (px_lst pxs_nil))
(pssW_cons (psx_while 10 PassesOwn.never (ptx_cmp (so_ne (room_64 hr)) (px_var 2) (px_lst pxs_nil) (nomark _))
(pssx_cons (psx_set (i := 4) (own := false) sc.nd (px_ix (room_u hr) (px_var 2) (px_nextC 0 c_next hr (pv 0) (px_callB so_len rfl b.len PySem.boot_len (pxs_cons (px_var 2) pxs_nil)))))
(pssx_cons (psx_setLc (i := 2) (oo := false) (own := [("other", 5)]) rfl sc.nd (pix_seq (px_var 2)) (blkOk_by (by kernel_rfl)) (fun _ _ _ _ _ => (pgx_name 5 sc.nd)) (fun _ _ _ _ _ => (ptsx_one (ptx_cmp (so_ne (room_64 hr)) (px_var 5) (px_var 4) (nomark _)))) (fun _ _ _ _ _ => (px_var 5)) (sw_true rfl rfl rfl (by kernel_rfl)))
(pssx_cons (psx_set (i := 3) (own := false) sc.nd (px_bin so_add (px_var 3) (px_if (ptx_cmp so_gt (px_nextC 0 c_next hr (pv 0) px_int) px_int (nomark _)) (px_lst (pxs_cons (px_var 4) pxs_nil)) (px_lst pxs_nil))))
pssx_nil))))
(pssW_ret (px_callTy so_tupR rfl b.tuple PyProof.Rows.boot_tuple (pxs_cons (px_var 3) pxs_nil)))))
/-! ### _law_matches -/
abbrev s__law_matches : Stmt := top 18
theorem sc__law_matches : FnScope ["printers", "papers", "rows", "name", "longer", "row", "paper", "more", "own"] ["printers", "papers"] (defScope s__law_matches) := ⟨rfl, rfl, rfl, by decide +kernel, rfl, by decide +kernel, by decide +kernel⟩
def g__law_matches : Sx := sSeq (sSet 2 false (cCall oLst [cDnew])) (sSeq (sFor (iSeq (cCall oSorted [cVar 0])) (gN 3) (sSeq (sSet 4 true (cLc (iSeq (cVar 2)) (gN 5) (kTrue) (cCall oDict [cVar 5]) [5])) (sSeq (sFor (iSeq (cVar 2)) (gN 5) (sSeq (sFor (iSeqR (cCall oIx [cVar 0, cVar 3])) (gN 6) (sSeq (sIf (kAnd (bOf (cCall oInR [cVar 3, cCall oIx [cVar 1, cVar 6]])) (bOf (cCall oEq [cLc (iKey 5) (gN 8) (bOf (cCall oEq [cCall oIx [cVar 5, cVar 8], cVar 6])) (cVar 8) [8], cCall oLst []]))) (sSeq (sSet 7 true (cCall oDict [cVar 5])) (sSeq (sDPut 7 (cVar 3) (cVar 6)) (sFrz 7 (sSeq (sApp 4 (cVar 7)) (sNil))))) (sNil)) (sNil))) (sWipe [6, 7] (sNil)))) (sWipe [6, 7] (sSeq (sSet 2 false (cVar 4)) (sNil)))))) (sWipe [3, 4, 5, 6, 7] (sSeq (sRetK (cVar 2)) (sNil))))
def f__law_matches : List PyData → Option PyData := runF 9 2 g__law_matches
theorem ok__law_matches {P : Program} {w : World} {K : PySem.W.Frag} {mg : Str → Option Value} {base : Heap} {fa : Addr} {fd : FuncData} (b : Bl mg) (F : Fun K "_law_matches" "_law_matches" s__law_matches fa fd) : FnOk P w K mg base CX0 1 fa fd ["printers", "papers"] (spF K 2 f__law_matches) :=
  have sc := sc__law_matches
  fn_rule F sc__law_matches rfl (by decide) fun cdv A outer s H E hr =>
(pssx_cons (psx_set (i := 2) (own := false) sc.nd (px_lst (pxs_cons px_dnew pxs_nil)))
(pssx_cons (psx_for (vs := [3]) PassesOwn.never rfl (pix_seq (px_callB (so_sorted rfl (room_u hr)) rfl b.sorted PyProof.Rows.boot_sorted (pxs_cons (px_var 0) pxs_nil))) (pgx_name 3 sc.nd)
(pssx_cons (psx_setLc (i := 4) (oo := true) (own := [("row", 5)]) rfl sc.nd (pix_seq (px_var 2)) (blkOk_by (by kernel_rfl)) (fun _ _ _ _ _ => (pgx_name 5 sc.nd)) (fun _ _ _ _ _ => ptsx_nil) (fun _ _ _ _ _ => (px_callTy (so_dict rfl) rfl b.dict PyProof.Rows.boot_dict (pxs_cons (px_var 5) pxs_nil))) (sw_true rfl rfl rfl (by kernel_rfl)))
(pssx_cons (psx_for (vs := [5]) PassesOwn.never rfl (pix_seq (px_var 2)) (pgx_name 5 sc.nd)
(pssx_cons (psx_for (vs := [6]) PassesOwn.never rfl (pix_seqR (px_ix (room_u hr) (px_var 0) (px_var 3))) (pgx_name 6 sc.nd)
(pssx_cons (psx_if (PWX.pt (pwx_and (ptx_cmp (so_inR (room_u hr)) (px_var 3) (px_ix (room_u hr) (px_var 1) (px_var 6)) (by rfl)) (pwx_and1 (ptx_cmp (so_eq (room_64 hr)) (px_lcD (i := 5) (own := [("own", 8)]) rfl sc.nd rfl (blkOk_by (by kernel_rfl)) (fun _ _ _ _ _ => (pgx_name 8 sc.nd)) (fun _ _ _ _ _ => (ptsx_one (ptx_cmp (so_eq (room_64 hr)) (px_ix (room_u hr) (px_var 5) (px_var 8)) (px_var 6) (nomark _)))) (fun _ _ _ _ _ => (px_var 8))) (px_lst pxs_nil) (nomark _)))))
(pssx_cons (psx_set (i := 7) (own := true) sc.nd (px_callTy (so_dict rfl) rfl b.dict PyProof.Rows.boot_dict (pxs_cons (px_var 5) pxs_nil)))
(pssx_cons (psx_dput (room_u hr) (px_var 7) (px_var 3) (px_var 6))
(pssx_frz 7
(pssx_cons (psx_app (px_var 4) (px_var 7))
pssx_nil))))
pssx_nil)
pssx_nil))
(pssx_wipe [6, 7]
pssx_nil)))
(pssx_wipe [6, 7]
(pssx_cons (psx_set (i := 2) (own := false) sc.nd (px_var 4))
pssx_nil)))))
(pssx_wipe [3, 4, 5, 6, 7]
(pssx_cons (psx_ret (px_var 2))
pssx_nil))))
/-! ### _law_place -/
abbrev s__law_place : Stmt := top 19
theorem sc__law_place : FnScope ["row", "name"] ["row", "name"] (defScope s__law_place) := ⟨rfl, rfl, rfl, by decide +kernel, rfl, by decide +kernel, by decide +kernel⟩
def g__law_place : Sx := sSeq (sRetK (cIf (bOf (cCall oInR [cVar 1, cVar 0])) (cCall oIndexR [cVar 0, cVar 1]) (cK (.int 99)))) (sNil)
def f__law_place : List PyData → Option PyData := runF 2 2 g__law_place
theorem ok__law_place {P : Program} {w : World} {K : PySem.W.Frag} {mg : Str → Option Value} {base : Heap} {fa : Addr} {fd : FuncData} (b : Bl mg) (F : Fun K "_law_place" "_law_place" s__law_place fa fd) : FnOk P w K mg base CX0 1 fa fd ["row", "name"] (spF K 2 f__law_place) :=
  have sc := sc__law_place
  fn_rule F sc__law_place rfl (by decide) fun cdv A outer s H E hr =>
(pssx_cons (psx_ret (px_if (ptx_cmp (so_inR (room_u hr)) (px_var 1) (px_var 0) (by rfl)) (px_indexR (px_var 0) (px_var 1)) px_int))
pssx_nil)
/-! ### _law_blocks -/
abbrev s__law_blocks : Stmt := top 20
theorem sc__law_blocks : FnScope ["printers", "papers", "match", "owner", "found", "name", "paper", "mine", "other"] ["printers", "papers", "match"] (defScope s__law_blocks) := ⟨rfl, rfl, rfl, by decide +kernel, rfl, by decide +kernel, by decide +kernel⟩
def g__law_blocks : Sx := sSeq (sPar 3 false 4 true (cCall oDict [cLc (iKey 2) (gN 5) (kTrue) (cCall oTup [cCall oIx [cVar 2, cVar 5], cVar 5]) [5]]) (cCall oLst [])) (sSeq (sFor (iSeq (cCall oSorted [cVar 0])) (gN 5) (sSeq (sFor (iSeq (cCall oSortedR [cCall oIx [cVar 0, cVar 5]])) (gN 6) (sSeq (sSet 7 false (cIf (bOf (cCall oIn [cVar 5, cVar 2])) (cFn f__law_place [cCall oIx [cVar 0, cVar 5], cCall oIx [cVar 2, cVar 5]]) (cK (.int 99)))) (sSeq (sSet 8 false (cIf (bOf (cCall oIn [cVar 6, cVar 3])) (cFn f__law_place [cCall oIx [cVar 1, cVar 6], cCall oIx [cVar 3, cVar 6]]) (cK (.int 99)))) (sSeq (sIf (kAnd (bOf (cCall oLt [cFn f__law_place [cCall oIx [cVar 0, cVar 5], cVar 6], cVar 7])) (bOf (cCall oLt [cFn f__law_place [cCall oIx [cVar 1, cVar 6], cVar 5], cVar 8]))) (sSeq (sApp 4 (cCall oTup [cVar 5, cVar 6])) (sNil)) (sNil)) (sNil))))) (sWipe [6, 7, 8] (sNil)))) (sWipe [6, 7, 8] (sSeq (sRetK (cVar 4)) (sNil))))
def f__law_blocks : List PyData → Option PyData := runF 9 3 g__law_blocks
theorem ok__law_blocks {P : Program} {w : World} {K : PySem.W.Frag} {mg : Str → Option Value} {base : Heap} {fa : Addr} {fd : FuncData} (b : Bl mg) (c__law_place : Cal P w K mg base "_law_place" 1 ["row", "name"] (spF K 2 f__law_place)) (F : Fun K "_law_blocks" "_law_blocks" s__law_blocks fa fd) : FnOk P w K mg base CX0 2 fa fd ["printers", "papers", "match"] (spF K 3 f__law_blocks) :=
  have sc := sc__law_blocks
  fn_rule F sc__law_blocks rfl (by decide) fun cdv A outer s H E hr =>
(pssx_cons (psx_par (i := 3) (oi := false) (j := 4) (oj := true) rfl sc.nd (px_callTy (so_dict rfl) rfl b.dict PyProof.Rows.boot_dict (pxs_cons (px_lcD (i := 2) (own := [("name", 5)]) rfl sc.nd rfl (blkOk_by (by kernel_rfl)) (fun _ _ _ _ _ => (pgx_name 5 sc.nd)) (fun _ _ _ _ _ => ptsx_nil) (fun _ _ _ _ _ => (px_tup (pxs_cons (px_ix (room_u hr) (px_var 2) (px_var 5)) (pxs_cons (px_var 5) pxs_nil))))) pxs_nil)) (px_lst pxs_nil))
(pssx_cons (psx_for (vs := [5]) PassesOwn.never rfl (pix_seq (px_callB (so_sorted rfl (room_u hr)) rfl b.sorted PyProof.Rows.boot_sorted (pxs_cons (px_var 0) pxs_nil))) (pgx_name 5 sc.nd)
(pssx_cons (psx_for (vs := [6]) PassesOwn.never rfl (pix_seq (px_callB (so_sortedR rfl (room_u hr)) rfl b.sorted PyProof.Rows.boot_sorted (pxs_cons (px_ix (room_u hr) (px_var 0) (px_var 5)) pxs_nil))) (pgx_name 6 sc.nd)
(pssx_cons (psx_set (i := 7) (own := false) sc.nd (px_if (ptx_cmp (so_in (room_u hr)) (px_var 5) (px_var 2) (by rfl)) (px_fnC c__law_place hr (pxs_cons (px_ix (room_u hr) (px_var 0) (px_var 5)) (pxs_cons (px_ix (room_u hr) (px_var 2) (px_var 5)) pxs_nil)) rfl (by decide)) px_int))
(pssx_cons (psx_set (i := 8) (own := false) sc.nd (px_if (ptx_cmp (so_in (room_u hr)) (px_var 6) (px_var 3) (by rfl)) (px_fnC c__law_place hr (pxs_cons (px_ix (room_u hr) (px_var 1) (px_var 6)) (pxs_cons (px_ix (room_u hr) (px_var 3) (px_var 6)) pxs_nil)) rfl (by decide)) px_int))
(pssx_cons (psx_if (PWX.pt (pwx_and (ptx_cmp so_lt (px_fnC c__law_place hr (pxs_cons (px_ix (room_u hr) (px_var 0) (px_var 5)) (pxs_cons (px_var 6) pxs_nil)) rfl (by decide)) (px_var 7) (nomark _)) (pwx_and1 (ptx_cmp so_lt (px_fnC c__law_place hr (pxs_cons (px_ix (room_u hr) (px_var 1) (px_var 6)) (pxs_cons (px_var 5) pxs_nil)) rfl (by decide)) (px_var 8) (nomark _)))))
(pssx_cons (psx_app (px_var 4) (px_tup (pxs_cons (px_var 5) (pxs_cons (px_var 6) pxs_nil))))
pssx_nil)
pssx_nil)
pssx_nil))))
(pssx_wipe [6, 7, 8]
pssx_nil)))
(pssx_wipe [6, 7, 8]
(pssx_cons (psx_ret (px_var 4))
pssx_nil))))
/-! ### law -/
abbrev s_law : Stmt := top 21
theorem sc_law : FnScope ["script", "w", "turn", "names", "goods", "printers", "papers", "every", "match", "wrong", "good", "first", "last", "own", "sure", "mixed", "thing", "name", "paper"] ["script"] (defScope s_law) := ⟨rfl, rfl, rfl, by decide +kernel, rfl, by decide +kernel, by decide +kernel⟩
def g_law : Sx := sSeq (sFor (iR1 (cK (.int 3))) (gN 2) (sSeq (sAsg (cCall oTup [cSlice (cCall oLst [cK (.str "pia"), cK (.str "ned"), cK (.str "oda")]) none (some (cNext 1 (cK (.int 4)))), cSlice (cCall oLst [cK (.str "roy"), cK (.str "pot"), cK (.str "elf")]) none (some (cNext 1 (cK (.int 4))))]) (gT 2 (gsCons (gN 3) (gsCons (gN 4) (gsNil))))) (sSeq (sSet 5 false (cCall oDict [cLc (iSeq (cVar 3)) (gN 17) (kTrue) (cCall oTup [cVar 17, cFnW 1 f__law_row [cVar 4]]) [17]])) (sSeq (sSet 6 false (cCall oDict [cLc (iSeq (cVar 4)) (gN 18) (kTrue) (cCall oTup [cVar 18, cFnW 1 f__law_row [cVar 3]]) [18]])) (sSeq (sSet 7 false (cFn f__law_matches [cVar 5, cVar 6])) (sSeq (sSet 8 false (cCall oIx [cVar 7, cNext 1 (cCall oLen [cVar 7])])) (sSeq (sSet 9 false (cFn f__law_blocks [cVar 5, cVar 6, cVar 8])) (sSeq (sIf (kOr (bOf (cCall oIsNot [cFn f_is_match [cVar 5, cVar 6, cVar 8], cK (.bool true)])) (kOr (bOf (cCall oNe [cFn f_blocks [cVar 5, cVar 6, cVar 8], cCall oTuple [cVar 9]])) (bOf (cCall oNe [cFn f_is_steady [cVar 5, cVar 6, cVar 8], cCall oEq [cVar 9, cCall oLst []]])))) (sSeq (sRetK (cK (.bool false))) (sNil)) (sNil)) (sSeq (sSet 10 false (cLc (iSeq (cVar 7)) (gN 13) (bOf (cCall oEq [cFn f__law_blocks [cVar 5, cVar 6, cVar 13], cCall oLst []])) (cVar 13) [13])) (sSeq (sIf (bOf (cCall oNe [cFn f_all_steady [cVar 5, cVar 6], cCall oTuple [cCall oSortedZ [cLc (iSeq (cVar 10)) (gN 13) (kTrue) (cCall oTuple [cLc (iSeq (cCall oSorted [cVar 13])) (gN 17) (kTrue) (cCall oTup [cVar 17, cCall oIx [cVar 13, cVar 17]]) [17]]) [13]]]])) (sSeq (sRetK (cK (.bool false))) (sNil)) (sNil)) (sSeq (sAsg (cCall oTup [cFn f_asked_first [cVar 5, cVar 6], cFn f_offered_first [cVar 5, cVar 6]]) (gT 2 (gsCons (gN 11) (gsCons (gN 12) (gsNil))))) (sSeq (sIf (kOr (bOf (cCall oNotInD [cVar 11, cVar 10])) (bOf (cCall oNotInD [cVar 12, cVar 10]))) (sSeq (sRetK (cK (.bool false))) (sNil)) (sNil)) (sSeq (sFor (iSeq (cVar 10)) (gN 13) (sSeq (sIf (bOf (cCall oNe [cCall oSorted [cVar 13], cCall oSorted [cVar 11]])) (sSeq (sRetK (cK (.bool false))) (sNil)) (sNil)) (sSeq (sIf (bOf (cCall oNe [cLc (iKey 13) (gN 17) (kNot (bOf (cChain oLe oLe (cCall oIndexR [cCall oIx [cVar 5, cVar 17], cCall oIx [cVar 11, cVar 17]]) (cCall oIndexR [cCall oIx [cVar 5, cVar 17], cCall oIx [cVar 13, cVar 17]]) (cCall oIndexR [cCall oIx [cVar 5, cVar 17], cCall oIx [cVar 12, cVar 17]])))) (cVar 17) [17], cCall oLst []])) (sSeq (sRetK (cK (.bool false))) (sNil)) (sNil)) (sNil)))) (sSeq (sSet 14 false (cLc (iSeq (cCall oSorted [cVar 11])) (gN 17) (bOf (cCall oEqL [cLc (iSeq (cVar 10)) (gN 13) (bOf (cCall oNe [cCall oIx [cVar 13, cVar 17], cCall oIx [cVar 11, cVar 17]])) (cVar 13) [13], cCall oLst []])) (cCall oTup [cVar 17, cCall oIx [cVar 11, cVar 17]]) [17])) (sSeq (sIf (kOr (bOf (cCall oNe [cFn f_sure_pairs [cVar 5, cVar 6], cCall oTuple [cVar 14]])) (bOf (cCall oNe [cFn f_left_without [cVar 5, cVar 6], cCall oTuple [cLc (iSeq (cCall oSorted [cVar 3])) (gN 17) (bOf (cCall oNotIn [cVar 17, cVar 11])) (cVar 17) [17]]]))) (sSeq (sRetK (cK (.bool false))) (sNil)) (sNil)) (sSeq (sIf (bOf (cCall oNe [cLc (iSeq (cVar 3)) (gN 17) (bOf (cCall oNe [cFn f_best_for [cVar 5, cVar 6, cVar 17], cIf (bOf (cCall oIn [cVar 17, cVar 11])) (cCall oIx [cVar 11, cVar 17]) (cK .none)])) (cVar 17) [17], cCall oLst []])) (sSeq (sRetK (cK (.bool false))) (sNil)) (sNil)) (sSeq (sSet 15 false (cIf (bOf (cCall oNe [cVar 4, cCall oLst []])) (cCall oDict [cLc (iSeq (cVar 3)) (gN 17) (kTrue) (cCall oTup [cVar 17, cCall oIx [cVar 4, cNext 1 (cCall oLen [cVar 4])]]) [17]]) (cDnew))) (sSeq (sFor (iSeq (cCall oTup [cVar 15, cCall oList [cVar 8], cK .none, cCall oDict [cLc (iSeq (cVar 3)) (gN 17) (kTrue) (cCall oTup [cVar 17, cK .none]) [17]], cDisp [(cK (.str "zed"), cK (.str "roy"))], cDisp [(cK (.int 5), cK (.str "roy"))]])) (gN 16) (sSeq (sIf (bOf (cCall oNe [cFn f_is_match [cVar 5, cVar 6, cVar 16], cCall oInD [cVar 16, cVar 7]])) (sSeq (sRetK (cK (.bool false))) (sNil)) (sNil)) (sNil))) (sWipe [16] (sNil)))))))))))))))))))) (sWipe [2, 5, 6, 7, 8, 9, 10, 13, 14, 15, 16, 3, 4, 11, 12] (sSeq (sRetK (cK (.bool true))) (sNil)))
theorem ok_law {P : Program} {w : World} {K : PySem.W.Frag} {mg : Str → Option Value} {base : Heap} {fa : Addr} {fd : FuncData} (b : Bl mg) (c_draws : Cal P w K mg base "_law_draws" 1 ["script", "many"] (spDraws K 120)) (c_next : Cal P w K mg base "_law_next" 1 ["w", "many"] (spNext K)) (c__law_row : Cal P w K mg base "_law_row" 2 ["w", "names"] (spW K 1 f__law_row)) (c__law_matches : Cal P w K mg base "_law_matches" 1 ["printers", "papers"] (spF K 2 f__law_matches)) (c__law_blocks : Cal P w K mg base "_law_blocks" 2 ["printers", "papers", "match"] (spF K 3 f__law_blocks)) (c_is_match : Cal P w K mg base "is_match" 2 ["printers", "papers", "thing"] (spF K 3 f_is_match)) (c_blocks : Cal P w K mg base "blocks" 2 ["printers", "papers", "match"] (spF K 3 f_blocks)) (c_is_steady : Cal P w K mg base "is_steady" 3 ["printers", "papers", "match"] (spF K 3 f_is_steady)) (c_all_steady : Cal P w K mg base "all_steady" 4 ["printers", "papers"] (spF K 2 f_all_steady)) (c_offered_first : Cal P w K mg base "offered_first" 3 ["printers", "papers"] (spF K 2 f_offered_first)) (c_asked_first : Cal P w K mg base "asked_first" 3 ["printers", "papers"] (spF K 2 f_asked_first)) (c_sure_pairs : Cal P w K mg base "sure_pairs" 5 ["printers", "papers"] (spF K 2 f_sure_pairs)) (c_left_without : Cal P w K mg base "left_without" 4 ["printers", "papers"] (spF K 2 f_left_without)) (c_best_for : Cal P w K mg base "best_for" 4 ["printers", "papers", "name"] (spF K 3 f_best_for)) (F : Fun K "law" "law" s_law fa fd) (hg : ∀ p W, drOk W → ∃ W', g_law (envL p 19) W = some (.rt (.bool true) W')) : FnOk P w K mg base CX0 6 fa fd ["script"] (spLaw K) := by
  have sc := sc_law
  obtain ⟨da, dd, q1, q2, q3, q4⟩ := c_draws.ex
  exact law_rule F sc_law (by decide) hg fun cdv A outer s H E hr =>
    pss_cons (ps_set (i := 1) sc.nd rfl (by first | exact .inl rfl | exact .inr rfl) (pe_disp (pps_cons pe_str (pe_call (E := E0) q1 (hr.mono (by decide)) rfl q2 q3 q4 .nil pass0 (pa_cons (pv 0) (pa_cons pe_int pa_nil))) (pps_cons pe_str pe_int pps_nil)) (by rfl) (by rfl) (fun z => by cases z) (by decide)))
      (pssx_cons (psx_for (vs := [2]) PassesOwn.never rfl (pix_range1 rfl b.range (pxs_cons px_int pxs_nil)) (pgx_name 2 sc.nd)
      (pssx_cons (psx_asg (vs := [3, 4]) (px_tup (pxs_cons (px_slice (px_lst (pxs_cons px_str (pxs_cons px_str (pxs_cons px_str pxs_nil)))) pox_none (pox_some (px_nextC 1 c_next hr (pv 1) px_int))) (pxs_cons (px_slice (px_lst (pxs_cons px_str (pxs_cons px_str (pxs_cons px_str pxs_nil)))) pox_none (pox_some (px_nextC 1 c_next hr (pv 1) px_int))) pxs_nil))) (pgx_tup rfl (pgsx_cons (pgx_name 3 sc.nd) (pgsx_cons (pgx_name 4 sc.nd) pgsx_nil))))
      (pssx_cons (psx_set (i := 5) (own := false) sc.nd (px_callTy (so_dict rfl) rfl b.dict PyProof.Rows.boot_dict (pxs_cons (px_lc (own := [("name", 17)]) rfl sc.nd (pix_seq (px_var 3)) (blkOk_by (by kernel_rfl)) (fun _ _ _ _ _ => (pgx_name 17 sc.nd)) (fun _ _ _ _ _ => ptsx_nil) (fun _ _ _ _ _ => (px_tup (pxs_cons (px_var 17) (pxs_cons (px_fnW 1 c__law_row hr (pv 1) (pxs_cons (px_var 4) pxs_nil) rfl (by decide)) pxs_nil))))) pxs_nil)))
      (pssx_cons (psx_set (i := 6) (own := false) sc.nd (px_callTy (so_dict rfl) rfl b.dict PyProof.Rows.boot_dict (pxs_cons (px_lc (own := [("paper", 18)]) rfl sc.nd (pix_seq (px_var 4)) (blkOk_by (by kernel_rfl)) (fun _ _ _ _ _ => (pgx_name 18 sc.nd)) (fun _ _ _ _ _ => ptsx_nil) (fun _ _ _ _ _ => (px_tup (pxs_cons (px_var 18) (pxs_cons (px_fnW 1 c__law_row hr (pv 1) (pxs_cons (px_var 3) pxs_nil) rfl (by decide)) pxs_nil))))) pxs_nil)))
      (pssx_cons (psx_set (i := 7) (own := false) sc.nd (px_fnC c__law_matches hr (pxs_cons (px_var 5) (pxs_cons (px_var 6) pxs_nil)) rfl (by decide)))
      (pssx_cons (psx_set (i := 8) (own := false) sc.nd (px_ix (room_u hr) (px_var 7) (px_nextC 1 c_next hr (pv 1) (px_callB so_len rfl b.len PySem.boot_len (pxs_cons (px_var 7) pxs_nil)))))
      (pssx_cons (psx_set (i := 9) (own := false) sc.nd (px_fnC c__law_blocks hr (pxs_cons (px_var 5) (pxs_cons (px_var 6) (pxs_cons (px_var 8) pxs_nil))) rfl (by decide)))
      (pssx_cons (psx_if (PWX.pt (pwx_or (ptx_cmp so_isNot (px_fnC c_is_match hr (pxs_cons (px_var 5) (pxs_cons (px_var 6) (pxs_cons (px_var 8) pxs_nil))) rfl (by decide)) px_bool (nomark _)) (pwx_or (ptx_cmp (so_ne (room_64 hr)) (px_fnC c_blocks hr (pxs_cons (px_var 5) (pxs_cons (px_var 6) (pxs_cons (px_var 8) pxs_nil))) rfl (by decide)) (px_callTy so_tuple rfl b.tuple PyProof.Rows.boot_tuple (pxs_cons (px_var 9) pxs_nil)) (nomark _)) (pwx_or1 (ptx_cmp (so_ne (room_64 hr)) (px_fnC c_is_steady hr (pxs_cons (px_var 5) (pxs_cons (px_var 6) (pxs_cons (px_var 8) pxs_nil))) rfl (by decide)) (px_cmp (so_eq (room_64 hr)) (px_var 9) (px_lst pxs_nil) (nomark _)) (nomark _))))))
      (pssx_cons (psx_ret px_bool)
      pssx_nil)
      pssx_nil)
      (pssx_cons (psx_set (i := 10) (own := false) sc.nd (px_lc (own := [("own", 13)]) rfl sc.nd (pix_seq (px_var 7)) (blkOk_by (by kernel_rfl)) (fun _ _ _ _ _ => (pgx_name 13 sc.nd)) (fun _ _ _ _ _ => (ptsx_one (ptx_cmp (so_eq (room_64 hr)) (px_fnC c__law_blocks hr (pxs_cons (px_var 5) (pxs_cons (px_var 6) (pxs_cons (px_var 13) pxs_nil))) rfl (by decide)) (px_lst pxs_nil) (nomark _)))) (fun _ _ _ _ _ => (px_var 13))))
      (pssx_cons (psx_if (ptx_cmp (so_ne (room_64 hr)) (px_fnC c_all_steady hr (pxs_cons (px_var 5) (pxs_cons (px_var 6) pxs_nil)) rfl (by decide)) (px_callTy so_tuple rfl b.tuple PyProof.Rows.boot_tuple (pxs_cons (px_callB (so_sortedZ rfl (room_u hr)) rfl b.sorted PyProof.Rows.boot_sorted (pxs_cons (px_lc (own := [("own", 13)]) rfl sc.nd (pix_seq (px_var 10)) (blkOk_by (by kernel_rfl)) (fun _ _ _ _ _ => (pgx_name 13 sc.nd)) (fun _ _ _ _ _ => ptsx_nil) (fun _ _ _ _ _ => (px_callTy so_tuple rfl b.tuple PyProof.Rows.boot_tuple (pxs_cons (px_lc (own := [("name", 17)]) rfl sc.nd (pix_seq (px_callB (so_sorted rfl (room_u hr)) rfl b.sorted PyProof.Rows.boot_sorted (pxs_cons (px_var 13) pxs_nil))) (blkOk_by (by kernel_rfl)) (fun _ _ _ _ _ => (pgx_name 17 sc.nd)) (fun _ _ _ _ _ => ptsx_nil) (fun _ _ _ _ _ => (px_tup (pxs_cons (px_var 17) (pxs_cons (px_ix (room_u hr) (px_var 13) (px_var 17)) pxs_nil))))) pxs_nil)))) pxs_nil)) pxs_nil)) (nomark _))
      (pssx_cons (psx_ret px_bool)
      pssx_nil)
      pssx_nil)
      (pssx_cons (psx_asg (vs := [11, 12]) (px_tup (pxs_cons (px_fnC c_asked_first hr (pxs_cons (px_var 5) (pxs_cons (px_var 6) pxs_nil)) rfl (by decide)) (pxs_cons (px_fnC c_offered_first hr (pxs_cons (px_var 5) (pxs_cons (px_var 6) pxs_nil)) rfl (by decide)) pxs_nil))) (pgx_tup rfl (pgsx_cons (pgx_name 11 sc.nd) (pgsx_cons (pgx_name 12 sc.nd) pgsx_nil))))
      (pssx_cons (psx_if (PWX.pt (pwx_or (ptx_cmp (so_notInD (room_u hr)) (px_var 11) (px_var 10) (by rfl)) (pwx_or1 (ptx_cmp (so_notInD (room_u hr)) (px_var 12) (px_var 10) (by rfl)))))
      (pssx_cons (psx_ret px_bool)
      pssx_nil)
      pssx_nil)
      (pssx_cons (psx_for (vs := [13]) PassesOwn.never rfl (pix_seq (px_var 10)) (pgx_name 13 sc.nd)
      (pssx_cons (psx_if (ptx_cmp (so_ne (room_64 hr)) (px_callB (so_sorted rfl (room_u hr)) rfl b.sorted PyProof.Rows.boot_sorted (pxs_cons (px_var 13) pxs_nil)) (px_callB (so_sorted rfl (room_u hr)) rfl b.sorted PyProof.Rows.boot_sorted (pxs_cons (px_var 11) pxs_nil)) (nomark _))
      (pssx_cons (psx_ret px_bool)
      pssx_nil)
      pssx_nil)
      (pssx_cons (psx_if (ptx_cmp (so_ne (room_64 hr)) (px_lcD (i := 13) (own := [("name", 17)]) rfl sc.nd rfl (blkOk_by (by kernel_rfl)) (fun _ _ _ _ _ => (pgx_name 17 sc.nd)) (fun _ _ _ _ _ => (ptsx_one (ptx_not (ptx_chain so_le so_le (px_indexR (px_ix (room_u hr) (px_var 5) (px_var 17)) (px_ix (room_u hr) (px_var 11) (px_var 17))) (px_indexR (px_ix (room_u hr) (px_var 5) (px_var 17)) (px_ix (room_u hr) (px_var 13) (px_var 17))) (px_indexR (px_ix (room_u hr) (px_var 5) (px_var 17)) (px_ix (room_u hr) (px_var 12) (px_var 17))))))) (fun _ _ _ _ _ => (px_var 17))) (px_lst pxs_nil) (nomark _))
      (pssx_cons (psx_ret px_bool)
      pssx_nil)
      pssx_nil)
      pssx_nil)))
      (pssx_cons (psx_setLc (i := 14) (oo := false) (own := [("name", 17)]) rfl sc.nd (pix_seq (px_callB (so_sorted rfl (room_u hr)) rfl b.sorted PyProof.Rows.boot_sorted (pxs_cons (px_var 11) pxs_nil))) (blkOk_by (by kernel_rfl)) (fun _ _ _ _ _ => (pgx_name 17 sc.nd)) (fun _ _ _ _ _ => (ptsx_one (ptx_cmp (so_eqL (room_u hr)) (px_lc (own := [("own", 13)]) rfl sc.nd (pix_seq (px_var 10)) (blkOk_by (by kernel_rfl)) (fun _ _ _ _ _ => (pgx_name 13 sc.nd)) (fun _ _ _ _ _ => (ptsx_one (ptx_cmp (so_ne (room_64 hr)) (px_ix (room_u hr) (px_var 13) (px_var 17)) (px_ix (room_u hr) (px_var 11) (px_var 17)) (nomark _)))) (fun _ _ _ _ _ => (px_var 13))) (px_lst pxs_nil) (nomark _)))) (fun _ _ _ _ _ => (px_tup (pxs_cons (px_var 17) (pxs_cons (px_ix (room_u hr) (px_var 11) (px_var 17)) pxs_nil)))) (sw_true rfl rfl rfl (by kernel_rfl)))
      (pssx_cons (psx_if (PWX.pt (pwx_or (ptx_cmp (so_ne (room_64 hr)) (px_fnC c_sure_pairs hr (pxs_cons (px_var 5) (pxs_cons (px_var 6) pxs_nil)) rfl (by decide)) (px_callTy so_tuple rfl b.tuple PyProof.Rows.boot_tuple (pxs_cons (px_var 14) pxs_nil)) (nomark _)) (pwx_or1 (ptx_cmp (so_ne (room_64 hr)) (px_fnC c_left_without hr (pxs_cons (px_var 5) (pxs_cons (px_var 6) pxs_nil)) rfl (by decide)) (px_callTy so_tuple rfl b.tuple PyProof.Rows.boot_tuple (pxs_cons (px_lc (own := [("name", 17)]) rfl sc.nd (pix_seq (px_callB (so_sorted rfl (room_u hr)) rfl b.sorted PyProof.Rows.boot_sorted (pxs_cons (px_var 3) pxs_nil))) (blkOk_by (by kernel_rfl)) (fun _ _ _ _ _ => (pgx_name 17 sc.nd)) (fun _ _ _ _ _ => (ptsx_one (ptx_cmp (so_notIn (room_u hr)) (px_var 17) (px_var 11) (by rfl)))) (fun _ _ _ _ _ => (px_var 17))) pxs_nil)) (nomark _)))))
      (pssx_cons (psx_ret px_bool)
      pssx_nil)
      pssx_nil)
      (pssx_cons (psx_if (ptx_cmp (so_ne (room_64 hr)) (px_lc (own := [("name", 17)]) rfl sc.nd (pix_seq (px_var 3)) (blkOk_by (by kernel_rfl)) (fun _ _ _ _ _ => (pgx_name 17 sc.nd)) (fun _ _ _ _ _ => (ptsx_one (ptx_cmp (so_ne (room_64 hr)) (px_fnC c_best_for hr (pxs_cons (px_var 5) (pxs_cons (px_var 6) (pxs_cons (px_var 17) pxs_nil))) rfl (by decide)) (px_if (ptx_cmp (so_in (room_u hr)) (px_var 17) (px_var 11) (by rfl)) (px_ix (room_u hr) (px_var 11) (px_var 17)) px_none) (nomark _)))) (fun _ _ _ _ _ => (px_var 17))) (px_lst pxs_nil) (nomark _))
      (pssx_cons (psx_ret px_bool)
      pssx_nil)
      pssx_nil)
      (pssx_cons (psx_set (i := 15) (own := false) sc.nd (px_if (ptx_cmp (so_ne (room_64 hr)) (px_var 4) (px_lst pxs_nil) (nomark _)) (px_callTy (so_dict rfl) rfl b.dict PyProof.Rows.boot_dict (pxs_cons (px_lc (own := [("name", 17)]) rfl sc.nd (pix_seq (px_var 3)) (blkOk_by (by kernel_rfl)) (fun _ _ _ _ _ => (pgx_name 17 sc.nd)) (fun _ _ _ _ _ => ptsx_nil) (fun _ _ _ _ _ => (px_tup (pxs_cons (px_var 17) (pxs_cons (px_ix (room_u hr) (px_var 4) (px_nextC 1 c_next hr (pv 1) (px_callB so_len rfl b.len PySem.boot_len (pxs_cons (px_var 4) pxs_nil)))) pxs_nil))))) pxs_nil)) px_dnew))
      (pssx_cons (psx_for (vs := [16]) PassesOwn.never rfl (pix_seq (px_tup (pxs_cons (px_var 15) (pxs_cons (px_callTy (so_list rfl) rfl b.list PyProof.Rows.boot_list (pxs_cons (px_var 8) pxs_nil)) (pxs_cons px_none (pxs_cons (px_callTy (so_dict rfl) rfl b.dict PyProof.Rows.boot_dict (pxs_cons (px_lc (own := [("name", 17)]) rfl sc.nd (pix_seq (px_var 3)) (blkOk_by (by kernel_rfl)) (fun _ _ _ _ _ => (pgx_name 17 sc.nd)) (fun _ _ _ _ _ => ptsx_nil) (fun _ _ _ _ _ => (px_tup (pxs_cons (px_var 17) (pxs_cons px_none pxs_nil))))) pxs_nil)) (pxs_cons (px_disp (ppx_cons px_str px_str ppx_nil)) (pxs_cons (px_disp (ppx_cons px_int px_str ppx_nil)) pxs_nil)))))))) (pgx_name 16 sc.nd)
      (pssx_cons (psx_if (ptx_cmp (so_ne (room_64 hr)) (px_fnC c_is_match hr (pxs_cons (px_var 5) (pxs_cons (px_var 6) (pxs_cons (px_var 16) pxs_nil))) rfl (by decide)) (px_cmp (so_inD (room_u hr)) (px_var 16) (px_var 7) (by rfl)) (nomark _))
      (pssx_cons (psx_ret px_bool)
      pssx_nil)
      pssx_nil)
      pssx_nil))
      (pssx_wipe [16]
      pssx_nil)))))))))))))))))))
      (pssx_wipe [2, 5, 6, 7, 8, 9, 10, 13, 14, 15, 16, 3, 4, 11, 12]
      (pssx_cons (psx_ret px_bool)
      pssx_nil)))
end
end K39

namespace K39
open PySem PX
/-! ### printers and papers: steady matches -/
structure Wd where
  ns : List Str
  gs : List Str
  P : Str → List Str
  Q : Str → List Str
def Wd.swap (w : Wd) : Wd := ⟨w.gs, w.ns, w.Q, w.P⟩
structure Wd.Ok (w : Wd) : Prop where
  nd : w.ns.Nodup
  gd : w.gs.Nodup
  p : ∀ x ∈ w.ns, (w.P x).Nodup ∧ ∀ y ∈ w.P x, y ∈ w.gs
  q : ∀ y ∈ w.gs, (w.Q y).Nodup ∧ ∀ x ∈ w.Q y, x ∈ w.ns
  l1 : w.ns.length ≤ 3
  l2 : w.gs.length ≤ 3
theorem Wd.Ok.swap {w : Wd} (h : w.Ok) : w.swap.Ok := ⟨h.gd, h.nd, h.q, h.p, h.l2, h.l1⟩
abbrev Fn := Str → Option Str
def ltB (r : List Str) (a : Str) : Option Str → Bool
  | none => true
  | some b => decide (r.idxOf a < r.idxOf b)
structure Stable (w : Wd) (μ ν : Fn) : Prop where
  m1 : ∀ x y, μ x = some y → x ∈ w.ns ∧ y ∈ w.P x ∧ x ∈ w.Q y
  m2 : ∀ x y, μ x = some y ↔ ν y = some x
  st : ∀ x ∈ w.ns, ∀ y ∈ w.P x, x ∈ w.Q y → ltB (w.P x) y (μ x) = true → ltB (w.Q y) x (ν y) = true → False
theorem idx_inj {r : List Str} {a b : Str} (ha : a ∈ r) (h : r.idxOf a = r.idxOf b) : a = b := by
  have h1 : r.idxOf a < r.length := List.idxOf_lt_length_of_mem ha
  have e1 : r[r.idxOf a] = a := List.getElem_idxOf h1
  have e2 : r[r.idxOf b]'(h ▸ h1) = b := List.getElem_idxOf (h ▸ h1)
  rw [← e1, ← e2]
  congr 1
theorem idx_at {r : List Str} (nd : r.Nodup) {n : Nat} {g : Str} (h : r[n]? = some g) : r.idxOf g = n ∧ g ∈ r := by
  obtain ⟨hn, e⟩ := List.getElem?_eq_some_iff.mp h
  have hm : g ∈ r := e ▸ List.getElem_mem hn
  refine ⟨?_, hm⟩
  have h1 : r.idxOf g < r.length := List.idxOf_lt_length_of_mem hm
  have e1 : r[r.idxOf g] = g := List.getElem_idxOf h1
  have pw := List.pairwise_iff_getElem.mp nd
  rcases Nat.lt_trichotomy (r.idxOf g) n with l | l | l
  · exact absurd (e1.trans e.symm) (pw _ _ h1 hn l)
  · exact l
  · exact absurd (e.trans e1.symm) (pw _ _ hn h1 l)
def upf (h : Fn) (g x : Str) : Fn := fun z => if z = g then some x else h z
def upn (t : Str → Nat) (x : Str) : Str → Nat := fun z => if z = x then t z + 1 else t z
theorem upf_at {h : Fn} {g x : Str} : upf h g x g = some x := if_pos rfl
theorem upf_ne {h : Fn} {g x z : Str} (n : z ≠ g) : upf h g x z = h z := if_neg n
theorem upn_at {t : Str → Nat} {x : Str} : upn t x x = t x + 1 := if_pos rfl
theorem upn_ne {t : Str → Nat} {x z : Str} (n : z ≠ x) : upn t x z = t z := if_neg n
structure Inv (w : Wd) (h : Fn) (t : Str → Nat) (cur : Option Str) (wt : List Str) : Prop where
  i1 : ∀ g x, h g = some x → x ∈ w.ns ∧ g ∈ w.P x ∧ x ∈ w.Q g ∧ (w.P x).idxOf g + 1 = t x
  i2 : ∀ x ∈ w.ns, ∀ g ∈ w.P x, (w.P x).idxOf g < t x → x ∈ w.Q g → h g = some x ∨ ∃ b, h g = some b ∧ (w.Q g).idxOf b < (w.Q g).idxOf x
  i3 : ∀ x ∈ w.ns, t x ≤ (w.P x).length
  i4 : ∀ x ∈ w.ns, x ∈ wt ∨ cur = some x ∨ (∃ g, h g = some x) ∨ t x = (w.P x).length
  i5 : ∀ μ ν, Stable w μ ν → ∀ x ∈ w.ns, ∀ g ∈ w.P x, (w.P x).idxOf g < t x → h g ≠ some x → μ x ≠ some g
  i6 : ∀ g x, (x ∈ wt ∨ cur = some x) → h g ≠ some x
  i7 : wt.Nodup
  i8 : ∀ x ∈ wt, x ∈ w.ns
  i9 : ∀ x, cur = some x → x ∈ w.ns ∧ x ∉ wt
variable {w : Wd} {h : Fn} {t : Str → Nat} {cur : Option Str} {wt : List Str} {x g : Str}
theorem Inv.one (I : Inv w h t cur wt) {g g' x : Str} (h1 : h g = some x) (h2 : h g' = some x) : g = g' := by
  obtain ⟨_, m1, _, e1⟩ := I.i1 _ _ h1
  obtain ⟨_, m2, _, e2⟩ := I.i1 _ _ h2
  exact idx_inj m1 (by omega)
/-- who has been refused by all better ones would rather have g -/
theorem Inv.pref (I : Inv w h t cur wt) {μ ν : Fn} (S : Stable w μ ν) {x g : Str} (hx : x ∈ w.ns) (hg : g ∈ w.P x) (hne : μ x ≠ some g) (hb : ∀ g' ∈ w.P x, (w.P x).idxOf g' < (w.P x).idxOf g → (w.P x).idxOf g' < t x ∧ h g' ≠ some x) : ltB (w.P x) g (μ x) = true := by
  cases e : μ x with
  | none => rfl
  | some y =>
    show decide _ = true
    rw [decide_eq_true_eq]
    obtain ⟨_, hy, _⟩ := S.m1 _ _ e
    rcases Nat.lt_trichotomy ((w.P x).idxOf g) ((w.P x).idxOf y) with q | q | q
    · exact q
    · exact absurd (by rw [e, idx_inj hg q]) hne
    · obtain ⟨z1, z2⟩ := hb y hy q
      exact absurd e (I.i5 μ ν S x hx y hy z1 z2)
theorem Inv.stepA (ok : w.Ok) (I : Inv w h t (some x) wt) (hg : (w.P x)[t x]? = some g) (hq : x ∈ w.Q g) (hl : ltB (w.Q g) x (h g) = true) : Inv w (upf h g x) (upn t x) (h g) wt := by
  obtain ⟨hx, hxw⟩ := I.i9 x rfl
  obtain ⟨eg, mg⟩ := idx_at (ok.p x hx).1 hg
  have nh : ∀ g', h g' ≠ some x := fun g' => I.i6 g' x (.inr rfl)
  have hlen : t x < (w.P x).length := (List.getElem?_eq_some_iff.mp hg).1
  refine ⟨fun g' z e => ?_, fun z hz g' mg' lt hq' => ?_, fun z hz => ?_, fun z hz => ?_, fun μ ν S z hz g' mg' lt ne => ?_, fun g' z hz => ?_, I.i7, I.i8, fun z hz => ?_⟩
  · by_cases q : g' = g
    · subst q
      rw [upf_at] at e
      cases e
      exact ⟨hx, mg, hq, by rw [upn_at, eg]⟩
    · rw [upf_ne q] at e
      obtain ⟨a, b, c, d⟩ := I.i1 _ _ e
      have nz : z ≠ x := fun ez => nh g' (ez ▸ e)
      exact ⟨a, b, c, by rw [upn_ne nz]; exact d⟩
  · by_cases q : g' = g
    · subst q
      rw [upf_at]
      by_cases qz : z = x
      · exact .inl (by rw [qz])
      · rw [upn_ne qz] at lt
        right
        refine ⟨x, rfl, ?_⟩
        rcases I.i2 z hz g' mg' lt hq' with o | ⟨b, o, lb⟩
        · rw [o] at hl
          exact of_decide_eq_true hl
        · rw [o] at hl
          have := of_decide_eq_true hl
          omega
    · rw [upf_ne q]
      by_cases qz : z = x
      · subst qz
        rw [upn_at] at lt
        refine I.i2 z hz g' mg' ?_ hq'
        rcases Nat.lt_or_ge ((w.P z).idxOf g') (t z) with l | l
        · exact l
        · exact absurd (idx_inj mg' (by omega)) q
      · rw [upn_ne qz] at lt
        exact I.i2 z hz g' mg' lt hq'
  · by_cases qz : z = x
    · subst qz; rw [upn_at]; omega
    · rw [upn_ne qz]; exact I.i3 z hz
  · rcases I.i4 z hz with q | q | ⟨g', q⟩ | q
    · exact .inl q
    · cases q
      exact .inr (.inr (.inl ⟨g, upf_at⟩))
    · by_cases e : g' = g
      · subst e
        exact .inr (.inl q)
      · exact .inr (.inr (.inl ⟨g', by rw [upf_ne e]; exact q⟩))
    · by_cases qz : z = x
      · subst qz; omega
      · exact .inr (.inr (.inr (by rw [upn_ne qz]; exact q)))
  · by_cases qz : z = x
    · subst qz
      rw [upn_at] at lt
      by_cases q : g' = g
      · subst q
        rw [upf_at] at ne
        exact absurd rfl ne
      · rw [upf_ne q] at ne
        refine I.i5 μ ν S z hz g' mg' ?_ ne
        rcases Nat.lt_or_ge ((w.P z).idxOf g') (t z) with l | l
        · exact l
        · exact absurd (idx_inj mg' (by omega)) q
    · rw [upn_ne qz] at lt
      by_cases q : g' = g
      · subst q
        by_cases o : h g' = some z
        · intro e
          have ev := (S.m2 _ _).mp e
          rw [o] at hl
          refine S.st x hx g' mg hq (I.pref S hx mg (fun e2 => qz ?_) fun g2 m2 l2 => ⟨by omega, nh g2⟩) (by rw [ev]; exact hl)
          have e3 := (S.m2 _ _).mp e2
          rw [ev] at e3
          exact Option.some.inj e3
        · exact I.i5 μ ν S z hz g' mg' lt o
      · rw [upf_ne q] at ne
        exact I.i5 μ ν S z hz g' mg' lt ne
  · rcases hz with hz | hz
    · by_cases q : g' = g
      · subst q
        rw [upf_at]
        intro e
        cases e
        exact hxw hz
      · rw [upf_ne q]
        exact I.i6 g' z (.inl hz)
    · by_cases q : g' = g
      · subst q
        rw [upf_at]
        intro e
        cases e
        exact nh g' hz
      · rw [upf_ne q]
        intro e
        exact q (I.one e hz)
  · obtain ⟨a, _⟩ := I.i1 _ _ hz
    exact ⟨a, fun hw => I.i6 g z (.inl hw) hz⟩
theorem Inv.stepB (ok : w.Ok) (I : Inv w h t (some x) wt) (hg : (w.P x)[t x]? = some g) (hq : ¬ (x ∈ w.Q g ∧ ltB (w.Q g) x (h g) = true)) : Inv w h (upn t x) (some x) wt := by
  obtain ⟨hx, hxw⟩ := I.i9 x rfl
  obtain ⟨eg, mg⟩ := idx_at (ok.p x hx).1 hg
  have nh : ∀ g', h g' ≠ some x := fun g' => I.i6 g' x (.inr rfl)
  have hlen : t x < (w.P x).length := (List.getElem?_eq_some_iff.mp hg).1
  have worse : x ∈ w.Q g → ∃ b, h g = some b ∧ (w.Q g).idxOf b < (w.Q g).idxOf x := fun hqx => by
    cases o : h g with
    | none => exact absurd ⟨hqx, by rw [o]; rfl⟩ hq
    | some b =>
      refine ⟨b, rfl, ?_⟩
      obtain ⟨_, _, mb, _⟩ := I.i1 _ _ o
      have n1 : ¬ (w.Q g).idxOf x < (w.Q g).idxOf b := fun l => hq ⟨hqx, by rw [o]; exact decide_eq_true l⟩
      rcases Nat.lt_trichotomy ((w.Q g).idxOf b) ((w.Q g).idxOf x) with q | q | q
      · exact q
      · have := idx_inj mb q
        subst this
        exact absurd o (nh g)
      · exact absurd q n1
  refine ⟨fun g' z e => ?_, fun z hz g' mg' lt hq' => ?_, fun z hz => ?_, fun z hz => ?_, fun μ ν S z hz g' mg' lt ne => ?_, I.i6, I.i7, I.i8, I.i9⟩
  · obtain ⟨a, b, c, d⟩ := I.i1 _ _ e
    have nz : z ≠ x := fun ez => nh g' (ez ▸ e)
    exact ⟨a, b, c, by rw [upn_ne nz]; exact d⟩
  · by_cases qz : z = x
    · subst qz
      rw [upn_at] at lt
      by_cases q : g' = g
      · subst q
        exact .inr (worse hq')
      · refine I.i2 z hz g' mg' ?_ hq'
        rcases Nat.lt_or_ge ((w.P z).idxOf g') (t z) with l | l
        · exact l
        · exact absurd (idx_inj mg' (by omega)) q
    · rw [upn_ne qz] at lt
      exact I.i2 z hz g' mg' lt hq'
  · by_cases qz : z = x
    · subst qz; rw [upn_at]; omega
    · rw [upn_ne qz]; exact I.i3 z hz
  · rcases I.i4 z hz with q | q | q | q
    · exact .inl q
    · exact .inr (.inl q)
    · exact .inr (.inr (.inl q))
    · by_cases qz : z = x
      · subst qz; omega
      · exact .inr (.inr (.inr (by rw [upn_ne qz]; exact q)))
  · by_cases qz : z = x
    · subst qz
      rw [upn_at] at lt
      by_cases q : g' = g
      · subst q
        intro e
        obtain ⟨_, _, hqx⟩ := S.m1 _ _ e
        obtain ⟨b, ob, lb⟩ := worse hqx
        obtain ⟨b1, b2, b3, b4⟩ := I.i1 _ _ ob
        have ev := (S.m2 _ _).mp e
        refine S.st b b1 g' b2 b3 (I.pref S b1 b2 (fun e2 => ?_) fun g2 m2 l2 => ⟨by omega, fun o2 => ?_⟩) (by rw [ev]; exact decide_eq_true lb)
        · have e3 := (S.m2 _ _).mp e2
          rw [ev] at e3
          cases e3
          omega
        · have := I.one o2 ob
          subst this
          omega
      · refine I.i5 μ ν S z hz g' mg' ?_ ne
        rcases Nat.lt_or_ge ((w.P z).idxOf g') (t z) with l | l
        · exact l
        · exact absurd (idx_inj mg' (by omega)) q
    · rw [upn_ne qz] at lt
      exact I.i5 μ ν S z hz g' mg' lt ne
theorem Inv.pop (I : Inv w h t cur (x :: wt)) (hc : ∀ z, cur = some z → t z = (w.P z).length) : Inv w h t (some x) wt := by
  have nd := List.nodup_cons.mp I.i7
  refine ⟨I.i1, I.i2, I.i3, fun z hz => ?_, I.i5, fun g' z hz => ?_, nd.2, fun z hz => I.i8 z (List.mem_cons_of_mem _ hz), fun z hz => ?_⟩
  · rcases I.i4 z hz with q | q | q | q
    · rcases List.mem_cons.mp q with rfl | q
      · exact .inr (.inl rfl)
      · exact .inl q
    · exact .inr (.inr (.inr (hc z q)))
    · exact .inr (.inr (.inl q))
    · exact .inr (.inr (.inr q))
  · rcases hz with hz | hz
    · exact I.i6 g' z (.inl (List.mem_cons_of_mem _ hz))
    · cases hz
      exact I.i6 g' x (.inl List.mem_cons_self)
  · cases hz
    exact ⟨I.i8 x List.mem_cons_self, nd.1⟩
theorem Inv.start (ok : w.Ok) {xs : List Str} (p : xs.Perm w.ns) : Inv w (fun _ => none) (fun _ => 0) none xs := by
  refine ⟨fun g x e => (nomatch e), fun x hx g mg lt => absurd lt (Nat.not_lt_zero _), fun x hx => Nat.zero_le _, fun x hx => .inl (p.mem_iff.mpr hx), fun μ ν S x hx g mg lt => absurd lt (Nat.not_lt_zero _), fun g x hx e => (nomatch e), p.nodup_iff.mpr ok.nd, fun x hx => p.mem_iff.mp hx, fun x e => (nomatch e)⟩
/-- the match that asking comes to -/
structure Best (w : Wd) (h : Fn) : Prop where
  b1 : ∀ g x, h g = some x → x ∈ w.ns ∧ g ∈ w.P x ∧ x ∈ w.Q g
  b2 : ∀ g g' x, h g = some x → h g' = some x → g = g'
  b3 : ∀ μ : Fn, (∀ x g, μ x = some g ↔ h g = some x) → Stable w μ h
  b4 : ∀ μ ν, Stable w μ ν → ∀ x y, μ x = some y → ∃ g, h g = some x ∧ (w.P x).idxOf g ≤ (w.P x).idxOf y
theorem Inv.best (I : Inv w h t cur []) (hc : ∀ z, cur = some z → t z = (w.P z).length) : Best w h := by
  have fin : ∀ x ∈ w.ns, (∃ g, h g = some x) ∨ t x = (w.P x).length := fun x hx => by
    rcases I.i4 x hx with q | q | q | q
    · cases q
    · exact .inr (hc x q)
    · exact .inl q
    · exact .inr q
  refine ⟨fun g x e => ?_, fun g g' x e e' => I.one e e', fun μ hμ => ⟨fun x y e => ?_, hμ, fun x hx y my hq l1 l2 => ?_⟩, fun μ ν S x y e => ?_⟩
  · obtain ⟨a, b, c, _⟩ := I.i1 _ _ e
    exact ⟨a, b, c⟩
  · obtain ⟨a, b, c, _⟩ := I.i1 _ _ ((hμ _ _).mp e)
    exact ⟨a, b, c⟩
  · have lt : (w.P x).idxOf y < t x := by
      cases e : μ x with
      | none =>
        rcases fin x hx with ⟨g, q⟩ | q
        · rw [(hμ _ _).mpr q] at e; cases e
        · rw [q]; exact List.idxOf_lt_length_of_mem my
      | some g =>
        rw [e] at l1
        have := of_decide_eq_true l1
        obtain ⟨_, _, _, q⟩ := I.i1 _ _ ((hμ _ _).mp e)
        omega
    rcases I.i2 x hx y my lt hq with o | ⟨b, o, lb⟩
    · rw [(hμ _ _).mpr o] at l1
      have := of_decide_eq_true l1
      omega
    · rw [o] at l2
      have := of_decide_eq_true l2
      omega
  · obtain ⟨hx, my, hq⟩ := S.m1 _ _ e
    by_cases lt : (w.P x).idxOf y < t x
    · by_cases o : h y = some x
      · exact ⟨y, o, Nat.le_refl _⟩
      · exact absurd e (I.i5 μ ν S x hx y my lt o)
    · rcases fin x hx with ⟨g, q⟩ | q
      · obtain ⟨_, _, _, q2⟩ := I.i1 _ _ q
        exact ⟨g, q, by omega⟩
      · have := List.idxOf_lt_length_of_mem my
        omega
/-! ### all steady matches -/
theorem nodup_le {α : Type} [DecidableEq α] : ∀ {a b : List α}, a.Nodup → (∀ x ∈ a, x ∈ b) → a.length ≤ b.length
  | [], _, _, _ => Nat.zero_le _
  | x :: a, b, nd, hs => by
    have nd' := List.nodup_cons.mp nd
    have hx := hs x List.mem_cons_self
    have ih := nodup_le (b := b.erase x) nd'.2 fun y hy => (List.mem_erase_of_ne (show y ≠ x from fun e => nd'.1 (e ▸ hy))).mpr (hs y (List.mem_cons_of_mem _ hy))
    rw [List.length_erase_of_mem hx] at ih
    have := List.length_pos_of_mem hx
    rw [List.length_cons]
    omega
theorem nodup_eq {α : Type} [DecidableEq α] {a b : List α} (nb : b.Nodup) (na : a.Nodup) (hs : ∀ x ∈ a, x ∈ b) (hl : b.length ≤ a.length) : ∀ x ∈ b, x ∈ a := fun x hx => by
  by_cases h : x ∈ a
  · exact h
  · have := nodup_le (a := x :: a) (b := b) (List.nodup_cons.mpr ⟨h, na⟩) fun y hy => by
      rcases List.mem_cons.mp hy with rfl | hy
      · exact hx
      · exact hs y hy
    rw [List.length_cons] at this
    omega
theorem Stable.swap {μ ν : Fn} (ok : w.Ok) (S : Stable w μ ν) : Stable w.swap ν μ := by
  refine ⟨fun y x e => ?_, fun y x => (S.m2 x y).symm, fun y hy x mx hq l1 l2 => ?_⟩
  · obtain ⟨a, b, c⟩ := S.m1 x y ((S.m2 x y).mpr e)
    exact ⟨(ok.p x a).2 y b, c, b⟩
  · exact S.st x ((ok.q y hy).2 x mx) y hq mx l2 l1
def has (xs : List Str) (μ : Fn) : List Str := xs.filter fun x => (μ x).isSome
theorem has_le {μ ν : Fn} (ok : w.Ok) (S : Stable w μ ν) : (has w.ns μ).length ≤ (has w.gs ν).length := by
  have nd : ((has w.ns μ).map fun x => (μ x).getD "").Nodup := by
    refine List.pairwise_map.mpr ?_
    refine List.Pairwise.imp_of_mem (fun {a b} ha hb ne e => ne ?_) (List.Pairwise.filter _ ok.nd)
    obtain ⟨ya, ea⟩ := Option.isSome_iff_exists.mp (List.mem_filter.mp ha).2
    obtain ⟨yb, eb⟩ := Option.isSome_iff_exists.mp (List.mem_filter.mp hb).2
    rw [ea, eb] at e
    have e : ya = yb := e
    subst e
    have q1 := (S.m2 _ _).mp ea
    have q2 := (S.m2 _ _).mp eb
    rw [q1] at q2
    exact Option.some.inj q2
  have := nodup_le (b := has w.gs ν) nd fun y hy => by
    obtain ⟨x, hx, rfl⟩ := List.mem_map.mp hy
    obtain ⟨y, e⟩ := Option.isSome_iff_exists.mp (List.mem_filter.mp hx).2
    obtain ⟨a, b, c⟩ := S.m1 x y e
    refine List.mem_filter.mpr ⟨by rw [e]; exact (ok.p x a).2 y b, ?_⟩
    rw [e]
    show (ν y).isSome = true
    rw [(S.m2 _ _).mp e]
    rfl
  rwa [List.length_map] at this
theorem has_eq {μ ν : Fn} (ok : w.Ok) (S : Stable w μ ν) : (has w.ns μ).length = (has w.gs ν).length := Nat.le_antisymm (has_le ok S) (has_le ok.swap (S.swap ok))
/-- the same have one in all steady matches -/
theorem same_have {α μ ν : Fn} (ok : w.Ok) (b : Best w h) (hα : ∀ x g, α x = some g ↔ h g = some x) (S : Stable w μ ν) : ∀ x, (μ x).isSome = (α x).isSome := by
  have Sα := b.b3 α hα
  have up : ∀ x ∈ has w.ns μ, x ∈ has w.ns α := fun x hx => by
    obtain ⟨m, hs⟩ := List.mem_filter.mp hx
    obtain ⟨y, e⟩ := Option.isSome_iff_exists.mp hs
    obtain ⟨g, hg, _⟩ := b.b4 μ ν S x y e
    refine List.mem_filter.mpr ⟨m, ?_⟩
    rw [(hα _ _).mpr hg]
    rfl
  have dn : ∀ g ∈ has w.gs h, g ∈ has w.gs ν := fun g hg => by
    obtain ⟨m, hs⟩ := List.mem_filter.mp hg
    obtain ⟨x, e⟩ := Option.isSome_iff_exists.mp hs
    refine List.mem_filter.mpr ⟨m, ?_⟩
    cases o : ν g with
    | some z => rfl
    | none =>
      exfalso
      obtain ⟨a1, a2, a3⟩ := b.b1 _ _ e
      refine S.st x a1 g a2 a3 ?_ (by rw [o]; rfl)
      cases e2 : μ x with
      | none => rfl
      | some y =>
        obtain ⟨g2, h2, l2⟩ := b.b4 μ ν S x y e2
        have := b.b2 _ _ _ h2 e
        subst this
        refine decide_eq_true (Nat.lt_of_le_of_ne l2 fun q => ?_)
        have := idx_inj a2 q
        subst this
        rw [(S.m2 _ _).mp e2] at o
        cases o
  have l1 := has_eq ok S
  have l2 := has_eq ok Sα
  have l3 := nodup_le (List.Pairwise.filter _ ok.gd) dn
  have back := nodup_eq (List.Pairwise.filter _ ok.nd) (List.Pairwise.filter _ ok.nd) up (show (has w.ns α).length ≤ (has w.ns μ).length by
    have : (has w.gs h).length ≤ (has w.gs ν).length := l3
    omega)
  intro x
  rw [Bool.eq_iff_iff]
  constructor
  · intro hs
    obtain ⟨y, e⟩ := Option.isSome_iff_exists.mp hs
    exact (List.mem_filter.mp (up x (List.mem_filter.mpr ⟨(S.m1 _ _ e).1, hs⟩))).2
  · intro hs
    obtain ⟨y, e⟩ := Option.isSome_iff_exists.mp hs
    exact (List.mem_filter.mp (back x (List.mem_filter.mpr ⟨(Sα.m1 _ _ e).1, hs⟩))).2
/-- what the other side comes to by asking is the worst for this side -/
theorem worst {h2 : Fn} {μ ν : Fn} (ok : w.Ok) (b : Best w.swap h2) (S : Stable w μ ν) {x y z : Str} (e : μ x = some y) (ez : h2 x = some z) : (w.P x).idxOf y ≤ (w.P x).idxOf z := by
  rcases Nat.lt_or_ge ((w.P x).idxOf z) ((w.P x).idxOf y) with l | l
  · exfalso
    obtain ⟨a1, a2, a3⟩ := b.b1 _ _ ez
    obtain ⟨c1, c2, c3⟩ := S.m1 _ _ e
    refine S.st x c1 z a3 a2 (by rw [e]; exact decide_eq_true l) ?_
    cases o : ν z with
    | none => rfl
    | some x' =>
      obtain ⟨n, hn, ln⟩ := b.b4 ν μ (S.swap ok) z x' o
      have := b.b2 _ _ _ hn ez
      subst this
      refine decide_eq_true (Nat.lt_of_le_of_ne ln fun q => ?_)
      have := idx_inj (r := w.Q z) a2 q
      subst this
      rw [(S.m2 _ _).mpr o] at e
      cases e
      omega
  · exact l
end K39

set_option maxHeartbeats 2000000
namespace K39
open PySem PX
/-! ### matches as dicts, rows -/
abbrev Mt := List (Str × Str)
def mE (m : Mt) : List (PyData × PyData) := m.map fun p => (.str p.1, .str p.2)
def mD (m : Mt) : PyData := .dict (mE m)
def ks (m : Mt) : List Str := m.map (·.1)
def lk (m : Mt) (x : Str) : Option Str := (m.find? fun p => decide (p.1 = x)).map (·.2)
def sw (m : Mt) : Mt := m.map fun p => (p.2, p.1)
def optD : Option Str → PyData
  | none => .none
  | some y => .str y
def RS (xs : List Str) : PyData := RW (xs.map PyData.str)
def PD (ns : List Str) (P : Str → List Str) : PyData := dS ns fun x => RS (P x)
def prD (p : Str × Str) : PyData := .tuple [.str p.1, .str p.2]
theorem lk_mem {m : Mt} {x y : Str} (h : lk m x = some y) : (x, y) ∈ m := by
  unfold lk at h
  rw [Option.map_eq_some_iff] at h
  obtain ⟨p, h1, h2⟩ := h
  have hd := List.find?_some (p := fun q : Str × Str => decide (q.1 = x)) h1
  have := of_decide_eq_true hd
  have h3 := List.mem_of_find?_eq_some h1
  obtain ⟨a, b⟩ := p
  cases h2
  cases this
  exact h3
theorem lk_cons (p : Str × Str) (m : Mt) (x : Str) : lk (p :: m) x = if p.1 = x then some p.2 else lk m x := by
  unfold lk
  by_cases h : p.1 = x
  · rw [List.find?_cons_of_pos (by simpa using h), if_pos h]; rfl
  · rw [List.find?_cons_of_neg (by simpa using h), if_neg h]
theorem lk_of {m : Mt} (nd : (ks m).Nodup) {x y : Str} (h : (x, y) ∈ m) : lk m x = some y := by
  induction m with
  | nil => cases h
  | cons p m ih =>
    have nd' := List.nodup_cons.mp (show (p.1 :: ks m).Nodup from nd)
    rw [lk_cons]
    rcases List.mem_cons.mp h with rfl | h
    · rw [if_pos rfl]
    · rw [if_neg (show ¬ p.1 = x from fun e => nd'.1 (e ▸ List.mem_map.mpr ⟨_, h, rfl⟩))]
      exact ih nd'.2 h
theorem lk_iff {m : Mt} (nd : (ks m).Nodup) {x y : Str} : lk m x = some y ↔ (x, y) ∈ m := ⟨lk_mem, lk_of nd⟩
theorem lk_some {m : Mt} {x : Str} : (lk m x).isSome = decide (x ∈ ks m) := by
  induction m with
  | nil => rfl
  | cons p m ih =>
    rw [lk_cons]
    by_cases h : p.1 = x
    · rw [if_pos h]
      subst h
      simp [ks]
    · rw [if_neg h, ih]
      refine decide_eq_decide.mpr ?_
      show x ∈ ks m ↔ x ∈ p.1 :: ks m
      rw [List.mem_cons]
      exact ⟨.inr, fun q => q.resolve_left fun e => h e.symm⟩
theorem lk_none {m : Mt} {x : Str} : lk m x = none ↔ x ∉ ks m := by
  have := lk_some (m := m) (x := x)
  cases h : lk m x with
  | none =>
    rw [h] at this
    exact ⟨fun _ => of_decide_eq_false this.symm, fun _ => rfl⟩
  | some y =>
    rw [h] at this
    exact ⟨fun e => (nomatch e), fun e => absurd (of_decide_eq_true this.symm) e⟩
theorem ks_sw (m : Mt) : ks (sw m) = m.map (·.2) := by
  unfold ks sw
  rw [List.map_map]
  rfl
theorem isT_m (m : Mt) : isT (mE m) = false := by cases m <;> rfl
theorem ents_m (m : Mt) : ents (mE m) = mE m := by
  unfold ents
  rw [isT_m]
  rfl
theorem keyFit_m (m : Mt) (x : Str) : keyFit (mE m) (.str x) = true := by
  unfold keyFit
  rw [isT_m]
  rfl
theorem dget_m (m : Mt) (x : Str) : dget (mE m) (.str x) = (lk m x).map PyData.str := by
  induction m with
  | nil => rfl
  | cons p m ih =>
    rw [lk_cons]
    unfold dget mE at ih ⊢
    rw [List.map_cons]
    by_cases h : p.1 = x
    · subst h
      rw [List.find?_cons_of_pos (by rw [eqv_str]; simp), if_pos rfl]
      rfl
    · rw [List.find?_cons_of_neg (by rw [eqv_str]; simpa using h), if_neg h]
      exact ih
theorem getM (m : Mt) (x : Str) (k k' : Kd) : oGet1 [(mD m, k), (.str x, k')] = some (optD (lk m x), .im) := by
  show (if keyFit _ _ then some ((dget (ents (mE m)) _).getD .none, Kd.im) else none) = _
  rw [if_pos (keyFit_m m x), ents_m, dget_m]
  cases lk m x <;> rfl
theorem ixM {m : Mt} {x y : Str} (h : lk m x = some y) (k k' : Kd) : oIx [(mD m, k), (.str x, k')] = some (.str y, .im) := by
  show (if keyFit _ _ then (dget (ents _) _).map fun d => (d, Kd.im) else none) = _
  rw [if_pos (keyFit_m m x), ents_m, dget_m, h]
  rfl
theorem inM (m : Mt) (x : Str) (k k' : Kd) : oIn [(.str x, k), (mD m, k')] = some (.bool (decide (x ∈ ks m)), .im) := by
  show (if keyFit _ _ then some (PyData.bool (dget (ents _) _).isSome, Kd.im) else none) = _
  rw [if_pos (keyFit_m m x), ents_m, dget_m, Option.isSome_map, lk_some]
theorem niM (m : Mt) (x : Str) (k k' : Kd) : oNotIn [(.str x, k), (mD m, k')] = some (.bool (!decide (x ∈ ks m)), .im) := by
  show (if keyFit _ _ then some (PyData.bool (!(dget (ents _) _).isSome), Kd.im) else none) = _
  rw [if_pos (keyFit_m m x), ents_m, dget_m, Option.isSome_map, lk_some]
theorem keysD_m (m : Mt) : keysD (mE m) = (ks m).map PyData.str := by
  unfold keysD mE ks
  rw [List.map_map, List.map_map]
  rfl
theorem listM (m : Mt) (k : Kd) : oList [(mD m, k)] = some (.list ((ks m).map PyData.str), .fr) := by
  show (if isT _ then none else some (PyData.list (keysD (mE m)), Kd.fr)) = _
  rw [isT_m, if_neg Bool.false_ne_true, keysD_m]
theorem lenMt (m : Mt) (k : Kd) : oLen [(mD m, k)] = some (.int m.length, .im) := by
  show (if isT _ then none else some (PyData.int (mE m).length, Kd.im)) = _
  rw [isT_m, if_neg Bool.false_ne_true]
  unfold mE
  rw [List.length_map]
theorem sortedM (m : Mt) (k : Kd) : oSorted [(mD m, k)] = some (.list ((sortS (ks m)).map PyData.str), .fr) := by
  show (if isT _ then none else if sortB (keysD (mE m)) then some (PyData.list (sortD (keysD (mE m))), Kd.fr) else none) = _
  rw [isT_m, if_neg Bool.false_ne_true, keysD_m, if_pos (sortB_S _), sortD_S]
theorem dictM (m : Mt) (k : Kd) : oDict [(mD m, k)] = some (mD m, .fr) := by
  show (if isT (mE m) then none else some (PyData.dict (mE m), Kd.fr)) = _
  rw [isT_m, if_neg Bool.false_ne_true]
  rfl
theorem putM {m : Mt} {x : Str} (y : Str) (h : x ∉ ks m) : dputE (mE m) (.str x) (.str y) = mE (m ++ [(x, y)]) := by
  unfold dputE
  rw [isT_m]
  show dput (mE m) (.str x) (.str y) = _
  unfold dput
  have : ((mE m).any fun e => PyData.eqv e.1 (.str x)) = false := by
    unfold mE
    rw [List.any_map, List.any_eq_false]
    intro p hp
    show ¬ PyData.eqv (.str p.1) (.str x) = true
    rw [eqv_str, decide_eq_true_eq]
    intro e
    exact h (e ▸ List.mem_map.mpr ⟨p, hp, rfl⟩)
  rw [this, if_neg Bool.false_ne_true]
  unfold mE
  rw [List.map_append]
  rfl
theorem mergeM : ∀ (xs done : Mt), (ks (done ++ xs)).Nodup → mergeE (mE done) (xs.map fun p => ((Sum.inr p.1 : L2.Key), PyData.str p.2)) = mE (done ++ xs)
  | [], done, _ => by rw [List.append_nil]; rfl
  | p :: r, done, h => by
    have hx : p.1 ∉ ks done := fun hd => by
      unfold ks at h
      rw [List.map_append, List.nodup_append] at h
      exact h.2.2 p.1 hd p.1 (by simp) rfl
    show mergeE (dput (mE done) (.str p.1) (.str p.2)) (r.map fun p => ((Sum.inr p.1 : L2.Key), PyData.str p.2)) = _
    have e : dput (mE done) (.str p.1) (.str p.2) = mE (done ++ [p]) := by
      have := putM (m := done) p.2 hx
      unfold dputE at this
      rw [isT_m] at this
      exact this
    rw [e, mergeM r (done ++ [p]) (by rw [List.append_assoc]; exact h), List.append_assoc]
    rfl
theorem dictP {m : Mt} (nd : (ks m).Nodup) (k : Kd) : oDict [(.list (m.map prD), k)] = some (mD m, .fr) := by
  have e : pairsK (m.map prD) = some (m.map fun p => ((Sum.inr p.1 : L2.Key), PyData.str p.2)) := by
    clear nd
    induction m with
    | nil => rfl
    | cons x r ih =>
      show pairsK (PyData.tuple [.str x.1, .str x.2] :: r.map prD) = _
      rw [pairsK, ih]
      rfl
  show (pairsK _).map _ = _
  rw [e]
  show some (PyData.dict (mergeE [] (m.map fun p => ((Sum.inr p.1 : L2.Key), PyData.str p.2))), Kd.fr) = _
  have := mergeM m [] (by simpa using nd)
  rw [List.nil_append] at this
  rw [show ([] : List (PyData × PyData)) = mE [] from rfl, this]
  rfl
section
variable {env : SEnv} {W W1 : List Int} {i : Nat}
theorem fwKeyM {m : Mt} (h : env[i]? = some (.pl (mD m))) (hl : m.length ≤ 16777216) : iKey i env W = some ((ks m).map PyData.str, .im, W) := by
  unfold iKey
  rw [h]
  show (if _ then _ else _) = _
  rw [if_pos ⟨isT_m m, by unfold mE; rw [List.length_map]; exact hl⟩, keysD_m]
/-! rows -/
theorem rowRS (xs : List Str) : rowOf (RS xs) = some (xs.map PyData.str) := rowOf_RW _
theorem inRS (x : Str) (xs : List Str) (k k' : Kd) : oInR [(.str x, k), (RS xs, k')] = some (.bool (decide (x ∈ xs)), .im) := by
  unfold oInR
  dsimp only
  rw [rowRS]
  have h1 := flat_D (α := Str) (by decide) x
  have h2 := flats_D (α := Str) (by decide) xs
  have h3 := any_D (α := Str) xs x
  show (if flat (.str x) && (xs.map PyData.str).all flat then some (PyData.bool ((xs.map PyData.str).any fun z => PyData.eqv z (.str x)), Kd.im) else none) = _
  rw [show flat (.str x) = true from h1, show (xs.map PyData.str).all flat = true from h2, show ((xs.map PyData.str).any fun z => PyData.eqv z (.str x)) = decide (x ∈ xs) from h3]
  rfl
theorem lenRS (xs : List Str) (k : Kd) : oLenR [(RS xs, k)] = some (.int xs.length, .im) := by
  unfold oLenR
  dsimp only
  rw [rowRS]
  show some (PyData.int ((xs.map PyData.str).length : Nat), Kd.im) = _
  rw [List.length_map]
theorem sortRS (xs : List Str) (k : Kd) : oSortedR [(RS xs, k)] = some (.list ((sortS xs).map PyData.str), .fr) := by
  unfold oSortedR
  dsimp only
  rw [rowRS]
  dsimp only
  rw [if_pos (sortB_S xs), sortD_S]
theorem ixRS {xs : List Str} {n : Nat} {x : Str} (h : xs[n]? = some x) (k k' : Kd) : oIxR [(RS xs, k), (.int (n : Nat), k')] = some (.str x, .im) := by
  show ((rowOf (RS xs)).bind fun ds => (L2.atI ds (n : Int)).map fun d => (d, Kd.im)) = _
  rw [rowRS, Option.bind_some, L2.atI_nat (j := n) (v := PyData.str x) (by rw [List.getElem?_map, h]; rfl)]
  rfl
theorem strsOf_map (xs : List Str) : strsOf (xs.map PyData.str) = some xs := by
  induction xs with
  | nil => rfl
  | cons x r ih => rw [List.map_cons, strsOf, ih]; rfl
theorem idxRS {xs : List Str} {y : Str} (h : y ∈ xs) (k k' : Kd) : oIndexR [(RS xs, k), (.str y, k')] = some (.int (xs.idxOf y : Nat), .im) := by
  show (((rowOf (RS xs)).bind strsOf).bind fun xs => if y ∈ xs then some (PyData.int (xs.idxOf y : Nat), Kd.im) else none) = _
  rw [rowRS, Option.bind_some, strsOf_map, Option.bind_some, if_pos h]
theorem seqRS {f : Ex} {xs : List Str} (e : f env W = some (RS xs, .im, W1)) : iSeqR f env W = some (xs.map PyData.str, .im, W1) := by
  unfold iSeqR
  rw [e]
  show (rowOf (RS xs)).map _ = _
  rw [rowRS]
  rfl
theorem ixPD {ns : List Str} (P : Str → List Str) {x : Str} (h : x ∈ ns) (k k' : Kd) : oIx [(PD ns P, k), (.str x, k')] = some (RS (P x), .im) := ixD _ h _ _
theorem inPD (ns : List Str) (P : Str → List Str) (x : Str) (k k' : Kd) : oIn [(.str x, k), (PD ns P, k')] = some (.bool (decide (x ∈ ns)), .im) := inD ns _ x k k'
theorem sortPD (ns : List Str) (P : Str → List Str) (k : Kd) : oSorted [(PD ns P, k)] = some (.list ((sortS ns).map PyData.str), .fr) := sortedD ns _ k
end
/-! ### the small defs -/
variable {w : Wd}
def pairB (w : Wd) (x y : Str) : Bool := decide (y ∈ w.P x) && decide (x ∈ w.Q y)
abbrev pD (w : Wd) : PyData := PD w.ns w.P
abbrev qD (w : Wd) : PyData := PD w.gs w.Q
theorem pair_ok (ok : w.Ok) {x : Str} (hx : x ∈ w.ns) (y : Str) : f_is_pair [pD w, qD w, .str x, .str y] = some (.bool (pairB w x y)) := by
  show PX.runF 4 4 g_is_pair _ = _
  refine runF_of rfl ?_
  show Runs g_is_pair [.pl (pD w), .pl (qD w), .pl (.str x), .pl (.str y)] [] _
  unfold g_is_pair
  have e : pairB w x y = (decide (y ∈ w.P x) && (decide (y ∈ w.gs) && decide (x ∈ w.Q y))) := by
    unfold pairB
    by_cases h : y ∈ w.P x
    · rw [decide_eq_true ((ok.p x hx).2 y h), Bool.true_and]
    · rw [decide_eq_false h]; rfl
  rw [e]
  refine ru_ret (k := .im) (W1 := []) (fwCAnd (fw2 rfl (fw2 rfl rfl (ixPD _ hx _ _)) (inRS _ _ _ _)) fun _ => fwCAnd (fw2 rfl rfl (inPD _ _ _ _ _)) fun hy => ?_) rfl ⟨_, rfl⟩
  exact fw2 rfl (fw2 rfl rfl (ixPD _ (of_decide_eq_true hy) _ _)) (inRS _ _ _ _)
theorem rather_ok {r : List Str} {a : Str} {o : Option Str} (h : ∀ b, o = some b → a ∈ r ∧ b ∈ r) : f_would_rather [RS r, .str a, optD o] = some (.bool (ltB r a o)) := by
  show PX.runF 3 3 g_would_rather _ = _
  refine runF_of rfl ?_
  show Runs g_would_rather [.pl (RS r), .pl (.str a), .pl (optD o)] [] _
  unfold g_would_rather
  cases o with
  | none => exact ru_ret (k := .im) (W1 := []) (fwCOr (b := true) (c := true) (k1 := .im) rfl fun z => absurd z (by decide)) rfl ⟨_, rfl⟩
  | some b =>
    obtain ⟨ha, hb⟩ := h b rfl
    have e : ltB r a (some b) = (false || decide ((r.idxOf a : Int) < (r.idxOf b : Nat))) := by
      rw [Bool.false_or]
      exact decide_eq_decide.mpr ⟨fun h => by omega, fun h => by omega⟩
    rw [e]
    exact ru_ret (k := .im) (W1 := []) (fwCOr (b := false) (k1 := .im) rfl fun _ => fw2 (fw2 rfl rfl (idxRS ha _ _)) (fw2 rfl rfl (idxRS hb _ _)) (ltI _ _ _ _)) rfl ⟨_, rfl⟩
def plc (r : List Str) (a : Str) : Nat := if a ∈ r then r.idxOf a else 99
theorem place_ok (r : List Str) (a : Str) : f__law_place [RS r, .str a] = some (.int (plc r a : Nat)) := by
  show PX.runF 2 2 g__law_place _ = _
  refine runF_of rfl ?_
  show Runs g__law_place [.pl (RS r), .pl (.str a)] [] _
  unfold g__law_place plc
  by_cases h : a ∈ r
  · rw [if_pos h]
    exact ru_ret (k := .im) (W1 := []) (fwIfT (fwB (k := .im) ((fw2 rfl rfl (inRS _ _ _ _)).trans (by rw [decide_eq_true h]))) (fw2 rfl rfl (idxRS h _ _))) rfl ⟨_, rfl⟩
  · rw [if_neg h]
    exact ru_ret (k := .im) (W1 := []) (fwIfF (fwB (k := .im) ((fw2 rfl rfl (inRS _ _ _ _)).trans (by rw [decide_eq_false h]))) fwK) rfl ⟨_, rfl⟩
end K39

set_option maxHeartbeats 2000000
namespace K39
open PySem PX
/-! ### pairs that would rather have each other -/
structure MatL (w : Wd) (m : Mt) : Prop where
  nd : (ks m).Nodup
  nv : (ks (sw m)).Nodup
  ok : ∀ p ∈ m, p.1 ∈ w.ns ∧ p.2 ∈ w.P p.1 ∧ p.1 ∈ w.Q p.2
def bB (w : Wd) (m : Mt) (x y : Str) : Bool := pairB w x y && (ltB (w.P x) y (lk m x) && ltB (w.Q y) x (lk (sw m) y))
def blkX (w : Wd) (m : Mt) (x : Str) (ys : List Str) : Mt := (ys.filter (bB w m x)).map fun y => (x, y)
def blkL (w : Wd) (m : Mt) (xs : List Str) : Mt := xs.flatMap fun x => blkX w m x (sortS (w.P x))
def blk (w : Wd) (m : Mt) : Mt := blkL w m (sortS w.ns)
variable {w : Wd} {m : Mt}
theorem neOpt (o : Option Str) (y : Str) (k k' : Kd) : oNe [(optD o, k), (.str y, k')] = some (.bool (!decide (o = some y)), .im) := by
  cases o with
  | none =>
    have f : flat (.str y) = true := flat_D (α := Str) (by decide) y
    unfold oNe
    dsimp only [optD]
    rw [f]
    simp [PyData.eqv]
    rfl
  | some b =>
    refine (neStr b y k k').trans ?_
    have : decide (b = y) = decide (some b = some y) := decide_eq_decide.mpr ⟨fun h => by rw [h], fun h => Option.some.inj h⟩
    rw [this]
theorem row_le (ok : w.Ok) {x : Str} (hx : x ∈ w.ns) : (w.P x).length ≤ 3 := Nat.le_trans (nodup_le (ok.p x hx).1 (ok.p x hx).2) ok.l2
theorem own_dict (m : Mt) (nv : (ks (sw m)).Nodup) (k : Kd) : oDict [(.list ((sw m).map prD), k)] = some (mD (sw m), .fr) := dictP nv k
theorem mat_lk (M : MatL w m) {x y : Str} (h : lk m x = some y) : x ∈ w.ns ∧ y ∈ w.P x ∧ x ∈ w.Q y := M.ok _ (lk_mem h)
theorem mat_sw (M : MatL w m) {x y : Str} (h : lk (sw m) y = some x) : x ∈ w.ns ∧ y ∈ w.P x ∧ x ∈ w.Q y := by
  obtain ⟨p, hp, e⟩ := List.mem_map.mp (lk_mem h)
  cases e
  exact M.ok _ hp
theorem owner_lc {env : SEnv} (M : MatL w m) (hm : ∀ x, cVar 2 (env.set 5 (.pl (.str x))) [] = some (mD m, .im, [])) (h5 : ∀ x, cVar 5 (env.set 5 (.pl (.str x))) [] = some (.str x, .im, [])) :
    lcL (gN 5) kTrue (cCall oTup [cCall oIx [cVar 2, cVar 5], cVar 5]) ((ks m).map PyData.str) env [] = some ((sw m).map prD, []) := by
  have e : (sw m).map prD = m.map fun p => prD (p.2, p.1) := by
    unfold sw
    rw [List.map_map]
    rfl
  have e2 : (ks m).map PyData.str = m.map fun p => PyData.str p.1 := by
    unfold ks
    rw [List.map_map]
    rfl
  rw [e, e2]
  exact lcL_map (fun p : Str × Str => PyData.str p.1) (fun p => prD (p.2, p.1)) m fun p hp => ⟨_, .im, rfl, fwTup2 (fw2 (hm _) (h5 _) (ixM (lk_of M.nd hp) _ _)) rfl (h5 _) rfl, rfl⟩
theorem mat_len (ok : w.Ok) (M : MatL w m) : m.length ≤ 3 := by
  have := nodup_le M.nd (fun x hx => by
    obtain ⟨p, hp, rfl⟩ := List.mem_map.mp hx
    exact (M.ok p hp).1)
  unfold ks at this
  rw [List.length_map] at this
  exact Nat.le_trans this ok.l1
theorem blkX_len (x : Str) (ys : List Str) : (blkX w m x ys).length ≤ ys.length := by
  unfold blkX
  rw [List.length_map]
  exact List.length_filter_le _ _
theorem blkX_snoc (x : Str) (ys : List Str) (y : Str) : blkX w m x (ys ++ [y]) = blkX w m x ys ++ (if bB w m x y = true then [(x, y)] else []) := by
  unfold blkX
  rw [List.filter_append, List.map_append]
  congr 1
  by_cases h : bB w m x y = true
  · rw [List.filter_cons_of_pos h, if_pos h]; rfl
  · rw [List.filter_cons_of_neg h, if_neg h]; rfl
theorem blkL_snoc (xs : List Str) (x : Str) : blkL w m (xs ++ [x]) = blkL w m xs ++ blkX w m x (sortS (w.P x)) := by
  unfold blkL
  rw [List.flatMap_append, List.flatMap_cons, List.flatMap_nil, List.append_nil]
abbrev bIn : Sx := sSeq (sIf (kAnd (bOf (cFn f_is_pair [cVar 0, cVar 1, cVar 5, cVar 6])) (bOf (cCall oNe [cCall oGet1 [cVar 2, cVar 5], cVar 6]))) (sSeq (sSet 7 false (cFn f_would_rather [cCall oIx [cVar 0, cVar 5], cVar 6, cCall oGet1 [cVar 2, cVar 5]])) (sSeq (sIf (kAnd (bOf (cVar 7)) (bOf (cFn f_would_rather [cCall oIx [cVar 1, cVar 6], cVar 5, cCall oGet1 [cVar 3, cVar 6]]))) (sSeq (sApp 4 (cCall oTup [cVar 5, cVar 6])) (sNil)) (sNil)) (sNil))) (sNil)) (sNil)
theorem bIn_ok (ok : w.Ok) (M : MatL w m) {x y : Str} (hx : x ∈ w.ns) (hy : y ∈ w.P x) (acc : Mt) (ha : acc.length ≤ 100) (s7 : Sl) : ∃ s7', bIn [.pl (pD w), .pl (qD w), .pl (mD m), .pl (mD (sw m)), .ow (.list (acc.map prD)), .pl (.str x), .pl (.str y), s7] [] = some (.nx [.pl (pD w), .pl (qD w), .pl (mD m), .pl (mD (sw m)), .ow (.list ((acc ++ (if bB w m x y = true then [(x, y)] else [])).map prD)), .pl (.str x), .pl (.str y), s7'] []) := by
  have t1 : bOf (cFn f_is_pair [cVar 0, cVar 1, cVar 5, cVar 6]) [.pl (pD w), .pl (qD w), .pl (mD m), .pl (mD (sw m)), .ow (.list (acc.map prD)), .pl (.str x), .pl (.str y), s7] [] = some (pairB w x y, []) :=
    fwB (k := .im) (by simp [cFn, cArgs, cVar, esc, pair_ok ok hx y])
  have t2 : bOf (cCall oNe [cCall oGet1 [cVar 2, cVar 5], cVar 6]) [.pl (pD w), .pl (qD w), .pl (mD m), .pl (mD (sw m)), .ow (.list (acc.map prD)), .pl (.str x), .pl (.str y), s7] [] = some (!decide (lk m x = some y), []) :=
    fwB (k := .im) (fw2 (fw2 rfl rfl (getM _ _ _ _)) rfl (neOpt _ _ _ _))
  have t := fwAnd t1 fun _ => t2
  by_cases hp : pairB w x y = true
  · by_cases hm : lk m x = some y
    · refine ⟨s7, ?_⟩
      have hb : bB w m x y = false := by
        unfold bB
        rw [hp, hm]
        simp [ltB]
      rw [hb, if_neg Bool.false_ne_true, List.append_nil]
      rw [hp, decide_eq_true hm] at t
      exact end_of (ru_pass t (ru_nil rfl))
    · rw [hp, decide_eq_false hm] at t
      have hxq : x ∈ w.Q y := by
        unfold pairB at hp
        rw [Bool.and_eq_true] at hp
        exact of_decide_eq_true hp.2
      have hyg : y ∈ w.gs := (ok.p x hx).2 y hy
      have r1 := rather_ok (r := w.P x) (a := y) (o := lk m x) fun b e => ⟨hy, (mat_lk M e).2.1⟩
      have r2 := rather_ok (r := w.Q y) (a := x) (o := lk (sw m) y) fun b e => ⟨hxq, (mat_sw M e).2.2⟩
      refine ⟨.pl (.bool (ltB (w.P x) y (lk m x))), end_of (ru_ifT t (ru_assoc (ru_set (fwF3 (fw2 rfl rfl (ixPD _ hx _ _)) rfl rfl rfl (fw2 rfl rfl (getM _ _ _ _)) rfl r1) rfl ?_)))⟩
      have u1 : bOf (cVar 7) [.pl (pD w), .pl (qD w), .pl (mD m), .pl (mD (sw m)), .ow (.list (acc.map prD)), .pl (.str x), .pl (.str y), .pl (.bool (ltB (w.P x) y (lk m x)))] [] = some (ltB (w.P x) y (lk m x), []) := fwB (k := .im) rfl
      have u2 : bOf (cFn f_would_rather [cCall oIx [cVar 1, cVar 6], cVar 5, cCall oGet1 [cVar 3, cVar 6]]) [.pl (pD w), .pl (qD w), .pl (mD m), .pl (mD (sw m)), .ow (.list (acc.map prD)), .pl (.str x), .pl (.str y), .pl (.bool (ltB (w.P x) y (lk m x)))] [] = some (ltB (w.Q y) x (lk (sw m) y), []) :=
        fwB (k := .im) (fwF3 (fw2 rfl rfl (ixPD _ hyg _ _)) rfl rfl rfl (fw2 rfl rfl (getM _ _ _ _)) rfl r2)
      have u := fwAnd u1 fun _ => u2
      have hb : bB w m x y = (ltB (w.P x) y (lk m x) && ltB (w.Q y) x (lk (sw m) y)) := by
        unfold bB
        rw [hp, Bool.true_and]
      rw [hb]
      by_cases hq : (ltB (w.P x) y (lk m x) && ltB (w.Q y) x (lk (sw m) y)) = true
      · rw [hq] at u
        rw [if_pos hq]
        refine ru_assoc (ru_ifT u (ru_assoc (ru_app rfl (fwTup2 rfl rfl rfl rfl) rfl (by rw [List.length_map]; omega) ?_)))
        refine ru_nilS (ru_nilS (ru_nil ?_))
        show Ou.nx _ _ = _
        rw [List.map_append]
        rfl
      · rw [Bool.not_eq_true] at hq
        rw [hq] at u
        rw [hq, if_neg Bool.false_ne_true, List.append_nil]
        exact ru_assoc (ru_pass u (ru_nilS (ru_nil rfl)))
  · rw [Bool.not_eq_true] at hp
    refine ⟨s7, ?_⟩
    have hb : bB w m x y = false := by
      unfold bB
      rw [hp, Bool.false_and]
    rw [hb, if_neg Bool.false_ne_true, List.append_nil]
    rw [hp] at t
    exact end_of (ru_pass t (ru_nil rfl))
theorem blocks_ok (ok : w.Ok) (M : MatL w m) : f_blocks [pD w, qD w, mD m] = some (.tuple ((blk w m).map prD)) := by
  have hml := mat_len ok M
  show PX.runF 8 3 g_blocks _ = _
  refine runF_of rfl ?_
  show Runs g_blocks [.pl (pD w), .pl (qD w), .pl (mD m), .no, .no, .no, .no, .no] [] _
  unfold g_blocks
  refine ru_set (fw1 (fwLc rfl (fwKeyM rfl (by omega)) rfl (owner_lc M (fun _ => rfl) fun _ => rfl)) (own_dict m M.nv _)) rfl ?_
  refine ru_set fwLst0 rfl ?_
  obtain ⟨e', h1, ⟨s5, s6, s7, e2⟩, _⟩ := forL_all (t := gN 5) (g := sSeq (sFor (iSeq (cCall oSortedR [cCall oIx [cVar 0, cVar 5]])) (gN 6) bIn) (sWipe [6, 7] (sNil))) (W := []) PyData.str (sortS w.ns)
    (fun done env => (∃ s5 s6 s7 : Sl, env = [.pl (pD w), .pl (qD w), .pl (mD m), .pl (mD (sw m)), .ow (.list ((blkL w m done).map prD)), s5, s6, s7]) ∧ (blkL w m done).length ≤ 3 * done.length) (sortS w.ns) []
    [.pl (pD w), .pl (qD w), .pl (mD m), .pl (mD (sw m)), .ow (.list []), .no, .no, .no] rfl ⟨⟨_, _, _, rfl⟩, Nat.zero_le _⟩ (fun done x rest env hx hR => by
      obtain ⟨⟨s5, s6, s7, rfl⟩, hl⟩ := hR
      have hxn : x ∈ w.ns := sortS_mem.mp (by rw [hx]; simp)
      have hdl : done.length ≤ 3 := by
        have := congrArg List.length hx
        rw [sortS_len, List.length_append] at this
        have := ok.l1
        omega
      have hpl := row_le ok hxn
      obtain ⟨e'', q1, ⟨t6, t7, q2⟩⟩ := forL_all (t := gN 6) (g := bIn) (W := []) PyData.str (sortS (w.P x))
        (fun dn env => ∃ t6 t7 : Sl, env = [.pl (pD w), .pl (qD w), .pl (mD m), .pl (mD (sw m)), .ow (.list ((blkL w m done ++ blkX w m x dn).map prD)), .pl (.str x), t6, t7]) (sortS (w.P x)) []
        [.pl (pD w), .pl (qD w), .pl (mD m), .pl (mD (sw m)), .ow (.list ((blkL w m done).map prD)), .pl (.str x), s6, s7] rfl ⟨_, _, by rw [show blkX w m x [] = [] from rfl, List.append_nil]⟩ (fun dn y rs env hy hR => by
          obtain ⟨t6, t7, rfl⟩ := hR
          have hyP : y ∈ w.P x := sortS_mem.mp (by rw [hy]; simp)
          have hdn : dn.length ≤ 3 := by
            have := congrArg List.length hy
            rw [sortS_len, List.length_append] at this
            omega
          have hb := blkX_len (w := w) (m := m) x dn
          obtain ⟨s7', q⟩ := bIn_ok ok M hxn hyP (blkL w m done ++ blkX w m x dn) (by rw [List.length_append]; omega) t7
          refine ⟨_, _, rfl, q, .pl (.str y), s7', ?_⟩
          rw [blkX_snoc, List.append_assoc])
      subst q2
      refine ⟨_, _, rfl, end_of (ru_seq ((fwFor (fwSeqF (fw1 (fw2 rfl rfl (ixPD _ hxn _ _)) (sortRS _ _))) rfl).trans q1) (ru_wipe (ru_nil rfl))), ⟨.pl (.str x), .no, .no, ?_⟩, ?_⟩
      · rw [blkL_snoc]
        rfl
      · rw [blkL_snoc, List.length_append, List.length_append]
        have := blkX_len (w := w) (m := m) x (sortS (w.P x))
        rw [sortS_len] at this
        simp only [List.length_cons, List.length_nil]
        omega)
  subst e2
  refine ru_seq ((fwFor (fwSeqF (fw1 rfl (sortPD _ _ _))) rfl).trans h1) (ru_wipe ?_)
  exact ru_ret (k := .im) (W1 := []) (fw1 rfl rfl) rfl ⟨_, rfl⟩
theorem steady_ok (ok : w.Ok) (M : MatL w m) : f_is_steady [pD w, qD w, mD m] = some (.bool (blk w m).isEmpty) := by
  show PX.runF 3 3 g_is_steady _ = _
  refine runF_of rfl ?_
  show Runs g_is_steady [.pl (pD w), .pl (qD w), .pl (mD m)] [] _
  unfold g_is_steady
  have e : oEq [(.tuple ((blk w m).map prD), .im), (.tuple [], .im)] = some (.bool (blk w m).isEmpty, .im) := by
    have hh := ev_eq (α := PySem.W.Tup (Str × Str)) (by decide) ⟨blk w m⟩ ⟨[]⟩ .im .im
    have e1 : (D (PySem.W.Tup.mk (blk w m)) : PyData) = .tuple ((blk w m).map prD) := rfl
    have e2 : decide (PySem.W.Tup.mk (blk w m) = PySem.W.Tup.mk []) = (blk w m).isEmpty := by
      cases blk w m with
      | nil => exact decide_eq_true rfl
      | cons a r => exact decide_eq_false fun h => by cases PySem.W.Tup.mk.inj h
    rw [e2] at hh
    exact hh
  exact ru_ret (k := .im) (W1 := []) (fw2 (fwF3 rfl rfl rfl rfl rfl rfl (blocks_ok ok M)) fwTup0 e) rfl ⟨_, rfl⟩
end K39

set_option maxHeartbeats 2000000
namespace K39
open PySem PX
/-! ### the law's own pairs -/
variable {w : Wd} {m : Mt}
def mineN (r : List Str) : Option Str → Nat
  | none => 99
  | some b => plc r b
theorem plc_lt {r : List Str} {a : Str} (ha : a ∈ r) (hl : r.length ≤ 3) (o : Option Str) (ho : ∀ b, o = some b → b ∈ r) : decide (plc r a < mineN r o) = ltB r a o := by
  have e : plc r a = r.idxOf a := if_pos ha
  have := List.idxOf_lt_length_of_mem ha
  cases o with
  | none => exact decide_eq_true (by show plc r a < 99; omega)
  | some b =>
    have e2 : plc r b = r.idxOf b := if_pos (ho b rfl)
    show decide (plc r a < plc r b) = decide _
    rw [e, e2]
theorem law_bB (ok : w.Ok) (M : MatL w m) {x y : Str} (hx : x ∈ w.ns) (hy : y ∈ w.P x) : (decide (plc (w.P x) y < mineN (w.P x) (lk m x)) && decide (plc (w.Q y) x < mineN (w.Q y) (lk (sw m) y))) = bB w m x y := by
  have hyg := (ok.p x hx).2 y hy
  have hql : (w.Q y).length ≤ 3 := Nat.le_trans (nodup_le (ok.q y hyg).1 (ok.q y hyg).2) ok.l1
  rw [plc_lt hy (row_le ok hx) (lk m x) fun b e => (mat_lk (x := x) M e).2.1]
  unfold bB pairB
  rw [decide_eq_true hy, Bool.true_and]
  by_cases hq : x ∈ w.Q y
  · rw [plc_lt hq hql (lk (sw m) y) fun b e => (mat_sw (y := y) M e).2.2, decide_eq_true hq, Bool.true_and]
  · have : decide (plc (w.Q y) x < mineN (w.Q y) (lk (sw m) y)) = false := by
      refine decide_eq_false ?_
      have e : plc (w.Q y) x = 99 := if_neg hq
      rw [e]
      cases h : lk (sw m) y with
      | none => exact Nat.lt_irrefl 99
      | some b =>
        have hb := (mat_sw M h).2.2
        show ¬ 99 < plc (w.Q y) b
        rw [show plc (w.Q y) b = (w.Q y).idxOf b from if_pos hb]
        have := List.idxOf_lt_length_of_mem hb
        omega
    rw [this, decide_eq_false hq, Bool.and_false, Bool.false_and]
abbrev lIn : Sx := sSeq (sSet 7 false (cIf (bOf (cCall oIn [cVar 5, cVar 2])) (cFn f__law_place [cCall oIx [cVar 0, cVar 5], cCall oIx [cVar 2, cVar 5]]) (cK (.int 99)))) (sSeq (sSet 8 false (cIf (bOf (cCall oIn [cVar 6, cVar 3])) (cFn f__law_place [cCall oIx [cVar 1, cVar 6], cCall oIx [cVar 3, cVar 6]]) (cK (.int 99)))) (sSeq (sIf (kAnd (bOf (cCall oLt [cFn f__law_place [cCall oIx [cVar 0, cVar 5], cVar 6], cVar 7])) (bOf (cCall oLt [cFn f__law_place [cCall oIx [cVar 1, cVar 6], cVar 5], cVar 8]))) (sSeq (sApp 4 (cCall oTup [cVar 5, cVar 6])) (sNil)) (sNil)) (sNil)))
theorem place_at {env : SEnv} {i j l : Nat} {ns : List Str} {R : Str → List Str} {x : Str} {m : Mt} (hi : env[i]? = some (.pl (PD ns R))) (hj : env[j]? = some (.pl (mD m))) (hl : env[l]? = some (.pl (.str x))) (hx : x ∈ ns) : cIf (bOf (cCall oIn [cVar l, cVar j])) (cFn f__law_place [cCall oIx [cVar i, cVar l], cCall oIx [cVar j, cVar l]]) (cK (.int 99)) env [] = some (.int (mineN (R x) (lk m x) : Nat), .im, []) := by
  have t : bOf (cCall oIn [cVar l, cVar j]) env [] = some (decide (x ∈ ks m), []) := fwB (fw2 (fwVar hl) (fwVar hj) (inM _ _ _ _))
  cases h : lk m x with
  | none =>
    rw [decide_eq_false (lk_none.mp h)] at t
    exact fwIfF t fwK
  | some b =>
    have hk : x ∈ ks m := by
      have := lk_some (m := m) (x := x)
      rw [h] at this
      exact of_decide_eq_true this.symm
    rw [decide_eq_true hk] at t
    exact fwIfT t (fwF2 (fw2 (fwVar hi) (fwVar hl) (ixPD _ hx _ _)) rfl (fw2 (fwVar hj) (fwVar hl) (ixM h _ _)) rfl (place_ok _ _))
theorem lIn_ok (ok : w.Ok) (M : MatL w m) {x y : Str} (hx : x ∈ w.ns) (hy : y ∈ w.P x) (acc : Mt) (ha : acc.length ≤ 100) (s7 s8 : Sl) : ∃ s7' s8', lIn [.pl (pD w), .pl (qD w), .pl (mD m), .pl (mD (sw m)), .ow (.list (acc.map prD)), .pl (.str x), .pl (.str y), s7, s8] [] = some (.nx [.pl (pD w), .pl (qD w), .pl (mD m), .pl (mD (sw m)), .ow (.list ((acc ++ (if bB w m x y = true then [(x, y)] else [])).map prD)), .pl (.str x), .pl (.str y), s7', s8'] []) := by
  have hyg : y ∈ w.gs := (ok.p x hx).2 y hy
  refine ⟨.pl (.int (mineN (w.P x) (lk m x) : Nat)), .pl (.int (mineN (w.Q y) (lk (sw m) y) : Nat)), end_of ?_⟩
  refine ru_set (place_at (ns := w.ns) (R := w.P) (m := m) rfl rfl rfl hx) rfl ?_
  refine ru_set (place_at (ns := w.gs) (R := w.Q) (m := sw m) rfl rfl rfl hyg) rfl ?_
  show Runs _ [.pl (pD w), .pl (qD w), .pl (mD m), .pl (mD (sw m)), .ow (.list (acc.map prD)), .pl (.str x), .pl (.str y), .pl (.int (mineN (w.P x) (lk m x) : Nat)), .pl (.int (mineN (w.Q y) (lk (sw m) y) : Nat))] [] _
  have c (a b : Nat) : decide ((a : Int) < (b : Int)) = decide (a < b) := decide_eq_decide.mpr ⟨fun h => by omega, fun h => by omega⟩
  have u1 : bOf (cCall oLt [cFn f__law_place [cCall oIx [cVar 0, cVar 5], cVar 6], cVar 7]) [.pl (pD w), .pl (qD w), .pl (mD m), .pl (mD (sw m)), .ow (.list (acc.map prD)), .pl (.str x), .pl (.str y), .pl (.int (mineN (w.P x) (lk m x) : Nat)), .pl (.int (mineN (w.Q y) (lk (sw m) y) : Nat))] [] = some (decide (plc (w.P x) y < mineN (w.P x) (lk m x)), []) :=
    fwB (k := .im) ((fw2 (fwF2 (fw2 rfl rfl (ixPD _ hx _ _)) rfl rfl rfl (place_ok _ _)) rfl (ltI _ _ _ _)).trans (by rw [c]))
  have u2 : bOf (cCall oLt [cFn f__law_place [cCall oIx [cVar 1, cVar 6], cVar 5], cVar 8]) [.pl (pD w), .pl (qD w), .pl (mD m), .pl (mD (sw m)), .ow (.list (acc.map prD)), .pl (.str x), .pl (.str y), .pl (.int (mineN (w.P x) (lk m x) : Nat)), .pl (.int (mineN (w.Q y) (lk (sw m) y) : Nat))] [] = some (decide (plc (w.Q y) x < mineN (w.Q y) (lk (sw m) y)), []) :=
    fwB (k := .im) ((fw2 (fwF2 (fw2 rfl rfl (ixPD _ hyg _ _)) rfl rfl rfl (place_ok _ _)) rfl (ltI _ _ _ _)).trans (by rw [c]))
  have u := fwAnd u1 fun _ => u2
  rw [law_bB ok M hx hy] at u
  cases hb : bB w m x y with
  | true =>
    rw [hb] at u
    rw [if_pos rfl]
    refine ru_ifT u (ru_assoc (ru_app rfl (fwTup2 rfl rfl rfl rfl) rfl (by rw [List.length_map]; omega) ?_))
    refine ru_nilS (ru_nil ?_)
    show Ou.nx _ _ = _
    rw [List.map_append]
    rfl
  | false =>
    rw [hb] at u
    rw [if_neg Bool.false_ne_true, List.append_nil]
    exact ru_pass u (ru_nil rfl)
theorem lblocks_ok (ok : w.Ok) (M : MatL w m) : f__law_blocks [pD w, qD w, mD m] = some (.list ((blk w m).map prD)) := by
  have hml := mat_len ok M
  show PX.runF 9 3 g__law_blocks _ = _
  refine runF_of rfl ?_
  show Runs g__law_blocks [.pl (pD w), .pl (qD w), .pl (mD m), .no, .no, .no, .no, .no, .no] [] _
  unfold g__law_blocks
  refine ru_par (fw1 (fwLc rfl (fwKeyM rfl (by omega)) rfl (owner_lc M (fun _ => rfl) fun _ => rfl)) (own_dict m M.nv _)) rfl fwLst0 rfl ?_
  obtain ⟨e', h1, ⟨s5, s6, s7, s8, e2⟩, _⟩ := forL_all (t := gN 5) (g := sSeq (sFor (iSeq (cCall oSortedR [cCall oIx [cVar 0, cVar 5]])) (gN 6) lIn) (sWipe [6, 7, 8] (sNil))) (W := []) PyData.str (sortS w.ns)
    (fun done env => (∃ s5 s6 s7 s8 : Sl, env = [.pl (pD w), .pl (qD w), .pl (mD m), .pl (mD (sw m)), .ow (.list ((blkL w m done).map prD)), s5, s6, s7, s8]) ∧ (blkL w m done).length ≤ 3 * done.length) (sortS w.ns) []
    [.pl (pD w), .pl (qD w), .pl (mD m), .pl (mD (sw m)), .ow (.list []), .no, .no, .no, .no] rfl ⟨⟨_, _, _, _, rfl⟩, Nat.zero_le _⟩ (fun done x rest env hx hR => by
      obtain ⟨⟨s5, s6, s7, s8, rfl⟩, hl⟩ := hR
      have hxn : x ∈ w.ns := sortS_mem.mp (by rw [hx]; simp)
      have hdl : done.length ≤ 3 := by
        have := congrArg List.length hx
        rw [sortS_len, List.length_append] at this
        have := ok.l1
        omega
      have hpl := row_le ok hxn
      obtain ⟨e'', q1, ⟨t6, t7, t8, q2⟩⟩ := forL_all (t := gN 6) (g := lIn) (W := []) PyData.str (sortS (w.P x))
        (fun dn env => ∃ t6 t7 t8 : Sl, env = [.pl (pD w), .pl (qD w), .pl (mD m), .pl (mD (sw m)), .ow (.list ((blkL w m done ++ blkX w m x dn).map prD)), .pl (.str x), t6, t7, t8]) (sortS (w.P x)) []
        [.pl (pD w), .pl (qD w), .pl (mD m), .pl (mD (sw m)), .ow (.list ((blkL w m done).map prD)), .pl (.str x), s6, s7, s8] rfl ⟨_, _, _, by rw [show blkX w m x [] = [] from rfl, List.append_nil]⟩ (fun dn y rs env hy hR => by
          obtain ⟨t6, t7, t8, rfl⟩ := hR
          have hyP : y ∈ w.P x := sortS_mem.mp (by rw [hy]; simp)
          have hdn : dn.length ≤ 3 := by
            have := congrArg List.length hy
            rw [sortS_len, List.length_append] at this
            omega
          have hb := blkX_len (w := w) (m := m) x dn
          obtain ⟨s7', s8', q⟩ := lIn_ok ok M hxn hyP (blkL w m done ++ blkX w m x dn) (by rw [List.length_append]; omega) t7 t8
          refine ⟨_, _, rfl, q, .pl (.str y), s7', s8', ?_⟩
          rw [blkX_snoc, List.append_assoc])
      subst q2
      refine ⟨_, _, rfl, end_of (ru_seq ((fwFor (fwSeqF (fw1 (fw2 rfl rfl (ixPD _ hxn _ _)) (sortRS _ _))) rfl).trans q1) (ru_wipe (ru_nil rfl))), ⟨.pl (.str x), .no, .no, .no, ?_⟩, ?_⟩
      · rw [blkL_snoc]
        rfl
      · rw [blkL_snoc, List.length_append, List.length_append]
        have := blkX_len (w := w) (m := m) x (sortS (w.P x))
        rw [sortS_len] at this
        simp only [List.length_cons, List.length_nil]
        omega)
  subst e2
  refine ru_seq ((fwFor (fwSeqF (fw1 rfl (sortPD _ _ _))) rfl).trans h1) (ru_wipe ?_)
  exact ru_retO rfl rfl ⟨_, rfl⟩
end K39

set_option maxHeartbeats 2000000
namespace K39
open PySem PX
/-! ### all matches -/
variable {w : Wd} {m : Mt}
def extB (w : Wd) (x : Str) (m : Mt) (y : Str) : Bool := decide (x ∈ w.Q y) && !decide (y ∈ ks (sw m))
def extY (w : Wd) (x : Str) (m : Mt) (ys : List Str) : List Mt := (ys.filter (extB w x m)).map fun y => m ++ [(x, y)]
def extM (w : Wd) (x : Str) (ms : List Mt) : List Mt := ms.flatMap fun m => extY w x m (w.P x)
def step (w : Wd) (rows : List Mt) (x : Str) : List Mt := rows ++ extM w x rows
def rowsL (w : Wd) (xs : List Str) : List Mt := xs.foldl (step w) [[]]
def every (w : Wd) : List Mt := rowsL w (sortS w.ns)
theorem rowsL_snoc (xs : List Str) (x : Str) : rowsL w (xs ++ [x]) = step w (rowsL w xs) x := by
  unfold rowsL
  rw [List.foldl_append]
  rfl
theorem extY_len (x : Str) (m : Mt) (ys : List Str) : (extY w x m ys).length ≤ ys.length := by
  unfold extY
  rw [List.length_map]
  exact List.length_filter_le _ _
theorem extY_snoc (x : Str) (m : Mt) (ys : List Str) (y : Str) : extY w x m (ys ++ [y]) = extY w x m ys ++ (if extB w x m y = true then [m ++ [(x, y)]] else []) := by
  unfold extY
  rw [List.filter_append, List.map_append]
  congr 1
  by_cases h : extB w x m y = true
  · rw [List.filter_cons_of_pos h, if_pos h]; rfl
  · rw [List.filter_cons_of_neg h, if_neg h]; rfl
theorem extM_snoc (x : Str) (ms : List Mt) (m : Mt) : extM w x (ms ++ [m]) = extM w x ms ++ extY w x m (w.P x) := by
  unfold extM
  rw [List.flatMap_append, List.flatMap_cons, List.flatMap_nil, List.append_nil]
theorem extM_len (ok : w.Ok) {x : Str} (hx : x ∈ w.ns) : ∀ ms : List Mt, (extM w x ms).length ≤ 3 * ms.length
  | [] => Nat.le_refl _
  | m :: ms => by
    have h1 := extM_len ok hx ms
    have h2 := extY_len (w := w) x m (w.P x)
    have h3 := row_le ok hx
    unfold extM at h1 ⊢
    rw [List.flatMap_cons, List.length_append, List.length_cons]
    omega
/-- what is kept of each row -/
structure RowOk (w : Wd) (done : List Str) (m : Mt) : Prop where
  mat : MatL w m
  sub : (ks m).Sublist done
theorem ks_app (a b : Mt) : ks (a ++ b) = ks a ++ ks b := List.map_append
theorem sw_app (a b : Mt) : sw (a ++ b) = sw a ++ sw b := List.map_append
theorem rowOk_ext {done : List Str} {x y : Str} (h : RowOk w done m) (hx : x ∈ w.ns) (hd : x ∉ done) (hy : y ∈ w.P x) (hb : extB w x m y = true) : RowOk w (done ++ [x]) (m ++ [(x, y)]) := by
  unfold extB at hb
  rw [Bool.and_eq_true, decide_eq_true_eq, Bool.not_eq_true', decide_eq_false_iff_not] at hb
  refine ⟨⟨?_, ?_, fun p hp => ?_⟩, ?_⟩
  · rw [ks_app]
    refine List.nodup_append.mpr ⟨h.mat.nd, List.pairwise_singleton _ _, fun a ha b hb => ?_⟩
    rw [List.mem_singleton.mp hb]
    exact fun e => hd (h.sub.subset (by have e : a = x := e; rw [← e]; exact ha))
  · rw [sw_app, ks_app]
    refine List.nodup_append.mpr ⟨h.mat.nv, List.pairwise_singleton _ _, fun a ha b hb2 => ?_⟩
    rw [List.mem_singleton.mp hb2]
    exact fun e => hb.2 (by have e : a = y := e; rw [← e]; exact ha)
  · rcases List.mem_append.mp hp with hp | hp
    · exact h.mat.ok p hp
    · rw [List.mem_singleton.mp hp]
      exact ⟨hx, hy, hb.1⟩
  · rw [ks_app]
    exact h.sub.append (List.Sublist.refl _)
theorem rowOk_more {done : List Str} {x : Str} (h : RowOk w done m) : RowOk w (done ++ [x]) m := ⟨h.mat, h.sub.trans (List.sublist_append_left _ _)⟩
theorem rowsL_ok (ok : w.Ok) : ∀ (xs done : List Str) (rows : List Mt), (done ++ xs).Nodup → (∀ x ∈ xs, x ∈ w.ns) → (∀ m ∈ rows, RowOk w done m) → ∀ m ∈ xs.foldl (step w) rows, RowOk w (done ++ xs) m
  | [], done, rows, _, _, h, m, hm => by rw [List.append_nil]; exact h m hm
  | x :: xs, done, rows, nd, hn, h, m, hm => by
    have hx : x ∉ done := fun hd => by
      rw [List.nodup_append] at nd
      exact nd.2.2 x hd x (by simp) rfl
    have := rowsL_ok ok xs (done ++ [x]) (step w rows x) (by rw [List.append_assoc]; exact nd) (fun z hz => hn z (List.mem_cons_of_mem _ hz)) (fun m' hm' => by
      rcases List.mem_append.mp hm' with hm' | hm'
      · exact rowOk_more (h m' hm')
      · obtain ⟨m0, h0, h1⟩ := List.mem_flatMap.mp hm'
        unfold extY at h1
        obtain ⟨y, hy, rfl⟩ := List.mem_map.mp h1
        obtain ⟨y1, y2⟩ := List.mem_filter.mp hy
        exact rowOk_ext (h m0 h0) (hn x List.mem_cons_self) hx y1 y2) m hm
    rw [List.append_assoc] at this
    exact this
theorem nil_ok : MatL w [] := ⟨List.nodup_nil, List.nodup_nil, fun p hp => nomatch hp⟩
theorem every_ok (ok : w.Ok) {m : Mt} (hm : m ∈ every w) : RowOk w (sortS w.ns) m :=
  rowsL_ok ok (sortS w.ns) [] [[]] (sortS_nodup ok.nd) (fun x hx => sortS_mem.mp hx) (fun m hm => by rw [List.mem_singleton.mp hm]; exact ⟨nil_ok, List.Sublist.refl _⟩) m hm
theorem rows_pre (ok : w.Ok) {done rest : List Str} {x : Str} (h : sortS w.ns = done ++ x :: rest) : ∀ m ∈ rowsL w done, RowOk w done m := by
  have nd : (done ++ x :: rest).Nodup := h ▸ sortS_nodup ok.nd
  exact fun m hm => rowsL_ok ok done [] [[]] (List.nodup_append.mp nd).1 (fun z hz => sortS_mem.mp (by rw [h]; simp [hz])) (fun m hm => by rw [List.mem_singleton.mp hm]; exact ⟨nil_ok, List.Sublist.refl _⟩) m hm
/-! the walk -/
theorem vals_lc {env : SEnv} (nd : (ks m).Nodup) (hm : ∀ x, cVar 5 (env.set 8 (.pl (.str x))) [] = some (mD m, .im, [])) (h8 : ∀ x, cVar 8 (env.set 8 (.pl (.str x))) [] = some (.str x, .im, [])) :
    lcL (gN 8) kTrue (cCall oIx [cVar 5, cVar 8]) ((ks m).map PyData.str) env [] = some ((ks (sw m)).map PyData.str, []) := by
  have e : (ks (sw m)).map PyData.str = m.map fun p => PyData.str p.2 := by
    rw [ks_sw, List.map_map]
    rfl
  have e2 : (ks m).map PyData.str = m.map fun p => PyData.str p.1 := by
    unfold ks
    rw [List.map_map]
    rfl
  rw [e, e2]
  exact lcL_map (fun p : Str × Str => PyData.str p.1) (fun p => PyData.str p.2) m fun p hp => ⟨_, .im, rfl, fw2 (hm _) (h8 _) (ixM (lk_of nd hp) _ _), rfl⟩
theorem has_lc {env : SEnv} {y : Str} (nd : (ks m).Nodup) (hm : ∀ x, cVar 5 (env.set 8 (.pl (.str x))) [] = some (mD m, .im, [])) (h8 : ∀ x, cVar 8 (env.set 8 (.pl (.str x))) [] = some (.str x, .im, [])) (h6 : ∀ x, cVar 6 (env.set 8 (.pl (.str x))) [] = some (.str y, .im, [])) :
    lcL (gN 8) (bOf (cCall oEq [cCall oIx [cVar 5, cVar 8], cVar 6])) (cVar 8) ((ks m).map PyData.str) env [] = some (((m.filter fun p => decide (p.2 = y)).map (·.1)).map PyData.str, []) := by
  have e2 : (ks m).map PyData.str = m.map fun p => PyData.str p.1 := by
    unfold ks
    rw [List.map_map]
    rfl
  rw [e2, List.map_map]
  exact lcL_fm (fun p : Str × Str => PyData.str p.1) (fun p => decide (p.2 = y)) (fun p => PyData.str p.1) m fun p hp => ⟨_, rfl, fwB (fw2 (fw2 (hm _) (h8 _) (ixM (lk_of nd hp) _ _)) (h6 _) (eqStr _ _ _ _)), fun _ => ⟨.im, h8 _, rfl⟩⟩
theorem has_nil (m : Mt) (y : Str) : ((m.filter fun p => decide (p.2 = y)).map (·.1)).isEmpty = !decide (y ∈ ks (sw m)) := by
  rw [ks_sw, Bool.eq_iff_iff]
  simp only [List.isEmpty_iff, List.map_eq_nil_iff, List.filter_eq_nil_iff, decide_eq_true_eq, Bool.not_eq_true', decide_eq_false_iff_not, List.mem_map]
  exact ⟨fun h ⟨p, hp, e⟩ => h p hp e, fun h p hp e => h ⟨p, hp, e⟩⟩
abbrev E9 (w : Wd) (R : PyData) (x : Str) (acc : List Mt) (m : Mt) (y : Str) (s7 : Sl) : SEnv := [.pl (pD w), .pl (qD w), .pl R, .pl (.str x), .ow (.list (acc.map mD)), .pl (mD m), .pl (.str y), s7, .no]
abbrev inB (T : Ct) : Sx := sSeq (sIf T (sSeq (sSet 7 true (cCall oDict [cVar 5])) (sSeq (sDPut 7 (cVar 3) (cVar 6)) (sFrz 7 (sSeq (sApp 4 (cVar 7)) (sNil))))) (sNil)) (sNil)
theorem inB_ok {T : Ct} {R : PyData} {x y : Str} {acc : List Mt} {s7 : Sl} (hT : T (E9 w R x acc m y s7) [] = some (extB w x m y, [])) (hk : x ∉ ks m) (hm : m.length ≤ 10) (ha : acc.length ≤ 1000) : ∃ s7', inB T (E9 w R x acc m y s7) [] = some (.nx (E9 w R x (acc ++ (if extB w x m y = true then [m ++ [(x, y)]] else [])) m y s7') []) := by
  cases hb : extB w x m y with
  | true =>
    rw [hb] at hT
    refine ⟨.pl (mD (m ++ [(x, y)])), end_of (ru_ifT hT (ru_assoc (ru_set (fw1 rfl (dictM m _)) rfl ?_)))⟩
    refine ru_assoc (ru_dput rfl rfl rfl rfl (keyFit_m m x) (by unfold mE; rw [List.length_map]; omega) ?_)
    rw [putM y hk]
    refine ru_frzS (ru_frz rfl ?_)
    refine ru_assoc (ru_app rfl rfl rfl (by rw [List.length_map]; omega) (ru_nilS (ru_nil ?_)))
    show Ou.nx _ _ = _
    dsimp only [E9]
    rw [if_pos rfl, List.map_append]
    rfl
  | false =>
    rw [hb] at hT
    refine ⟨s7, ?_⟩
    rw [if_neg Bool.false_ne_true, List.append_nil]
    exact end_of (ru_pass hT (ru_nil rfl))
abbrev rowB (T : Ct) : Sx := sSeq (sFor (iSeqR (cCall oIx [cVar 0, cVar 3])) (gN 6) (inB T)) (sWipe [6, 7] (sNil))
theorem rowB_ok (ok : w.Ok) {T : Ct} {R : PyData} {x : Str} {acc : List Mt} {s6 s7 : Sl} (hx : x ∈ w.ns) (hT : ∀ y ∈ w.P x, ∀ acc s7, T (E9 w R x acc m y s7) [] = some (extB w x m y, [])) (hk : x ∉ ks m) (hm : m.length ≤ 10) (ha : acc.length ≤ 900) :
    rowB T [.pl (pD w), .pl (qD w), .pl R, .pl (.str x), .ow (.list (acc.map mD)), .pl (mD m), s6, s7, .no] [] = some (.nx [.pl (pD w), .pl (qD w), .pl R, .pl (.str x), .ow (.list ((acc ++ extY w x m (w.P x)).map mD)), .pl (mD m), .no, .no, .no] []) := by
  have hpl := row_le ok hx
  obtain ⟨e'', q1, ⟨t6, t7, q2⟩⟩ := forL_all (t := gN 6) (g := inB T) (W := []) PyData.str (w.P x)
    (fun dn env => ∃ t6 t7 : Sl, env = [.pl (pD w), .pl (qD w), .pl R, .pl (.str x), .ow (.list ((acc ++ extY w x m dn).map mD)), .pl (mD m), t6, t7, .no]) (w.P x) []
    [.pl (pD w), .pl (qD w), .pl R, .pl (.str x), .ow (.list (acc.map mD)), .pl (mD m), s6, s7, .no] rfl ⟨_, _, by rw [show extY w x m [] = [] from rfl, List.append_nil]⟩ (fun dn y rs env hy hR => by
      obtain ⟨t6, t7, rfl⟩ := hR
      have hyP : y ∈ w.P x := by rw [hy]; simp
      have hdn : dn.length ≤ 3 := by
        have := congrArg List.length hy
        rw [List.length_append] at this
        omega
      have hb := extY_len (w := w) x m dn
      obtain ⟨s7', q⟩ := inB_ok (R := R) (hT y hyP (acc ++ extY w x m dn) t7) hk hm (by rw [List.length_append]; omega)
      refine ⟨_, _, rfl, q, .pl (.str y), s7', ?_⟩
      rw [extY_snoc, List.append_assoc])
  subst q2
  exact end_of (ru_seq ((fwFor (seqRS (fw2 rfl rfl (ixPD _ hx _ _))) rfl).trans q1) (ru_wipe (ru_nil rfl)))
abbrev TA : Ct := kAnd (bOf (cFn f_is_pair [cVar 0, cVar 1, cVar 3, cVar 6])) (bOf (cCall oNotIn [cVar 6, cLc (iKey 5) (gN 8) (kTrue) (cCall oIx [cVar 5, cVar 8]) [8]]))
abbrev outBA : Sx := sSeq (sSet 4 true (cCall oList [cVar 2])) (sSeq (sFor (iSeq (cVar 2)) (gN 5) (rowB TA)) (sWipe [5, 6, 7] (sSeq (sSet 2 false (cVar 4)) (sNil))))
theorem tA (ok : w.Ok) {R : PyData} {x y : Str} {acc : List Mt} {s7 : Sl} (hx : x ∈ w.ns) (hy : y ∈ w.P x) (M : MatL w m) : TA (E9 w R x acc m y s7) [] = some (extB w x m y, []) := by
  have hml := mat_len ok M
  have u1 : bOf (cFn f_is_pair [cVar 0, cVar 1, cVar 3, cVar 6]) (E9 w R x acc m y s7) [] = some (pairB w x y, []) := fwB (k := .im) (by simp [cFn, cArgs, cVar, esc, pair_ok ok hx y])
  have u2 : bOf (cCall oNotIn [cVar 6, cLc (iKey 5) (gN 8) (kTrue) (cCall oIx [cVar 5, cVar 8]) [8]]) (E9 w R x acc m y s7) [] = some (!decide (y ∈ ks (sw m)), []) := fwB (k := .im) (fw2 rfl (fwLc rfl (fwKeyM rfl (by omega)) rfl (vals_lc M.nd (fun _ => rfl) fun _ => rfl)) (niSL _ _ _ _))
  have e : extB w x m y = (pairB w x y && !decide (y ∈ ks (sw m))) := by unfold extB pairB; rw [decide_eq_true hy, Bool.true_and]
  rw [e]
  exact fwAnd u1 fun _ => u2
theorem all_matches_ok (ok : w.Ok) : f_all_matches [pD w, qD w] = some (.list ((every w).map mD)) := by
  show PX.runF 9 2 g_all_matches _ = _
  refine runF_of rfl ?_
  show Runs g_all_matches [.pl (pD w), .pl (qD w), .no, .no, .no, .no, .no, .no, .no] [] _
  unfold g_all_matches
  refine ru_set (fwLst1 (k1 := .fr) rfl rfl) rfl ?_
  show Runs _ [.pl (pD w), .pl (qD w), .pl (.list ([[]].map mD)), .no, .no, .no, .no, .no, .no] [] _
  obtain ⟨e', h1, ⟨s3, s4, s5, s6, s7, h5, e2⟩, _⟩ := forL_all (t := gN 3) (g := outBA) (W := []) PyData.str (sortS w.ns)
    (fun done env => (∃ s3 s4 s5 s6 s7 : Sl, s5.own = false ∧ env = [.pl (pD w), .pl (qD w), .pl (.list ((rowsL w done).map mD)), s3, s4, s5, s6, s7, .no]) ∧ (rowsL w done).length ≤ 4 ^ done.length) (sortS w.ns) []
    [.pl (pD w), .pl (qD w), .pl (.list ([[]].map mD)), .no, .no, .no, .no, .no, .no] rfl ⟨⟨_, _, _, _, _, rfl, rfl⟩, Nat.le_refl _⟩ (fun done x rest env hxs hR => by
      obtain ⟨⟨s3, s4, s5, s6, s7, h5, rfl⟩, hl⟩ := hR
      have hxn : x ∈ w.ns := sortS_mem.mp (by rw [hxs]; simp)
      have hok := rows_pre ok hxs
      have hxd : x ∉ done := fun hd => by
        have nd : (done ++ x :: rest).Nodup := hxs ▸ sortS_nodup ok.nd
        rw [List.nodup_append] at nd
        exact nd.2.2 x hd x (by simp) rfl
      have hdl : done.length ≤ 2 := by
        have := congrArg List.length hxs
        rw [sortS_len, List.length_append, List.length_cons] at this
        have := ok.l1
        omega
      have h16 : (rowsL w done).length ≤ 16 := Nat.le_trans hl (Nat.pow_le_pow_right (by decide) hdl)
      have hel := extM_len ok hxn (rowsL w done)
      rw [rowsL_snoc]
      generalize rowsL w done = rows at hok h16 hel hl ⊢
      obtain ⟨e'', q1, ⟨t5, t6, t7, p5, q2⟩⟩ := forL_all (t := gN 5) (g := rowB TA) (W := []) mD rows
        (fun dn env => ∃ t5 t6 t7 : Sl, t5.own = false ∧ env = [.pl (pD w), .pl (qD w), .pl (.list (rows.map mD)), .pl (.str x), .ow (.list ((rows ++ extM w x dn).map mD)), t5, t6, t7, .no]) rows []
        [.pl (pD w), .pl (qD w), .pl (.list (rows.map mD)), .pl (.str x), .ow (.list (rows.map mD)), s5, s6, s7, .no] rfl ⟨_, _, _, h5, by rw [show extM w x [] = [] from rfl, List.append_nil]⟩ (fun dn m rs env hms hR => by
          obtain ⟨t5, t6, t7, p5, rfl⟩ := hR
          have hm : m ∈ rows := by rw [hms]; simp
          have rk := hok m hm
          have hml := mat_len ok rk.mat
          have hdn := extM_len ok hxn dn
          have hdn2 : dn.length ≤ 16 := by
            have := congrArg List.length hms
            rw [List.length_append] at this
            omega
          refine ⟨_, _, rfl, rowB_ok ok (R := .list (rows.map mD)) hxn (fun y hy acc s7 => tA ok hxn hy rk.mat) (fun hk => hxd (rk.sub.subset hk)) (by omega) (by rw [List.length_append]; omega), .pl (mD m), .no, .no, rfl, ?_⟩
          rw [extM_snoc, List.append_assoc])
      subst q2
      refine ⟨_, _, rfl, end_of (ru_set (k := .fr) (W1 := []) (fw1 rfl rfl) rfl (ru_seq ((fwFor (fwSeqL rfl) rfl).trans q1) (ru_wipe (ru_move rfl rfl (ru_nil rfl))))), ⟨.pl (.str x), _, .no, .no, .no, rfl, rfl⟩, ?_⟩
      unfold step
      rw [List.length_append, List.length_append, List.length_cons, List.length_nil, Nat.pow_succ]
      omega)
  subst e2
  refine ru_seq ((fwFor (fwSeqF (fw1 rfl (sortPD _ _ _))) rfl).trans h1) (ru_wipe ?_)
  exact ru_ret (k := .im) (W1 := []) rfl rfl ⟨_, rfl⟩
abbrev TL : Ct := kAnd (bOf (cCall oInR [cVar 3, cCall oIx [cVar 1, cVar 6]])) (bOf (cCall oEq [cLc (iKey 5) (gN 8) (bOf (cCall oEq [cCall oIx [cVar 5, cVar 8], cVar 6])) (cVar 8) [8], cCall oLst []]))
abbrev outBL : Sx := sSeq (sSet 4 true (cLc (iSeq (cVar 2)) (gN 5) (kTrue) (cCall oDict [cVar 5]) [5])) (sSeq (sFor (iSeq (cVar 2)) (gN 5) (rowB TL)) (sWipe [6, 7] (sSeq (sSet 2 false (cVar 4)) (sNil))))
theorem tL (ok : w.Ok) {R : PyData} {x y : Str} {acc : List Mt} {s7 : Sl} (hx : x ∈ w.ns) (hy : y ∈ w.P x) (M : MatL w m) : TL (E9 w R x acc m y s7) [] = some (extB w x m y, []) := by
  have hml := mat_len ok M
  have hyg := (ok.p x hx).2 y hy
  have u1 : bOf (cCall oInR [cVar 3, cCall oIx [cVar 1, cVar 6]]) (E9 w R x acc m y s7) [] = some (decide (x ∈ w.Q y), []) := fwB (k := .im) (fw2 rfl (fw2 rfl rfl (ixPD _ hyg _ _)) (inRS _ _ _ _))
  have u2 : bOf (cCall oEq [cLc (iKey 5) (gN 8) (bOf (cCall oEq [cCall oIx [cVar 5, cVar 8], cVar 6])) (cVar 8) [8], cCall oLst []]) (E9 w R x acc m y s7) [] = some (!decide (y ∈ ks (sw m)), []) := fwB (k := .im) ((fw2 (fwLc rfl (fwKeyM rfl (by omega)) rfl (has_lc M.nd (fun _ => rfl) (fun _ => rfl) fun _ => rfl)) fwLst0 (strs_nil _ _ _)).trans (by rw [has_nil]))
  unfold extB
  exact fwAnd u1 fun _ => u2
theorem lmatches_ok (ok : w.Ok) : f__law_matches [pD w, qD w] = some (.list ((every w).map mD)) := by
  show PX.runF 9 2 g__law_matches _ = _
  refine runF_of rfl ?_
  show Runs g__law_matches [.pl (pD w), .pl (qD w), .no, .no, .no, .no, .no, .no, .no] [] _
  unfold g__law_matches
  refine ru_set (fwLst1 (k1 := .fr) rfl rfl) rfl ?_
  show Runs _ [.pl (pD w), .pl (qD w), .pl (.list ([[]].map mD)), .no, .no, .no, .no, .no, .no] [] _
  obtain ⟨e', h1, ⟨s3, s4, s5, s6, s7, h5, e2⟩, _⟩ := forL_all (t := gN 3) (g := outBL) (W := []) PyData.str (sortS w.ns)
    (fun done env => (∃ s3 s4 s5 s6 s7 : Sl, s5.own = false ∧ env = [.pl (pD w), .pl (qD w), .pl (.list ((rowsL w done).map mD)), s3, s4, s5, s6, s7, .no]) ∧ (rowsL w done).length ≤ 4 ^ done.length) (sortS w.ns) []
    [.pl (pD w), .pl (qD w), .pl (.list ([[]].map mD)), .no, .no, .no, .no, .no, .no] rfl ⟨⟨_, _, _, _, _, rfl, rfl⟩, Nat.le_refl _⟩ (fun done x rest env hxs hR => by
      obtain ⟨⟨s3, s4, s5, s6, s7, h5, rfl⟩, hl⟩ := hR
      have hxn : x ∈ w.ns := sortS_mem.mp (by rw [hxs]; simp)
      have hok := rows_pre ok hxs
      have hxd : x ∉ done := fun hd => by
        have nd : (done ++ x :: rest).Nodup := hxs ▸ sortS_nodup ok.nd
        rw [List.nodup_append] at nd
        exact nd.2.2 x hd x (by simp) rfl
      have hdl : done.length ≤ 2 := by
        have := congrArg List.length hxs
        rw [sortS_len, List.length_append, List.length_cons] at this
        have := ok.l1
        omega
      have h16 : (rowsL w done).length ≤ 16 := Nat.le_trans hl (Nat.pow_le_pow_right (by decide) hdl)
      have hel := extM_len ok hxn (rowsL w done)
      rw [rowsL_snoc]
      generalize rowsL w done = rows at hok h16 hel hl ⊢
      obtain ⟨e'', q1, ⟨t5, t6, t7, p5, q2⟩⟩ := forL_all (t := gN 5) (g := rowB TL) (W := []) mD rows
        (fun dn env => ∃ t5 t6 t7 : Sl, t5.own = false ∧ env = [.pl (pD w), .pl (qD w), .pl (.list (rows.map mD)), .pl (.str x), .ow (.list ((rows ++ extM w x dn).map mD)), t5, t6, t7, .no]) rows []
        [.pl (pD w), .pl (qD w), .pl (.list (rows.map mD)), .pl (.str x), .ow (.list (rows.map mD)), s5, s6, s7, .no] rfl ⟨_, _, _, h5, by rw [show extM w x [] = [] from rfl, List.append_nil]⟩ (fun dn m rs env hms hR => by
          obtain ⟨t5, t6, t7, p5, rfl⟩ := hR
          have hm : m ∈ rows := by rw [hms]; simp
          have rk := hok m hm
          have hml := mat_len ok rk.mat
          have hdn := extM_len ok hxn dn
          have hdn2 : dn.length ≤ 16 := by
            have := congrArg List.length hms
            rw [List.length_append] at this
            omega
          refine ⟨_, _, rfl, rowB_ok ok (R := .list (rows.map mD)) hxn (fun y hy acc s7 => tL ok hxn hy rk.mat) (fun hk => hxd (rk.sub.subset hk)) (by omega) (by rw [List.length_append]; omega), .pl (mD m), .no, .no, rfl, ?_⟩
          rw [extM_snoc, List.append_assoc])
      subst q2
      refine ⟨_, _, rfl, end_of (ru_set (k := .fr) (W1 := []) (fwLc (by show (!s5.own && true) = true; rw [h5]; rfl) (fwSeqL rfl) rfl (lcL_map mD mD rows fun m _ => ⟨_, .fr, rfl, fw1 rfl (dictM m _), rfl⟩)) rfl (ru_seq ((fwFor (fwSeqL rfl) rfl).trans q1) (ru_wipe (ru_move rfl rfl (ru_nil rfl))))), ⟨.pl (.str x), _, t5, .no, .no, p5, rfl⟩, ?_⟩
      unfold step
      rw [List.length_append, List.length_append, List.length_cons, List.length_nil, Nat.pow_succ]
      omega)
  subst e2
  refine ru_seq ((fwFor (fwSeqF (fw1 rfl (sortPD _ _ _))) rfl).trans h1) (ru_wipe ?_)
  exact ru_ret (k := .im) (W1 := []) rfl rfl ⟨_, rfl⟩
end K39

set_option maxHeartbeats 2000000
namespace K39
open PySem PX
/-! ### asking -/
variable {w : Wd} {m : Mt}
def mput (m : Mt) (g x : Str) : Mt := if g ∈ ks m then m.map (fun p => if p.1 = g then (p.1, x) else p) else m ++ [(g, x)]
theorem ks_put (m : Mt) (g x : Str) : ks (m.map fun p => if p.1 = g then (p.1, x) else p) = ks m := by
  unfold ks
  rw [List.map_map]
  refine List.map_congr_left fun p _ => ?_
  show (if p.1 = g then (p.1, x) else p).1 = p.1
  split <;> rfl
theorem mput_nd {g x : Str} (nd : (ks m).Nodup) : (ks (mput m g x)).Nodup := by
  unfold mput
  split
  · rw [ks_put]; exact nd
  · rename_i h
    rw [ks_app]
    refine List.nodup_append.mpr ⟨nd, List.pairwise_singleton _ _, fun a ha b hb => ?_⟩
    rw [List.mem_singleton.mp hb]
    exact fun e => h (by have e : a = g := e; rw [← e]; exact ha)
theorem lk_app (a b : Mt) (z : Str) : lk (a ++ b) z = (lk a z).or (lk b z) := by
  unfold lk
  rw [List.find?_append]
  cases a.find? fun p => decide (p.1 = z) <;> rfl
theorem lk_put {g x : Str} : lk (mput m g x) = upf (lk m) g x := by
  funext z
  unfold mput
  split
  · rename_i h
    have key : ∀ m : Mt, lk (m.map fun p => if p.1 = g then (p.1, x) else p) z = if z = g then (lk m g).map (fun _ => x) else lk m z := by
      intro m
      induction m with
      | nil => split <;> rfl
      | cons p m ih =>
        rw [List.map_cons, lk_cons, lk_cons, lk_cons, ih]
        by_cases hz : z = g
        · subst hz
          rw [if_pos rfl, if_pos rfl]
          by_cases hp : p.1 = z
          · rw [if_pos hp, if_pos hp, if_pos hp]
            rfl
          · rw [if_neg hp, if_neg hp, if_neg hp]
        · rw [if_neg hz, if_neg hz]
          by_cases hp : p.1 = g
          · rw [if_pos hp]
            have : p.1 ≠ z := fun e => hz (e ▸ hp)
            show (if p.1 = z then some x else _) = _
            rw [if_neg this, if_neg this]
          · rw [if_neg hp]
    rw [key]
    unfold upf
    by_cases hz : z = g
    · rw [if_pos hz, if_pos hz]
      cases e : lk m g with
      | none => exact absurd h (lk_none.mp e)
      | some y => rfl
    · rw [if_neg hz, if_neg hz]
  · rename_i h
    rw [lk_app, lk_cons]
    unfold upf
    by_cases hz : z = g
    · subst hz
      rw [if_pos rfl, if_pos rfl, lk_none.mpr h]
      rfl
    · rw [if_neg hz]
      show (lk m z).or (if g = z then _ else _) = _
      rw [if_neg (fun e => hz e.symm)]
      cases lk m z <;> rfl
theorem dput_old {m : Mt} {g : Str} (x : Str) (h : g ∈ ks m) : dputE (mE m) (.str g) (.str x) = mE (m.map fun p => if p.1 = g then (p.1, x) else p) := by
  unfold dputE
  rw [isT_m]
  show dput (mE m) (.str g) (.str x) = _
  unfold dput
  have : ((mE m).any fun e => PyData.eqv e.1 (.str g)) = true := by
    unfold mE
    rw [List.any_map, List.any_eq_true]
    obtain ⟨p, hp, e⟩ := List.mem_map.mp h
    exact ⟨p, hp, by show PyData.eqv (.str p.1) (.str g) = true; rw [eqv_str]; exact decide_eq_true e⟩
  rw [this, if_pos rfl]
  unfold mE
  rw [List.map_map, List.map_map]
  refine List.map_congr_left fun p _ => ?_
  show (if PyData.eqv (.str p.1) (.str g) = true then (PyData.str p.1, PyData.str x) else (PyData.str p.1, PyData.str p.2)) = (PyData.str (if p.1 = g then (p.1, x) else p).1, PyData.str (if p.1 = g then (p.1, x) else p).2)
  rw [eqv_str]
  by_cases e : p.1 = g
  · rw [if_pos e, if_pos (decide_eq_true e)]
  · rw [if_neg e, if_neg (by rw [decide_eq_false e]; exact Bool.false_ne_true)]
theorem dput_mput (m : Mt) (g x : Str) : dputE (mE m) (.str g) (.str x) = mE (mput m g x) := by
  unfold mput
  split
  · rename_i h; exact dput_old x h
  · rename_i h; exact putM x h
/-! the measure -/
def meas (w : Wd) (t : Str → Nat) (xs : List Str) : Nat := (xs.map fun z => (w.P z).length - t z).sum
theorem meas_le {t : Str → Nat} {x : Str} : ∀ xs : List Str, meas w (upn t x) xs ≤ meas w t xs
  | [] => Nat.le_refl _
  | z :: xs => by
    have := meas_le (t := t) (x := x) xs
    unfold meas at this ⊢
    rw [List.map_cons, List.map_cons, List.sum_cons, List.sum_cons]
    have : (w.P z).length - upn t x z ≤ (w.P z).length - t z := by
      unfold upn
      split <;> omega
    omega
theorem meas_lt {t : Str → Nat} {x : Str} (h : t x < (w.P x).length) : ∀ {xs : List Str}, x ∈ xs → meas w (upn t x) xs < meas w t xs
  | z :: xs, hx => by
    have h1 := meas_le (w := w) (t := t) (x := x) xs
    have h2 : (w.P z).length - upn t x z ≤ (w.P z).length - t z := by
      unfold upn
      split <;> omega
    unfold meas at h1 ⊢
    rw [List.map_cons, List.map_cons, List.sum_cons, List.sum_cons]
    rcases List.mem_cons.mp hx with rfl | hx
    · have : upn t x x = t x + 1 := upn_at
      omega
    · have h3 := meas_lt h hx
      unfold meas at h3
      omega
theorem meas_bd {t : Str → Nat} (n : Nat) : ∀ {xs : List Str}, (∀ z ∈ xs, (w.P z).length ≤ n) → meas w t xs ≤ n * xs.length
  | [], _ => Nat.zero_le _
  | z :: xs, h => by
    have h1 := meas_bd (t := t) n fun y hy => h y (List.mem_cons_of_mem _ hy)
    have h2 := h z List.mem_cons_self
    unfold meas at h1 ⊢
    rw [List.map_cons, List.sum_cons, List.length_cons, Nat.mul_add]
    omega
theorem whileL_run {t : Ct} {g : Sx} {W : List Int} (R : Nat → SEnv → Prop) (End : SEnv → Prop) (st : ∀ n env, R n env → (t env W = some (false, W) ∧ End env) ∨ (t env W = some (true, W) ∧ ∃ e2 k, k < n ∧ g env W = some (.nx e2 W) ∧ R k e2)) : ∀ (N n : Nat) (env : SEnv), n < N → R n env → ∃ e', whileL N t g env W = some (.nx e' W) ∧ End e'
  | 0, n, env, h, _ => absurd h (Nat.not_lt_zero _)
  | N + 1, n, env, h, hr => by
    rcases st n env hr with ⟨h1, h2⟩ | ⟨h1, e2, k, h2, h3, h4⟩
    · exact ⟨env, fwWhileF h1, h2⟩
    · obtain ⟨e', q1, q2⟩ := whileL_run R End st N k e2 (by omega) h4
      exact ⟨e', (fwWhileT h1 h3).trans q1, q2⟩
def tD (w : Wd) (t : Str → Nat) : PyData := dS w.ns fun z => .int ((t z : Nat) : Int)
abbrev EA (w : Wd) (hm : Mt) (t : Str → Nat) (wt : List Str) (s5 s6 : Sl) : SEnv := [.pl (pD w), .pl (qD w), .ow (mD hm), .ow (tD w t), .ow (.list (wt.map PyData.str)), s5, s6]
abbrev aT : Ct := kAnd (bOf (cCall oIsNot [cVar 5, cK .none])) (bOf (cCall oLt [cCall oIx [cVar 3, cVar 5], cCall oLenR [cCall oIx [cVar 0, cVar 5]]]))
abbrev aB : Sx := sSeq (sSet 6 false (cCall oIxR [cCall oIx [cVar 0, cVar 5], cCall oIx [cVar 3, cVar 5]])) (sSeq (sDAug 3 (cVar 5) (fun x y => x + y) (cK (.int 1))) (sSeq (sIf (kAnd (bOf (cCall oIn [cVar 6, cVar 1])) (kAnd (bOf (cCall oInR [cVar 5, cCall oIx [cVar 1, cVar 6]])) (bOf (cFn f_would_rather [cCall oIx [cVar 1, cVar 6], cVar 5, cCall oGet1 [cVar 2, cVar 6]])))) (sSeq (sParD 5 2 (cCall oGet1 [cVar 2, cVar 6]) (cVar 5) (cVar 6)) (sNil)) (sNil)) (sNil)))
theorem aT_ok {hm : Mt} {t : Str → Nat} {wt : List Str} {s6 : Sl} {x : Str} (hx : x ∈ w.ns) : aT (EA w hm t wt (.pl (.str x)) s6) [] = some (decide (t x < (w.P x).length), []) := by
  have c : decide (((t x : Nat) : Int) < ((w.P x).length : Nat)) = decide (t x < (w.P x).length) := decide_eq_decide.mpr ⟨fun h => by omega, fun h => by omega⟩
  have u1 : bOf (cCall oIsNot [cVar 5, cK .none]) (EA w hm t wt (.pl (.str x)) s6) [] = some (true, []) := fwB (k := .im) (fw2 rfl fwK rfl)
  have u2 : bOf (cCall oLt [cCall oIx [cVar 3, cVar 5], cCall oLenR [cCall oIx [cVar 0, cVar 5]]]) (EA w hm t wt (.pl (.str x)) s6) [] = some (decide (t x < (w.P x).length), []) := fwB (k := .im) ((fw2 (fw2 rfl rfl (ixD _ hx _ _)) (fw1 (fw2 rfl rfl (ixPD _ hx _ _)) (lenRS _ _)) (ltI _ _ _ _)).trans (by rw [c]))
  have := fwAnd u1 fun _ => u2
  rwa [Bool.true_and] at this
theorem hold_len (ok : w.Ok) {hm : Mt} {t : Str → Nat} {cur : Option Str} {wt : List Str} (nd : (ks hm).Nodup) (I : Inv w (lk hm) t cur wt) : hm.length ≤ 3 := by
  have := nodup_le nd (fun g hg => by
    cases e : lk hm g with
    | none => exact absurd hg (lk_none.mp e)
    | some x =>
      obtain ⟨a, b, c, d⟩ := I.i1 _ _ e
      exact (ok.p x a).2 g b)
  unfold ks at this
  rw [List.length_map] at this
  exact Nat.le_trans this ok.l2
theorem aB_ok (ok : w.Ok) {hm : Mt} {t : Str → Nat} {wt : List Str} {s6 : Sl} {x : Str} (nd : (ks hm).Nodup) (I : Inv w (lk hm) t (some x) wt) (hl : t x < (w.P x).length) :
    ∃ hm' t' cur' s6', aB (EA w hm t wt (.pl (.str x)) s6) [] = some (.nx (EA w hm' t' wt (.pl (optD cur')) s6') []) ∧ (ks hm').Nodup ∧ Inv w (lk hm') t' cur' wt ∧ meas w t' w.ns < meas w t w.ns := by
  obtain ⟨hx, _⟩ := I.i9 x rfl
  obtain ⟨g, hg⟩ : ∃ g, (w.P x)[t x]? = some g := ⟨_, List.getElem?_eq_getElem hl⟩
  have mg : g ∈ w.P x := (idx_at (ok.p x hx).1 hg).2
  have hgs := (ok.p x hx).2 g mg
  have hml := hold_len ok nd I
  have td : (dS w.ns fun z => PyData.int (if z = x then ((t z : Nat) : Int) + 1 else ((t z : Nat) : Int))) = tD w (upn t x) := by
    unfold tD
    congr 1
    funext z
    unfold upn
    split <;> simp
  have t1 : bOf (cCall oIn [cVar 6, cVar 1]) (EA w hm (upn t x) wt (.pl (.str x)) (.pl (.str g))) [] = some (true, []) := fwB (k := .im) ((fw2 rfl rfl (inPD _ _ _ _ _)).trans (by rw [decide_eq_true hgs]))
  have t2 : bOf (cCall oInR [cVar 5, cCall oIx [cVar 1, cVar 6]]) (EA w hm (upn t x) wt (.pl (.str x)) (.pl (.str g))) [] = some (decide (x ∈ w.Q g), []) := fwB (k := .im) (fw2 rfl (fw2 rfl rfl (ixPD _ hgs _ _)) (inRS _ _ _ _))
  have t3 : decide (x ∈ w.Q g) = true → bOf (cFn f_would_rather [cCall oIx [cVar 1, cVar 6], cVar 5, cCall oGet1 [cVar 2, cVar 6]]) (EA w hm (upn t x) wt (.pl (.str x)) (.pl (.str g))) [] = some (ltB (w.Q g) x (lk hm g), []) := fun hq =>
    fwB (k := .im) (fwF3 (fw2 rfl rfl (ixPD _ hgs _ _)) rfl rfl rfl (fw2 rfl rfl (getM _ _ _ _)) rfl (rather_ok fun b e => ⟨of_decide_eq_true hq, (I.i1 _ _ e).2.2.1⟩))
  have tt := fwAnd t1 fun _ => fwAnd t2 t3
  rw [Bool.true_and] at tt
  have run : ∀ {Q : Ou → Prop}, Runs (sSeq (sIf (kAnd (bOf (cCall oIn [cVar 6, cVar 1])) (kAnd (bOf (cCall oInR [cVar 5, cCall oIx [cVar 1, cVar 6]])) (bOf (cFn f_would_rather [cCall oIx [cVar 1, cVar 6], cVar 5, cCall oGet1 [cVar 2, cVar 6]])))) (sSeq (sParD 5 2 (cCall oGet1 [cVar 2, cVar 6]) (cVar 5) (cVar 6)) (sNil)) (sNil)) (sNil)) (EA w hm (upn t x) wt (.pl (.str x)) (.pl (.str g))) [] Q → Runs aB (EA w hm t wt (.pl (.str x)) s6) [] Q := fun {Q} h => by
    refine ru_set (k := .im) (W1 := []) (fw2 (fw2 rfl rfl (ixPD _ hx _ _)) (fw2 rfl rfl (ixD _ hx _ _)) (ixRS hg _ _)) rfl ?_
    refine ru_daugS (ns := w.ns) (g := fun z => ((t z : Nat) : Int)) (x := x) (y := 1) (k2 := .im) rfl hx rfl fwK (by have := ok.l1; omega) ?_
    rw [td]
    exact h
  cases hc : (decide (x ∈ w.Q g) && ltB (w.Q g) x (lk hm g)) with
  | true =>
    rw [hc] at tt
    rw [Bool.and_eq_true, decide_eq_true_eq] at hc
    refine ⟨mput hm g x, upn t x, lk hm g, .pl (.str g), end_of (run (ru_ifT tt (ru_assoc (ru_seq ?_ (ru_nilS (ru_nil rfl)))))), mput_nd nd, ?_, meas_lt hl hx⟩
    · show sParD 5 2 (cCall oGet1 [cVar 2, cVar 6]) (cVar 5) (cVar 6) (EA w hm (upn t x) wt (.pl (.str x)) (.pl (.str g))) [] = some (.nx (EA w (mput hm g x) (upn t x) wt (.pl (optD (lk hm g))) (.pl (.str g))) [])
      have a1 : cArgs [cCall oGet1 [cVar 2, cVar 6], cVar 5] (EA w hm (upn t x) wt (.pl (.str x)) (.pl (.str g))) [] = some ([(optD (lk hm g), .im), (.str x, .im)], []) := by
        have q : cCall oGet1 [cVar 2, cVar 6] (EA w hm (upn t x) wt (.pl (.str x)) (.pl (.str g))) [] = some (optD (lk hm g), .im, []) := fw2 rfl rfl (getM _ _ _ _)
        simp only [cArgs, q, Option.bind_some]
        rfl
      unfold sParD
      rw [a1]
      show (if keyFit (mE hm) (.str g) = true ∧ (mE hm).length < 16777216 then some (Ou.nx [.pl (pD w), .pl (qD w), .ow (.dict (dputE (mE hm) (.str g) (.str x))), .ow (tD w (upn t x)), .ow (.list (wt.map PyData.str)), .pl (optD (lk hm g)), .pl (.str g)] []) else none) = _
      rw [if_pos ⟨keyFit_m _ _, by unfold mE; rw [List.length_map]; omega⟩, dput_mput]
      rfl
    · rw [lk_put]
      exact I.stepA ok hg hc.1 hc.2
  | false =>
    rw [hc] at tt
    refine ⟨hm, upn t x, some x, .pl (.str g), end_of (run (ru_pass tt (ru_nil rfl))), nd, ?_, meas_lt hl hx⟩
    refine I.stepB ok hg fun h => ?_
    rw [decide_eq_true h.1, h.2] at hc
    cases hc
theorem inner_ok (ok : w.Ok) {hm : Mt} {t : Str → Nat} {wt : List Str} {s6 : Sl} {x : Str} (nd : (ks hm).Nodup) (I : Inv w (lk hm) t (some x) wt) :
    ∃ hm' t' cur' s6', whileL 40 aT aB (EA w hm t wt (.pl (.str x)) s6) [] = some (.nx (EA w hm' t' wt (.pl (optD cur')) s6') []) ∧ (ks hm').Nodup ∧ Inv w (lk hm') t' cur' wt ∧ ∀ z, cur' = some z → t' z = (w.P z).length := by
  have hb : meas w t w.ns ≤ 3 * w.ns.length := meas_bd 3 fun z hz => row_le ok hz
  have h1 := ok.l1
  obtain ⟨e', q1, hm', t', cur', s6', q2, q3⟩ := whileL_run (t := aT) (g := aB) (W := [])
    (fun n env => ∃ hm t cur s6, env = EA w hm t wt (.pl (optD cur)) s6 ∧ (ks hm).Nodup ∧ Inv w (lk hm) t cur wt ∧ meas w t w.ns = n)
    (fun env => ∃ hm' t' cur' s6', env = EA w hm' t' wt (.pl (optD cur')) s6' ∧ (ks hm').Nodup ∧ Inv w (lk hm') t' cur' wt ∧ ∀ z, cur' = some z → t' z = (w.P z).length)
    (fun n env hR => by
      obtain ⟨hm, t, cur, s6, rfl, nd, I, hn⟩ := hR
      cases cur with
      | none => exact .inl ⟨fwAnd (b := false) (c := false) (fwB (k := .im) (fw2 rfl fwK rfl)) fun z => absurd z (by decide), hm, t, none, s6, rfl, nd, I, fun z e => (nomatch e)⟩
      | some x =>
        have hx := (I.i9 x rfl).1
        have tt := aT_ok (hm := hm) (t := t) (wt := wt) (s6 := s6) hx
        by_cases hl : t x < (w.P x).length
        · rw [decide_eq_true hl] at tt
          obtain ⟨hm', t', cur', s6', r1, r2, r3, r4⟩ := aB_ok ok (s6 := s6) nd I hl
          exact .inr ⟨tt, _, _, by rw [← hn]; exact r4, r1, hm', t', cur', s6', rfl, r2, r3, rfl⟩
        · rw [decide_eq_false hl] at tt
          refine .inl ⟨tt, hm, t, some x, s6, rfl, nd, I, fun z e => ?_⟩
          cases e
          have := I.i3 x hx
          omega)
    40 _ (EA w hm t wt (.pl (.str x)) s6) (by omega) ⟨hm, t, some x, s6, rfl, nd, I, rfl⟩
  subst q2
  exact ⟨hm', t', cur', s6', q1, q3⟩
theorem asked_ok (ok : w.Ok) : ∃ hm : Mt, f_asked [pD w, qD w] = some (mD hm) ∧ (ks hm).Nodup ∧ Best w (lk hm) := by
  have h1 := ok.l1
  obtain ⟨e', q1, hm, t, cur, s5, s6, q2, nd, I, hc⟩ := whileL_run (t := bOf (cCall oNe [cVar 4, cCall oLst []])) (g := sSeq (sPop 4 5) (sSeq (whileL 40 aT aB) (sNil))) (W := [])
    (fun n env => ∃ hm t cur wt s5 s6, env = EA w hm t wt s5 s6 ∧ (ks hm).Nodup ∧ Inv w (lk hm) t cur wt ∧ (∀ z, cur = some z → t z = (w.P z).length) ∧ wt.length = n)
    (fun env => ∃ hm t cur s5 s6, env = EA w hm t [] s5 s6 ∧ (ks hm).Nodup ∧ Inv w (lk hm) t cur [] ∧ (∀ z, cur = some z → t z = (w.P z).length))
    (fun n env hR => by
      obtain ⟨hm, t, cur, wt, s5, s6, rfl, nd, I, hc, hn⟩ := hR
      have tt : bOf (cCall oNe [cVar 4, cCall oLst []]) (EA w hm t wt s5 s6) [] = some (!wt.isEmpty, []) := fwB (k := .im) (fw2 rfl fwLst0 (strs_nnil _ _ _))
      cases wt with
      | nil => exact .inl ⟨tt, hm, t, cur, s5, s6, rfl, nd, I, hc⟩
      | cons x wt =>
        obtain ⟨hm', t', cur', s6', r1, r2, r3, r4⟩ := inner_ok ok (s6 := s6) nd (I.pop hc)
        refine .inr ⟨tt, EA w hm' t' wt (.pl (optD cur')) s6', wt.length, by rw [← hn]; exact Nat.lt_succ_self _, end_of (ru_seq (e1 := EA w hm t wt (.pl (.str x)) s6) (W1 := []) rfl (ru_seq r1 (ru_nil rfl))), hm', t', cur', wt, _, s6', rfl, r2, r3, r4, rfl⟩)
    40 _ (EA w [] (fun _ => 0) (sortS w.ns) .no .no) (by rw [sortS_len]; omega) ⟨[], fun _ => 0, none, sortS w.ns, .no, .no, rfl, List.nodup_nil, Inv.start ok (sortS_perm _), fun z e => (nomatch e), rfl⟩
  subst q2
  refine ⟨hm, ?_, nd, I.best hc⟩
  show PX.runF 7 2 g_asked _ = _
  refine runF_of rfl ?_
  show Runs g_asked [.pl (pD w), .pl (qD w), .no, .no, .no, .no, .no] [] _
  unfold g_asked
  refine ru_par (k1 := .fr) (W1 := []) rfl rfl (fw1 (fwLcD (ns := w.ns) (fun x => .tuple [.str x, .int 0]) rfl rfl (by omega) fun x hx => ⟨_, .im, rfl, fwTup2 rfl rfl fwK rfl, rfl⟩) (dict_S ok.nd (fun _ => .int 0) _)) rfl ?_
  refine ru_set (fw1 rfl (sortPD _ _ _)) rfl ?_
  refine ru_seq q1 ?_
  exact ru_retO rfl rfl ⟨_, rfl⟩
end K39

set_option maxHeartbeats 2000000
namespace K39
open PySem PX
/-! ### sorting -/
variable {w : Wd} {m : Mt}
def srt {α : Type} (enc : α → PyData) (xs : List α) : List α := xs.mergeSort fun a b => PySem.W.dataLe false id (enc a) (enc b)
theorem srt_perm {α : Type} (enc : α → PyData) (xs : List α) : (srt enc xs).Perm xs := List.mergeSort_perm _ _
theorem srt_pw {α : Type} (enc : α → PyData) (xs : List α) : (srt enc xs).Pairwise fun a b => PySem.W.dataLe false id (enc a) (enc b) = true := by
  have T := PySem.W.sortLe_total (PyProof.Rows.listOrd PyProof.Rows.itemOrd) false (fun a : α => PySem.W.keyToks (enc a))
  exact List.pairwise_mergeSort (le := fun a b : α => PySem.W.dataLe false id (enc a) (enc b)) (fun a b c h1 h2 => T.trans a b c h1 h2) (fun a b => by rw [Bool.or_eq_true]; exact T.total a b) xs
theorem sortD_srt {α : Type} (enc : α → PyData) (xs : List α) : sortD (xs.map enc) = (srt enc xs).map enc := by
  unfold sortD srt
  rw [List.map_mergeSort]
  intro a _ b _
  rfl
theorem srt_one {α : Type} (enc : α → PyData) : ∀ {xs : List α}, xs.length ≤ 1 → srt enc xs = xs
  | [], _ => List.perm_nil.mp (srt_perm enc [])
  | [x], _ => List.perm_singleton.mp (srt_perm enc [x])
theorem sortB_srt {α : Type} (enc : α → PyData) (xs : List α) (hf : ∀ a ∈ xs, flat (enc a) = true) (ha : ∀ a b, PySem.W.alike (enc a) (enc b) = true) (hn : ∀ a ∈ xs, tupNe (enc a) = true) : sortB (xs.map enc) = true := by
  unfold sortB
  rw [Bool.and_eq_true, Bool.and_eq_true, Bool.or_eq_true]
  refine ⟨?_, ?_, .inl ?_⟩
  · rw [List.all_map]
    exact List.all_eq_true.mpr fun x hx => hf x hx
  · unfold alikeB
    rw [List.all_map]
    refine List.all_eq_true.mpr fun a _ => ?_
    show ((xs.map enc).all fun e => PySem.W.alike (enc a) e) = true
    rw [List.all_map]
    exact List.all_eq_true.mpr fun b _ => ha a b
  · rw [List.all_map]
    exact List.all_eq_true.mpr fun x hx => hn x hx
theorem alike_pr (a b : Str × Str) : PySem.W.alike (prD a) (prD b) = true := by simp [PySem.W.alike, prD, PySem.W.alikeAll]
theorem flat_pr (a : Str × Str) : flat (prD a) = true := flat_D (α := Str × Str) (by decide) a
theorem sortB_pr (m : Mt) : sortB (m.map prD) = true := sortB_srt prD m (fun a _ => flat_pr a) alike_pr fun a _ => rfl
theorem sortedPr (m : Mt) (k : Kd) : oSorted [(.list (m.map prD), k)] = some (.list ((srt prD m).map prD), .fr) := by
  show (if sortB (m.map prD) then _ else _) = _
  rw [if_pos (sortB_pr m), sortD_srt]
theorem le_pr {a b : Str × Str} (h : PySem.W.dataLe false id (prD a) (prD b) = true) : leS a.1 b.1 := by
  have h : (!PySem.W.dataLt (prD b) (prD a)) = true := h
  unfold prD at h
  rw [PySem.W.dataLt_pair (by simp [PySem.W.alike]) (by simp [PySem.W.alike]), eqv_str] at h
  by_cases e : b.1 = a.1
  · rw [e]
    exact List.le_refl _
  · rw [decide_eq_false e, if_neg Bool.false_ne_true] at h
    exact (le_str a.1 b.1).mp h
/-- sorted by the keys -/
theorem srt_keys (m : Mt) : (ks (srt prD m)).Pairwise leS := by
  unfold ks
  rw [List.pairwise_map]
  exact (srt_pw prD m).imp fun h => le_pr h
theorem lk_perm {a b : Mt} (p : a.Perm b) (nd : (ks a).Nodup) (x : Str) : lk a x = lk b x := by
  have nb : (ks b).Nodup := (p.map _).nodup_iff.mp nd
  cases e : lk a x with
  | some y => exact (lk_of nb (p.mem_iff.mp (lk_mem e))).symm
  | none =>
    have := lk_none.mp e
    exact (lk_none.mpr fun h => this ((p.map _).mem_iff.mpr h)).symm
/-- two matches with keys in their order and the same pairs are the same -/
theorem mt_eq {a b : Mt} (pa : (ks a).Pairwise leS) (pb : (ks b).Pairwise leS) (na : (ks a).Nodup) (nb : (ks b).Nodup) (h : ∀ p, p ∈ a ↔ p ∈ b) : a = b := by
  have na' : a.Nodup := List.Pairwise.of_map _ (fun _ _ ne e => ne (by rw [e])) na
  have nb' : b.Nodup := List.Pairwise.of_map _ (fun _ _ ne e => ne (by rw [e])) nb
  have p : a.Perm b := (List.perm_ext_iff_of_nodup na' nb').2 h
  refine List.Perm.eq_of_pairwise (le := fun x y => leS x.1 y.1) (fun x y hx hy h1 h2 => ?_) (List.pairwise_map.mp pa) (List.pairwise_map.mp pb) p
  have e := leS_antisymm h1 h2
  have q1 := lk_of na (show (x.1, x.2) ∈ a from hx)
  have q2 := lk_of na (show (y.1, y.2) ∈ a from (h _).mpr hy)
  rw [← e, q1] at q2
  exact Prod.ext e (Option.some.inj q2)
theorem filter_keys {a : Mt} (q : Str × Str → Bool) (pa : (ks a).Pairwise leS) (na : (ks a).Nodup) : (ks (a.filter q)).Pairwise leS ∧ (ks (a.filter q)).Nodup := by
  have s : (ks (a.filter q)).Sublist (ks a) := List.filter_sublist.map _
  exact ⟨pa.sublist s, na.sublist s⟩
theorem sub_sorted {a b : List Str} (na : a.Nodup) (nb : b.Nodup) (pa : a.Pairwise leS) (pb : b.Pairwise leS) (h : ∀ x ∈ a, x ∈ b) : a.Sublist b := by
  have e : a = b.filter fun x => decide (x ∈ a) := by
    refine List.Perm.eq_of_pairwise (fun x y _ _ h1 h2 => leS_antisymm h1 h2) pa (pb.filter _) ((List.perm_ext_iff_of_nodup na (nb.filter _)).2 fun x => ?_)
    rw [List.mem_filter, decide_eq_true_eq]
    exact ⟨fun hx => ⟨h x hx, hx⟩, fun hx => hx.2⟩
  rw [e]
  exact List.filter_sublist
/-! ### what asking gives to both sides -/
theorem sw_sw (m : Mt) : sw (sw m) = m := by
  unfold sw
  rw [List.map_map]
  exact List.map_id m
theorem mem_sw {m : Mt} {x y : Str} : (x, y) ∈ sw m ↔ (y, x) ∈ m := by
  unfold sw
  rw [List.mem_map]
  constructor
  · rintro ⟨p, hp, e⟩
    cases e
    exact hp
  · exact fun h => ⟨_, h, rfl⟩
/-- steady, by the pairs -/
structure Std (w : Wd) (m : Mt) : Prop where
  mat : MatL w m
  srt : (ks m).Pairwise leS
  st : Stable w (lk m) (lk (sw m))
theorem lk_sw (M : MatL w m) (x y : Str) : lk m x = some y ↔ lk (sw m) y = some x := by
  rw [lk_iff M.nd, lk_iff M.nv, mem_sw]
theorem stable_iff (M : MatL w m) : Stable w (lk m) (lk (sw m)) ↔ (blk w m).isEmpty = true := by
  have key : (blk w m).isEmpty = true ↔ ∀ x ∈ w.ns, ∀ y ∈ w.P x, bB w m x y = false := by
    unfold blk blkL blkX
    rw [List.isEmpty_iff, List.flatMap_eq_nil_iff]
    constructor
    · intro h x hx y hy
      have := h x (sortS_mem.mpr hx)
      rw [List.map_eq_nil_iff, List.filter_eq_nil_iff] at this
      have := this y (sortS_mem.mpr hy)
      rwa [Bool.not_eq_true] at this
    · intro h x hx
      rw [List.map_eq_nil_iff, List.filter_eq_nil_iff]
      intro y hy
      rw [h x (sortS_mem.mp hx) y (sortS_mem.mp hy)]
      exact Bool.false_ne_true
  rw [key]
  constructor
  · intro S x hx y hy
    rw [← Bool.not_eq_true]
    intro hb
    unfold bB pairB at hb
    simp only [Bool.and_eq_true, decide_eq_true_eq] at hb
    exact S.st x hx y hy hb.1.2 hb.2.1 hb.2.2
  · intro h
    refine ⟨fun x y e => mat_lk M e, fun x y => lk_sw M x y, fun x hx y hy hq l1 l2 => ?_⟩
    have := h x hx y hy
    unfold bB pairB at this
    rw [decide_eq_true hy, decide_eq_true hq, l1, l2] at this
    cases this
/-- every match in its order is among all -/
theorem every_mem (w : Wd) : ∀ (xs : List Str) (rows : List Mt) (m0 m1 : Mt), m0 ∈ rows → (ks m1).Sublist xs → MatL w (m0 ++ m1) → m0 ++ m1 ∈ xs.foldl (step w) rows
  | [], rows, m0, m1, h, hs, M => by
    have : m1 = [] := by
      have := List.sublist_nil.mp hs
      exact List.map_eq_nil_iff.mp this
    subst this
    rw [List.append_nil]
    exact h
  | x :: xs, rows, m0, m1, h, hs, M => by
    rcases List.sublist_cons_iff.mp hs with hs | ⟨r, e, hr⟩
    · exact every_mem w xs (step w rows x) m0 m1 (List.mem_append_left _ h) hs M
    · cases m1 with
      | nil => cases e
      | cons p m1 =>
        obtain ⟨e1, e2⟩ := List.cons.inj (show p.1 :: ks m1 = x :: r from e)
        have eq : m0 ++ p :: m1 = (m0 ++ [p]) ++ m1 := by rw [List.append_assoc]; rfl
        rw [eq] at M ⊢
        have mp := M.ok p (by simp)
        refine every_mem w xs (step w rows x) (m0 ++ [p]) m1 (List.mem_append_right _ ?_) (e2 ▸ hr) M
        refine List.mem_flatMap.mpr ⟨m0, h, List.mem_map.mpr ⟨p.2, List.mem_filter.mpr ⟨e1 ▸ mp.2.1, ?_⟩, by rw [← e1]⟩⟩
        unfold extB
        rw [Bool.and_eq_true, decide_eq_true_eq, Bool.not_eq_true', decide_eq_false_iff_not]
        refine ⟨e1 ▸ mp.2.2, fun hv => ?_⟩
        have nv := M.nv
        rw [sw_app, ks_app, sw_app, ks_app, List.append_assoc] at nv
        exact (List.nodup_append.mp nv).2.2 p.2 hv p.2 (by simp [sw, ks]) rfl
theorem mem_every (ok : w.Ok) (M : MatL w m) (s : (ks m).Pairwise leS) : m ∈ every w := by
  have := every_mem w (sortS w.ns) [[]] [] m List.mem_cons_self (sub_sorted M.nd (sortS_nodup ok.nd) s (sortS_pw _) fun x hx => by
    obtain ⟨p, hp, rfl⟩ := List.mem_map.mp hx
    exact sortS_mem.mpr (M.ok p hp).1) M
  rwa [List.nil_append] at this
theorem every_srt (ok : w.Ok) (h : m ∈ every w) : (ks m).Pairwise leS := (sortS_pw w.ns).sublist (every_ok ok h).sub
def good (w : Wd) : List Mt := (every w).filter fun m => (blk w m).isEmpty
theorem good_iff (ok : w.Ok) : m ∈ good w ↔ Std w m := by
  unfold good
  rw [List.mem_filter]
  constructor
  · rintro ⟨h1, h2⟩
    have M := (every_ok ok h1).mat
    exact ⟨M, every_srt ok h1, (stable_iff M).mpr h2⟩
  · rintro ⟨M, s, S⟩
    exact ⟨mem_every ok M s, (stable_iff M).mp S⟩
/-- the dict of asking, turned -/
def firstM (hm : Mt) : Mt := srt prD (sw hm)
def lastM (hm : Mt) : Mt := srt prD hm
theorem first_std (ok : w.Ok) {hm : Mt} (nd : (ks hm).Nodup) (b : Best w (lk hm)) : Std w (firstM hm) ∧ ∀ x g, lk (firstM hm) x = some g ↔ lk hm g = some x := by
  have p : (firstM hm).Perm (sw hm) := srt_perm _ _
  have nv : (ks (sw hm)).Nodup := by
    rw [ks_sw]
    refine List.pairwise_map.mpr ?_
    refine List.Pairwise.imp_of_mem (fun {x y} hx hy ne e => ?_) (List.pairwise_map.mp nd)
    have q1 := lk_of nd (show (x.1, x.2) ∈ hm from hx)
    have q2 := lk_of nd (show (y.1, y.2) ∈ hm from hy)
    rw [← e] at q2
    exact ne (b.b2 _ _ _ q1 q2)
  have nf : (ks (firstM hm)).Nodup := (p.map _).nodup_iff.mpr nv
  have hl : ∀ x g, lk (firstM hm) x = some g ↔ lk hm g = some x := fun x g => by
    rw [lk_iff nf, p.mem_iff, mem_sw, lk_iff nd]
  have nvf : (ks (sw (firstM hm))).Nodup := by
    have p2 : (sw (firstM hm)).Perm hm := by
      have := p.map fun q : Str × Str => (q.2, q.1)
      rw [show (sw hm).map (fun q : Str × Str => (q.2, q.1)) = hm from sw_sw hm] at this
      exact this
    exact (p2.map _).nodup_iff.mpr nd
  have M : MatL w (firstM hm) := ⟨nf, nvf, fun q hq => b.b1 _ _ ((hl q.1 q.2).mp (lk_of nf hq))⟩
  have S := b.b3 (lk (firstM hm)) hl
  refine ⟨⟨M, srt_keys _, ?_⟩, hl⟩
  have e : lk (sw (firstM hm)) = lk hm := by
    funext g
    cases e : lk hm g with
    | some x => exact (lk_sw M x g).mp ((hl x g).mpr e)
    | none =>
      cases e2 : lk (sw (firstM hm)) g with
      | none => rfl
      | some x =>
        rw [(hl x g).mp ((lk_sw M x g).mpr e2)] at e
        cases e
  rw [e]
  exact S
theorem last_std (ok : w.Ok) {hm : Mt} (nd : (ks hm).Nodup) (b : Best w.swap (lk hm)) : Std w (lastM hm) ∧ ∀ x, lk (lastM hm) x = lk hm x := by
  have p : (lastM hm).Perm hm := srt_perm _ _
  have nl : (ks (lastM hm)).Nodup := (p.map _).nodup_iff.mpr nd
  have hl : ∀ x, lk (lastM hm) x = lk hm x := lk_perm p nl
  have psw : (sw (lastM hm)).Perm (sw hm) := p.map _
  have nv : (ks (sw hm)).Nodup := by
    rw [ks_sw]
    refine List.pairwise_map.mpr ?_
    refine List.Pairwise.imp_of_mem (fun {x y} hx hy ne e => ?_) (List.pairwise_map.mp nd)
    have q1 := lk_of nd (show (x.1, x.2) ∈ hm from hx)
    have q2 := lk_of nd (show (y.1, y.2) ∈ hm from hy)
    rw [← e] at q2
    exact ne (b.b2 _ _ _ q1 q2)
  have nvl : (ks (sw (lastM hm))).Nodup := (psw.map _).nodup_iff.mpr nv
  have M : MatL w (lastM hm) := ⟨nl, nvl, fun q hq => by
    have e := lk_of nl (show (q.1, q.2) ∈ lastM hm from hq)
    rw [hl] at e
    obtain ⟨a1, a2, a3⟩ := b.b1 _ _ e
    have a1 : q.2 ∈ w.gs := a1
    have a2 : q.1 ∈ w.Q q.2 := a2
    exact ⟨(ok.q _ a1).2 _ a2, a3, a2⟩⟩
  have S := b.b3 (lk (sw (lastM hm))) fun y x => by rw [← hl x]; exact (lk_sw M x y).symm
  have S2 := S.swap ok.swap
  refine ⟨⟨M, srt_keys _, ?_⟩, hl⟩
  have e : lk (lastM hm) = lk hm := funext hl
  rw [e]
  exact S2
end K39

set_option maxHeartbeats 2000000
namespace K39
open PySem PX
variable {w : Wd} {m hm : Mt}
/-! ### the defs that ask -/
theorem first_ok (nv : (ks (firstM hm)).Nodup) (nd : (ks hm).Nodup) (hf : f_asked [pD w, qD w] = some (mD hm)) (hl : hm.length ≤ 100) : f_asked_first [pD w, qD w] = some (mD (firstM hm)) := by
  show PX.runF 4 2 g_asked_first _ = _
  refine runF_of rfl ?_
  show Runs g_asked_first [.pl (pD w), .pl (qD w), .no, .no] [] _
  unfold g_asked_first
  refine ru_set (fwF2 rfl rfl rfl rfl hf) rfl ?_
  have e : (sw hm).map prD = hm.map fun p => prD (p.2, p.1) := by
    unfold sw
    rw [List.map_map]
    rfl
  have e2 : (ks hm).map PyData.str = hm.map fun p => PyData.str p.1 := by
    unfold ks
    rw [List.map_map]
    rfl
  have lc : cLc (iKey 2) (gN 3) kTrue (cCall oTup [cCall oIx [cVar 2, cVar 3], cVar 3]) [3] [.pl (pD w), .pl (qD w), .pl (mD hm), .no] [] = some (.list ((sw hm).map prD), .fr, []) :=
    fwLc rfl (fwKeyM rfl (by omega)) rfl (by
      rw [e, e2]
      exact lcL_map (fun p : Str × Str => PyData.str p.1) (fun p => prD (p.2, p.1)) hm fun p hp => ⟨_, .im, rfl, fwTup2 (fw2 rfl rfl (ixM (lk_of nd hp) _ _)) rfl rfl rfl, rfl⟩)
  exact ru_ret (k := .fr) (W1 := []) (fw1 (fw1 lc (sortedPr _ _)) (dictP nv _)) rfl ⟨_, rfl⟩
theorem offered_ok (nd : (ks hm).Nodup) (hf : f_asked [qD w, pD w] = some (mD hm)) : f_offered_first [pD w, qD w] = some (mD (lastM hm)) := by
  show PX.runF 4 2 g_offered_first _ = _
  refine runF_of rfl ?_
  show Runs g_offered_first [.pl (pD w), .pl (qD w), .no, .no] [] _
  unfold g_offered_first
  refine ru_set (fwF2 rfl rfl rfl rfl hf) rfl ?_
  have p : (lastM hm).Perm hm := srt_perm _ _
  have nl : (ks (lastM hm)).Nodup := (p.map _).nodup_iff.mpr nd
  have e : sortS (ks hm) = ks (lastM hm) := sortS_of (p.map _) (srt_keys hm)
  have e2 : (ks (lastM hm)).map PyData.str = (lastM hm).map fun p => PyData.str p.1 := by
    unfold ks
    rw [List.map_map]
    rfl
  have lc : cLc (iSeq (cCall oSorted [cVar 2])) (gN 3) kTrue (cCall oTup [cVar 3, cCall oIx [cVar 2, cVar 3]]) [3] [.pl (pD w), .pl (qD w), .pl (mD hm), .no] [] = some (.list ((lastM hm).map prD), .fr, []) :=
    fwLc rfl (fwSeqF (fw1 rfl (sortedM _ _))) rfl (by
      rw [e, e2]
      exact lcL_map (fun p : Str × Str => PyData.str p.1) prD (lastM hm) fun q hq => ⟨_, .im, rfl, fwTup2 rfl rfl (fw2 rfl rfl (ixM (lk_of nd (p.mem_iff.mp hq)) _ _)) rfl, rfl⟩)
  exact ru_ret (k := .fr) (W1 := []) (fw1 lc (dictP nl _)) rfl ⟨_, rfl⟩
/-! ### all steady matches -/
def tupD (m : Mt) : PyData := .tuple (m.map prD)
theorem flat_tup (m : Mt) : flat (tupD m) = true := flat_D (α := PySem.W.Tup (Str × Str)) (by decide) ⟨m⟩
theorem alike_tup (u v : Mt) : PySem.W.alike (tupD u) (tupD v) = true := by
  unfold tupD
  rw [PySem.W.alike]
  induction u generalizing v with
  | nil => simp [PySem.W.alikeAll]
  | cons a u ih =>
    cases v with
    | nil => simp [PySem.W.alikeAll]
    | cons b v =>
      rw [List.map_cons, List.map_cons, PySem.W.alikeAll, ih v, alike_pr]
      rfl
theorem step_nd (ok : w.Ok) {x : Str} (hx : x ∈ w.ns) {rows : List Mt} (nd : rows.Nodup) (hk : ∀ m ∈ rows, x ∉ ks m) : (step w rows x).Nodup := by
  unfold step
  refine List.nodup_append.mpr ⟨nd, ?_, fun a ha b hb e => ?_⟩
  · unfold extM
    refine List.pairwise_flatMap.mpr ⟨fun m hm => ?_, ?_⟩
    · unfold extY
      refine List.pairwise_map.mpr (List.Pairwise.imp (fun {y z} ne e => ne ?_) ((ok.p x hx).1.filter _))
      have := (List.append_inj' e rfl).2
      have := List.cons.inj this
      exact (Prod.mk.inj this.1).2
    · refine nd.imp fun {m1 m2} ne a ha b hb e => ne ?_
      unfold extY at ha hb
      obtain ⟨y, _, rfl⟩ := List.mem_map.mp ha
      obtain ⟨z, _, rfl⟩ := List.mem_map.mp hb
      exact (List.append_inj' e rfl).1
  · subst e
    obtain ⟨m0, h0, h1⟩ := List.mem_flatMap.mp hb
    unfold extY at h1
    obtain ⟨y, _, e⟩ := List.mem_map.mp h1
    refine hk a ha ?_
    rw [← e, ks_app]
    exact List.mem_append_right _ (by simp [ks])
theorem rows_nd (ok : w.Ok) : ∀ (xs done : List Str) (rows : List Mt), (done ++ xs).Nodup → (∀ x ∈ xs, x ∈ w.ns) → rows.Nodup → (∀ m ∈ rows, RowOk w done m) → (xs.foldl (step w) rows).Nodup
  | [], done, rows, _, _, nd, _ => nd
  | x :: xs, done, rows, hn, hx, nd, hr => by
    have hxd : x ∉ done := fun hd => by
      rw [List.nodup_append] at hn
      exact hn.2.2 x hd x (by simp) rfl
    have h1 := step_nd ok (hx x List.mem_cons_self) nd fun m hm hk => hxd ((hr m hm).sub.subset hk)
    refine rows_nd ok xs (done ++ [x]) (step w rows x) (by rw [List.append_assoc]; exact hn) (fun z hz => hx z (List.mem_cons_of_mem _ hz)) h1 fun m hm => ?_
    have := rowsL_ok ok [x] done rows (by
      have : (done ++ [x]).Sublist (done ++ x :: xs) := (List.Sublist.refl done).append (List.Sublist.cons_cons x (List.nil_sublist xs))
      exact hn.sublist this) (fun z hz => hx z (by rw [List.mem_singleton.mp hz]; exact List.mem_cons_self)) hr m hm
    exact this
theorem every_nd (ok : w.Ok) : (every w).Nodup :=
  rows_nd ok (sortS w.ns) [] [[]] (sortS_nodup ok.nd) (fun x hx => sortS_mem.mp hx) (List.pairwise_singleton _ _) fun m hm => by rw [List.mem_singleton.mp hm]; exact ⟨nil_ok, List.Sublist.refl _⟩
/-- what is known of the match by asking -/
structure Fst (w : Wd) (fm : Mt) : Prop where
  std : Std w fm
  best : ∃ h, Best w h ∧ ∀ x g, lk fm x = some g ↔ h g = some x
theorem good_ks (ok : w.Ok) {fm : Mt} (F : Fst w fm) (hg : m ∈ good w) : ks m = ks fm := by
  have S := (good_iff ok).mp hg
  obtain ⟨h, b, hα⟩ := F.best
  have hs := same_have ok b hα S.st
  refine List.Perm.eq_of_pairwise (fun x y _ _ h1 h2 => leS_antisymm h1 h2) S.srt F.std.srt ((List.perm_ext_iff_of_nodup S.mat.nd F.std.mat.nd).2 fun x => ?_)
  have := hs x
  rw [lk_some, lk_some] at this
  exact decide_eq_decide.mp this
theorem sortedG (ok : w.Ok) {fm : Mt} (F : Fst w fm) (k : Kd) : oSortedZ [(.list ((good w).map tupD), k)] = some (.list ((srt tupD (good w)).map tupD), .fr) := by
  show (if ((good w).map tupD).length ≤ 1 then some (PyData.list ((good w).map tupD), Kd.fr) else oSorted [(.list ((good w).map tupD), k)]) = _
  rw [List.length_map]
  by_cases hl : (good w).length ≤ 1
  · rw [if_pos hl, srt_one tupD hl]
  · rw [if_neg hl]
    have hne : ∀ m ∈ good w, tupNe (tupD m) = true := fun m hm => by
      cases m with
      | cons a r => rfl
      | nil =>
        exfalso
        have e := good_ks ok F hm
        have all : ∀ m' ∈ good w, m' = [] := fun m' hm' => by
          have e' := good_ks ok F hm'
          rw [← e] at e'
          exact List.map_eq_nil_iff.mp e'
        have nd := (every_nd ok).filter fun m => (blk w m).isEmpty
        exact hl (nodup_le (a := good w) (b := [[]]) nd fun m' hm' => by rw [all m' hm']; exact List.mem_cons_self)
    show (if sortB ((good w).map tupD) then _ else _) = _
    rw [if_pos (sortB_srt tupD (good w) (fun a _ => flat_tup a) alike_tup hne), sortD_srt]
theorem sortI_ok {env : SEnv} {W : List Int} {i : Nat} (h : env[i]? = some (.pl (mD m))) (hs : (ks m).Pairwise leS) (nd : (ks m).Nodup) : cSortI (cVar i) env W = some (.list (m.map prD), .fr, W) := by
  have e : itemsD (mE m) = m.map prD := by
    unfold itemsD mE
    rw [List.map_map]
    rfl
  have e2 : srt prD m = m := by
    have p := srt_perm prD m
    exact mt_eq (srt_keys m) hs ((p.map _).nodup_iff.mpr nd) nd fun q => p.mem_iff
  unfold cSortI
  rw [fwVar h, Option.bind_some]
  show (if isT (mE m) = false ∧ sortB (itemsD (mE m)) = true then some (PyData.list (sortD (itemsD (mE m))), Kd.fr, W) else none) = _
  rw [e, if_pos ⟨isT_m m, sortB_pr m⟩, sortD_srt, e2]
theorem all_steady_ok (ok : w.Ok) {fm : Mt} (F : Fst w fm) : f_all_steady [pD w, qD w] = some (.tuple ((srt tupD (good w)).map tupD)) := by
  show PX.runF 4 2 g_all_steady _ = _
  refine runF_of rfl ?_
  show Runs g_all_steady [.pl (pD w), .pl (qD w), .no, .no] [] _
  unfold g_all_steady
  refine ru_set (k := .fr) (W1 := []) (fwLc rfl (fwSeqL (fwF2 rfl rfl rfl rfl (all_matches_ok ok))) rfl (lcL_fm mD (fun m => (blk w m).isEmpty) mD (every w) fun m hm => ⟨_, rfl, fwB (k := .im) (fwF3 rfl rfl rfl rfl rfl rfl (steady_ok ok (every_ok ok hm).mat)), fun _ => ⟨.im, rfl, rfl⟩⟩)) rfl ?_
  show Runs _ [.pl (pD w), .pl (qD w), .pl (.list ((good w).map mD)), .no] [] _
  refine ru_ret (k := .im) (W1 := []) (fw1 (fw1 (fwLc rfl (fwSeqL rfl) rfl (lcL_map mD tupD (good w) fun m hm => ?_)) (sortedG ok F _)) rfl) rfl ⟨_, rfl⟩
  have S := (good_iff ok).mp hm
  exact ⟨_, .im, rfl, fw1 (sortI_ok rfl S.srt S.mat.nd) rfl, rfl⟩
def sureM (w : Wd) (a : Mt) : Mt := a.filter fun p => (good w).all fun m => decide (p ∈ m)
theorem sure_eq (ok : w.Ok) {a b : Mt} (ha : a ∈ good w) (hb : b ∈ good w) : sureM w a = sureM w b := by
  have A := (good_iff ok).mp ha
  have B := (good_iff ok).mp hb
  have f1 := filter_keys (fun p => (good w).all fun m => decide (p ∈ m)) A.srt A.mat.nd
  have f2 := filter_keys (fun p => (good w).all fun m => decide (p ∈ m)) B.srt B.mat.nd
  refine mt_eq f1.1 f2.1 f1.2 f2.2 fun p => ?_
  unfold sureM
  rw [List.mem_filter, List.mem_filter]
  constructor
  · rintro ⟨_, h⟩
    exact ⟨of_decide_eq_true (List.all_eq_true.mp h b hb), h⟩
  · rintro ⟨_, h⟩
    exact ⟨of_decide_eq_true (List.all_eq_true.mp h a ha), h⟩
theorem boolsOf_map (bs : List Bool) : boolsOf (bs.map PyData.bool) = some bs := by
  induction bs with
  | nil => rfl
  | cons b r ih => rw [List.map_cons, boolsOf, ih]; rfl
theorem allBs (bs : List Bool) (k : Kd) : oAll [(.list (bs.map PyData.bool), k)] = some (.bool (bs.all id), .im) := by
  show (boolsOf _).map _ = _
  rw [boolsOf_map]
  rfl
theorem inPr (p : Str × Str) (m : Mt) (k k' : Kd) : oIn [(prD p, k), (tupD m, k')] = some (.bool (decide (p ∈ m)), .im) :=
  (ev_inT (α := Str × Str) (by decide) p m k k').trans (congrArg (fun b => some (PyData.bool b, Kd.im)) (decide_eq_decide.mpr Iff.rfl))
theorem sure_ok (ok : w.Ok) {fm : Mt} (F : Fst w fm) : f_sure_pairs [pD w, qD w] = some (tupD (sureM w fm)) := by
  show PX.runF 5 2 g_sure_pairs _ = _
  refine runF_of rfl ?_
  show Runs g_sure_pairs [.pl (pD w), .pl (qD w), .no, .no, .no] [] _
  unfold g_sure_pairs
  refine ru_set (fwF2 rfl rfl rfl rfl (all_steady_ok ok F)) rfl ?_
  have hp := srt_perm tupD (good w)
  have hf : fm ∈ good w := (good_iff ok).mpr F.std
  cases hs : srt tupD (good w) with
  | nil =>
    rw [hs] at hp
    have := hp.mem_iff.mpr hf
    cases this
  | cons g0 gr =>
    have h0 : g0 ∈ good w := hp.mem_iff.mp (by rw [hs]; exact List.mem_cons_self)
    rw [sure_eq ok hf h0]
    show Runs _ [.pl (pD w), .pl (qD w), .pl (.tuple (tupD g0 :: gr.map tupD)), .no, .no] [] _
    refine ru_ret (k := .im) (W1 := []) (fw1 (d1 := .list ((sureM w g0).map prD)) (k1 := .fr) (fwLc rfl (fwSeqT (ds := g0.map prD) (fw2 rfl fwK (fwIx0T _ _))) rfl ?_) rfl) rfl ⟨_, rfl⟩
    refine lcL_fm prD (fun p => (good w).all fun m => decide (p ∈ m)) prD g0 fun p hp0 => ⟨_, rfl, ?_, fun _ => ⟨.im, rfl, rfl⟩⟩
    have lc : cLc (iSeq (cVar 2)) (gN 4) kTrue (cCall oIn [cVar 3, cVar 4]) [4] [.pl (pD w), .pl (qD w), .pl (.tuple ((g0 :: gr).map tupD)), .pl (prD p), .no] [] = some (.list (((g0 :: gr).map fun m => decide (p ∈ m)).map PyData.bool), .fr, []) :=
      fwLc rfl (fwSeqT rfl) rfl (by
        rw [List.map_map]
        exact lcL_map tupD (fun m => PyData.bool (decide (p ∈ m))) (g0 :: gr) fun m _ => ⟨_, .im, rfl, fw2 rfl rfl (inPr p m _ _), rfl⟩)
    have e : ((g0 :: gr).map fun m => decide (p ∈ m)).all id = (good w).all fun m => decide (p ∈ m) := by
      rw [← hs, List.all_map, Bool.eq_iff_iff, List.all_eq_true, List.all_eq_true]
      exact ⟨fun h m hm => h m (hp.mem_iff.mpr hm), fun h m hm => h m (hp.mem_iff.mp hm)⟩
    rw [← e]
    exact fwB (k := .im) (fw1 lc (allBs _ _))
theorem left_ok {fm : Mt} (hf : f_asked_first [pD w, qD w] = some (mD fm)) : f_left_without [pD w, qD w] = some (S ((sortS w.ns).filter fun x => !decide (x ∈ ks fm))) := by
  show PX.runF 4 2 g_left_without _ = _
  refine runF_of rfl ?_
  show Runs g_left_without [.pl (pD w), .pl (qD w), .no, .no] [] _
  unfold g_left_without
  refine ru_set (fwF2 rfl rfl rfl rfl hf) rfl ?_
  exact ru_ret (k := .im) (W1 := []) (fw1 (fwLc rfl (fwSeqF (fw1 rfl (sortPD _ _ _))) rfl (lcL_fm PyData.str (fun x => !decide (x ∈ ks fm)) PyData.str (sortS w.ns) fun x hx => ⟨_, rfl, fwB (k := .im) (fw2 rfl rfl (niM _ _ _ _)), fun _ => ⟨.im, rfl, rfl⟩⟩)) rfl) rfl ⟨_, rfl⟩
theorem best_ok {fm : Mt} (hf : f_asked_first [pD w, qD w] = some (mD fm)) (x : Str) : f_best_for [pD w, qD w, .str x] = some (optD (lk fm x)) := by
  show PX.runF 3 3 g_best_for _ = _
  refine runF_of rfl ?_
  show Runs g_best_for [.pl (pD w), .pl (qD w), .pl (.str x)] [] _
  unfold g_best_for
  exact ru_ret (k := .im) (W1 := []) (fw2 (fwF2 rfl rfl rfl rfl hf) rfl (getM _ _ _ _)) rfl ⟨_, rfl⟩
end K39

set_option maxHeartbeats 2000000
namespace K39
open PySem PX
variable {w : Wd} {m hm : Mt}
/-! ### which values are matches -/
theorem isiStr (x : Str) (k : Kd) : oIsi "str" [(.str x, k)] = some (.bool true, .im) := by simp [oIsi, noD0, isiD, tyD]
theorem isiInt (x : Int) (k : Kd) : oIsi "str" [(.int x, k)] = some (.bool false, .im) := by simp [oIsi, noD0, isiD, tyD]
theorem isiNon (k : Kd) : oIsi "str" [(.none, k)] = some (.bool false, .im) := by simp [oIsi, noD0, isiD, tyD]
theorem isiDt {es : List (PyData × PyData)} (h : isT es = false) (k : Kd) : oIsiDict [(.dict es, k)] = some (.bool true, .im) := by
  show (dictIs (.dict es)).map _ = _
  unfold dictIs
  dsimp only
  rw [if_pos h]
  rfl
def isM (w : Wd) (m : Mt) : Bool := (ks m).all (fun x => decide (x ∈ w.ns)) && (m.all (fun p => pairB w p.1 p.2) && decide ((ddL (ks (sw m))).length = m.length))
abbrev mT1 : Ct := kOr (kNot (bOf (cCall oIsiDict [cVar 2]))) (kNot (bOf (cCall oAll [cLc (iKey 2) (gN 3) (kTrue) (cAnd (cCall (oIsi "str") [cVar 3]) (cCall oIn [cVar 3, cVar 0])) [3]])))
abbrev mT2 : Ct := kNot (bOf (cCall oAll [cLc (iKey 2) (gN 3) (kTrue) (cAnd (cCall (oIsi "str") [cCall oIx [cVar 2, cVar 3]]) (cFn f_is_pair [cVar 0, cVar 1, cVar 3, cCall oIx [cVar 2, cVar 3]])) [3]]))
theorem mT1_S {es : List (PyData × PyData)} {xs : List Str} (h : isT es = false) (hk : keysD es = xs.map PyData.str) (hl : es.length ≤ 100) : mT1 [.pl (pD w), .pl (qD w), .pl (.dict es), .no] [] = some (!(xs.all fun x => decide (x ∈ w.ns)), []) := by
  have u1 : bOf (cCall oIsiDict [cVar 2]) [.pl (pD w), .pl (qD w), .pl (.dict es), .no] [] = some (true, []) := fwB (k := .im) (fw1 rfl (isiDt h _))
  have lc : cLc (iKey 2) (gN 3) (kTrue) (cAnd (cCall (oIsi "str") [cVar 3]) (cCall oIn [cVar 3, cVar 0])) [3] [.pl (pD w), .pl (qD w), .pl (.dict es), .no] [] = some (.list (xs.map fun x => PyData.bool (decide (x ∈ w.ns))), .fr, []) := by
    refine fwLc rfl (ds := xs.map PyData.str) (k := .im) (W1 := []) ?_ rfl (lcL_map PyData.str (fun x => PyData.bool (decide (x ∈ w.ns))) xs fun x _ => ⟨_, .im, rfl, ?_, rfl⟩)
    · show (if isT es = false ∧ es.length ≤ 16777216 then some (keysD es, Kd.im, ([] : List Int)) else none) = _
      rw [if_pos ⟨h, by omega⟩, hk]
    · have := fwCAnd (b := true) (c := decide (x ∈ w.ns)) (f := cCall (oIsi "str") [cVar 3]) (g := cCall oIn [cVar 3, cVar 0]) (env := [.pl (pD w), .pl (qD w), .pl (.dict es), .pl (.str x)]) (W := []) (W1 := []) (k1 := .im) (fw1 rfl (isiStr _ _)) fun _ => fw2 rfl rfl (inPD _ _ _ _ _)
      exact this
  have u2 : bOf (cCall oAll [cLc (iKey 2) (gN 3) (kTrue) (cAnd (cCall (oIsi "str") [cVar 3]) (cCall oIn [cVar 3, cVar 0])) [3]]) [.pl (pD w), .pl (qD w), .pl (.dict es), .no] [] = some (xs.all fun x => decide (x ∈ w.ns), []) := fwB (k := .im) (fw1 lc (allBo _ _ _))
  have := fwOr (fwNot u1) fun _ => fwNot u2
  rwa [show (!true) = false from rfl, Bool.false_or] at this
theorem isM_ok (ok : w.Ok) (nd : (ks m).Nodup) (hl : m.length ≤ 100) : f_is_match [pD w, qD w, mD m] = some (.bool (isM w m)) := by
  show PX.runF 4 3 g_is_match _ = _
  refine runF_of rfl ?_
  show Runs g_is_match [.pl (pD w), .pl (qD w), .pl (mD m), .no] [] _
  unfold g_is_match
  have t1 := mT1_S (w := w) (xs := ks m) (isT_m m) (keysD_m m) (by unfold mE; rw [List.length_map]; exact hl)
  unfold isM
  cases h1 : (ks m).all fun x => decide (x ∈ w.ns) with
  | false =>
    rw [h1] at t1
    exact ru_ifT t1 (ru_assoc (ru_ret fwK rfl ⟨_, rfl⟩))
  | true =>
    rw [h1] at t1
    refine ru_pass t1 ?_
    have hn : ∀ p ∈ m, p.1 ∈ w.ns := fun p hp => of_decide_eq_true (List.all_eq_true.mp h1 p.1 (List.mem_map.mpr ⟨p, hp, rfl⟩))
    have e2 : (ks m).map PyData.str = m.map fun p => PyData.str p.1 := by
      unfold ks
      rw [List.map_map]
      rfl
    have lc : cLc (iKey 2) (gN 3) (kTrue) (cAnd (cCall (oIsi "str") [cCall oIx [cVar 2, cVar 3]]) (cFn f_is_pair [cVar 0, cVar 1, cVar 3, cCall oIx [cVar 2, cVar 3]])) [3] [.pl (pD w), .pl (qD w), .pl (mD m), .no] [] = some (.list (m.map fun p => PyData.bool (pairB w p.1 p.2)), .fr, []) := by
      refine fwLc rfl (fwKeyM rfl (by omega)) rfl ?_
      rw [e2]
      refine lcL_map (fun p : Str × Str => PyData.str p.1) (fun p => PyData.bool (pairB w p.1 p.2)) m fun p hp => ⟨_, .im, rfl, ?_, rfl⟩
      have q : cCall oIx [cVar 2, cVar 3] [.pl (pD w), .pl (qD w), .pl (mD m), .pl (.str p.1)] [] = some (.str p.2, .im, []) := fw2 rfl rfl (ixM (lk_of nd hp) _ _)
      have := fwCAnd (b := true) (c := pairB w p.1 p.2) (f := cCall (oIsi "str") [cCall oIx [cVar 2, cVar 3]]) (g := cFn f_is_pair [cVar 0, cVar 1, cVar 3, cCall oIx [cVar 2, cVar 3]]) (env := [.pl (pD w), .pl (qD w), .pl (mD m), .pl (.str p.1)]) (W := []) (W1 := []) (k1 := .im) (fw1 q (isiStr _ _)) fun _ => by
        have pk := pair_ok ok (hn p hp) p.2
        unfold cFn cArgs cArgs cArgs cArgs
        simp [q, cVar, esc, pk, cArgs]
      exact this
    have t2 : mT2 [.pl (pD w), .pl (qD w), .pl (mD m), .no] [] = some (!(m.all fun p => pairB w p.1 p.2), []) := fwNot (fwB (k := .im) (fw1 lc (allBo _ _ _)))
    cases h2 : m.all fun p => pairB w p.1 p.2 with
    | false =>
      rw [h2] at t2
      exact ru_ifT t2 (ru_assoc (ru_ret fwK rfl ⟨_, rfl⟩))
    | true =>
      rw [h2] at t2
      refine ru_pass t2 ?_
      have lc3 : cLc (iKey 2) (gN 3) (kTrue) (cCall oIx [cVar 2, cVar 3]) [3] [.pl (pD w), .pl (qD w), .pl (mD m), .no] [] = some (.list ((ks (sw m)).map PyData.str), .fr, []) := by
        refine fwLc rfl (fwKeyM rfl (by omega)) rfl ?_
        rw [e2, ks_sw, List.map_map]
        exact lcL_map (fun p : Str × Str => PyData.str p.1) (fun p => PyData.str p.2) m fun p hp => ⟨_, .im, rfl, fw2 rfl rfl (ixM (lk_of nd hp) _ _), rfl⟩
      have hlen : (ks (sw m)).length ≤ 1000 := by rw [ks_sw, List.length_map]; omega
      have o1 : oLenSetS [(.list ((ks (sw m)).map PyData.str), .fr)] = some (.int ((ddL (ks (sw m))).length : Nat), .im) := by
        show ((strsOf _).bind fun ns => if ns.length ≤ 1000 then some (PyData.int ((ddL ns).length : Nat), Kd.im) else none) = _
        rw [strsOf_map, Option.bind_some, if_pos hlen]
      have e3 : (true && (true && decide ((ddL (ks (sw m))).length = m.length))) = decide (((ddL (ks (sw m))).length : Int) = (m.length : Nat)) := by
        rw [Bool.true_and, Bool.true_and]
        exact decide_eq_decide.mpr ⟨fun h => by omega, fun h => by omega⟩
      rw [e3]
      exact ru_ret (k := .im) (W1 := []) (fw2 (fw1 lc3 o1) (fw1 rfl (lenMt _ _)) (evI_eq _ _ _ _)) rfl ⟨_, rfl⟩
theorem isM_none : f_is_match [pD w, qD w, .none] = some (.bool false) := by
  show PX.runF 4 3 g_is_match _ = _
  refine runF_of rfl ?_
  show Runs g_is_match [.pl (pD w), .pl (qD w), .pl .none, .no] [] _
  unfold g_is_match
  have t1 : mT1 [.pl (pD w), .pl (qD w), .pl .none, .no] [] = some (true, []) := fwOr (b := true) (c := true) (fwNot (b := false) (fwB (k := .im) (fw1 rfl rfl))) fun z => absurd z (by decide)
  exact ru_ifT t1 (ru_assoc (ru_ret fwK rfl ⟨_, rfl⟩))
theorem isM_list (ds : List PyData) : f_is_match [pD w, qD w, .list ds] = some (.bool false) := by
  show PX.runF 4 3 g_is_match _ = _
  refine runF_of rfl ?_
  show Runs g_is_match [.pl (pD w), .pl (qD w), .pl (.list ds), .no] [] _
  unfold g_is_match
  have t1 : mT1 [.pl (pD w), .pl (qD w), .pl (.list ds), .no] [] = some (true, []) := fwOr (b := true) (c := true) (fwNot (b := false) (fwB (k := .im) (fw1 rfl rfl))) fun z => absurd z (by decide)
  exact ru_ifT t1 (ru_assoc (ru_ret fwK rfl ⟨_, rfl⟩))
theorem isM_int (i : Int) (v : PyData) : f_is_match [pD w, qD w, .dict [(.int i, v)]] = some (.bool false) := by
  show PX.runF 4 3 g_is_match _ = _
  refine runF_of rfl ?_
  show Runs g_is_match [.pl (pD w), .pl (qD w), .pl (.dict [(.int i, v)]), .no] [] _
  unfold g_is_match
  have u1 : bOf (cCall oIsiDict [cVar 2]) [.pl (pD w), .pl (qD w), .pl (.dict [(.int i, v)]), .no] [] = some (true, []) := fwB (k := .im) (fw1 rfl (isiDt rfl _))
  have lc : cLc (iKey 2) (gN 3) (kTrue) (cAnd (cCall (oIsi "str") [cVar 3]) (cCall oIn [cVar 3, cVar 0])) [3] [.pl (pD w), .pl (qD w), .pl (.dict [(.int i, v)]), .no] [] = some (.list [.bool false], .fr, []) := by
    refine fwLc rfl (ds := [.int i]) (k := .im) (W1 := []) rfl rfl (lcL_map (fun j : Int => PyData.int j) (fun _ => PyData.bool false) [i] fun j _ => ⟨_, .im, rfl, ?_, rfl⟩)
    have := fwCAnd (b := false) (c := false) (f := cCall (oIsi "str") [cVar 3]) (g := cCall oIn [cVar 3, cVar 0]) (env := [.pl (pD w), .pl (qD w), .pl (.dict [(.int i, v)]), .pl (.int j)]) (W := []) (W1 := []) (k1 := .im) (fw1 rfl (isiInt _ _)) fun z => absurd z (by decide)
    exact this
  have u2 : bOf (cCall oAll [cLc (iKey 2) (gN 3) (kTrue) (cAnd (cCall (oIsi "str") [cVar 3]) (cCall oIn [cVar 3, cVar 0])) [3]]) [.pl (pD w), .pl (qD w), .pl (.dict [(.int i, v)]), .no] [] = some (false, []) := fwB (k := .im) (fw1 lc rfl)
  have t1 : mT1 [.pl (pD w), .pl (qD w), .pl (.dict [(.int i, v)]), .no] [] = some (true, []) := fwOr (fwNot u1) fun _ => fwNot u2
  exact ru_ifT t1 (ru_assoc (ru_ret fwK rfl ⟨_, rfl⟩))
/-- names with None -/
def noneD (xs : List Str) : PyData := dS xs fun _ => .none
theorem isM_nones (ok : w.Ok) (hne : w.ns ≠ []) : f_is_match [pD w, qD w, noneD w.ns] = some (.bool false) := by
  have hl := ok.l1
  show PX.runF 4 3 g_is_match _ = _
  refine runF_of rfl ?_
  show Runs g_is_match [.pl (pD w), .pl (qD w), .pl (noneD w.ns), .no] [] _
  unfold g_is_match
  have t1 := mT1_S (w := w) (xs := w.ns) (isT_S w.ns fun _ => PyData.none) (keysD_S w.ns fun _ => PyData.none) (by rw [List.length_map]; omega)
  have h1 : (w.ns.all fun x => decide (x ∈ w.ns)) = true := List.all_eq_true.mpr fun x hx => decide_eq_true hx
  rw [h1] at t1
  refine ru_pass t1 ?_
  have lc : cLc (iKey 2) (gN 3) (kTrue) (cAnd (cCall (oIsi "str") [cCall oIx [cVar 2, cVar 3]]) (cFn f_is_pair [cVar 0, cVar 1, cVar 3, cCall oIx [cVar 2, cVar 3]])) [3] [.pl (pD w), .pl (qD w), .pl (noneD w.ns), .no] [] = some (.list (w.ns.map fun _ => PyData.bool ((fun _ => false) ())), .fr, []) := by
    refine fwLcD (ns := w.ns) (fun _ => PyData.bool false) rfl rfl (by omega) fun x hx => ⟨_, .im, rfl, ?_, rfl⟩
    have q : cCall oIx [cVar 2, cVar 3] [.pl (pD w), .pl (qD w), .pl (noneD w.ns), .pl (.str x)] [] = some (.none, .im, []) := fw2 rfl rfl (ixD _ hx _ _)
    have := fwCAnd (b := false) (c := false) (f := cCall (oIsi "str") [cCall oIx [cVar 2, cVar 3]]) (g := cFn f_is_pair [cVar 0, cVar 1, cVar 3, cCall oIx [cVar 2, cVar 3]]) (env := [.pl (pD w), .pl (qD w), .pl (noneD w.ns), .pl (.str x)]) (W := []) (W1 := []) (k1 := .im) (fw1 q (isiNon _)) fun z => absurd z (by decide)
    exact this
  have h2 : (w.ns.all fun _ => false) = false := by
    cases hw : w.ns with
    | nil => exact absurd hw hne
    | cons a r => rfl
  have t2 : mT2 [.pl (pD w), .pl (qD w), .pl (noneD w.ns), .no] [] = some (true, []) := fwNot (b := false) (fwB (k := .im) (fw1 lc ((allBo (fun _ => false) w.ns _).trans (by rw [h2]))))
  exact ru_ifT t2 (ru_assoc (ru_ret fwK rfl ⟨_, rfl⟩))
/-! ### in the list of all matches -/
def eqM (a b : Mt) : Bool := decide (a.length = b.length) && a.all fun p => decide (lk b p.1 = some p.2)
theorem allO_map {α : Type} (f : α → Bool) : ∀ xs : List α, allO (xs.map fun a => some (f a)) = some (xs.all f)
  | [] => rfl
  | a :: xs => by
    rw [List.map_cons, allO, allO_map f xs]
    rfl
theorem deqM (a b : Mt) : deq 8 (mD a) (mD b) = some (eqM a b) := by
  have n1 : flat (mD a) = false := rfl
  unfold deq
  rw [n1, Bool.false_and, if_neg Bool.false_ne_true]
  show (if isT (mE a) = false ∧ isT (mE b) = false then (if (mE a).length = (mE b).length then allO ((mE a).map fun e => match dget (mE b) e.1 with | none => some false | some y => deq 7 e.2 y) else some false) else none) = _
  rw [if_pos ⟨isT_m a, isT_m b⟩]
  unfold eqM
  have l1 : (mE a).length = a.length := by unfold mE; rw [List.length_map]
  have l2 : (mE b).length = b.length := by unfold mE; rw [List.length_map]
  rw [l1, l2]
  by_cases h : a.length = b.length
  · rw [if_pos h, decide_eq_true h, Bool.true_and]
    have e : (mE a).map (fun e => match dget (mE b) e.1 with | none => some false | some y => deq 7 e.2 y) = a.map fun p => some (decide (lk b p.1 = some p.2)) := by
      show (a.map fun p => ((PyData.str p.1, PyData.str p.2) : PyData × PyData)).map _ = _
      rw [List.map_map]
      refine List.map_congr_left fun p _ => ?_
      show (match dget (mE b) (.str p.1) with | none => some false | some y => deq 7 (.str p.2) y) = _
      rw [dget_m]
      cases e : lk b p.1 with
      | none => exact congrArg some (decide_eq_false fun z => by cases z).symm
      | some y =>
        show deq 7 (.str p.2) (.str y) = _
        unfold deq
        have f1 : flat (.str p.2) = true := flat_D (α := Str) (by decide) p.2
        have f2 : flat (.str y) = true := flat_D (α := Str) (by decide) y
        rw [f1, f2, Bool.true_and, if_pos rfl, eqv_str]
        exact congrArg some (decide_eq_decide.mpr ⟨fun h => by rw [h], fun h => (Option.some.inj h).symm⟩)
    rw [e, allO_map]
  · rw [if_neg h, decide_eq_false h, Bool.false_and]
theorem anyD_map {x : PyData} (f : Mt → Bool) : ∀ {ms : List Mt}, (∀ m ∈ ms, deq2 (mD m) x = some (f m)) → anyD (ms.map mD) x = some (ms.any f)
  | [], _ => rfl
  | m :: ms, h => by
    rw [List.map_cons, anyD, h m List.mem_cons_self, Option.bind_some, anyD_map f fun m' hm' => h m' (List.mem_cons_of_mem _ hm')]
    rfl
theorem any_false {α : Type} (xs : List α) : xs.any (fun _ => false) = false := by induction xs with | nil => rfl | cons a r ih => exact ih
theorem eqM_self (nd : (ks m).Nodup) : eqM m m = true := by
  unfold eqM
  rw [decide_eq_true rfl, Bool.true_and]
  exact List.all_eq_true.mpr fun p hp => decide_eq_true (lk_of nd hp)
theorem isM_iff (nd : (ks m).Nodup) : isM w m = true ↔ MatL w m := by
  unfold isM pairB
  simp only [Bool.and_eq_true, List.all_eq_true, decide_eq_true_eq]
  have hlen : (ks (sw m)).length = m.length := by rw [ks_sw, List.length_map]
  constructor
  · rintro ⟨h1, h2, h3⟩
    refine ⟨nd, ?_, fun p hp => ⟨h1 p.1 (List.mem_map.mpr ⟨p, hp, rfl⟩), (h2 p hp).1, (h2 p hp).2⟩⟩
    have key : ∀ (xs acc : List Str), acc.Nodup → (xs.foldl ddStep acc).length = acc.length + xs.length → (acc ++ xs).Nodup := by
      intro xs
      induction xs with
      | nil => intro acc h _; rw [List.append_nil]; exact h
      | cons x xs ih =>
        intro acc ha hl
        rw [List.foldl_cons] at hl
        have hle := ddL_le xs (ddStep acc x)
        by_cases hx : x ∈ acc
        · have hs : ddStep acc x = acc := if_pos hx
          rw [hs] at hl hle
          rw [List.length_cons] at hl
          omega
        · have hs : ddStep acc x = acc ++ [x] := if_neg hx
          rw [hs] at hl hle
          have := ih (acc ++ [x]) (List.nodup_append.mpr ⟨ha, List.pairwise_singleton _ _, fun a h b hb => by rw [List.mem_singleton.mp hb]; exact fun e => hx (e ▸ h)⟩) (by rw [hl, List.length_append, List.length_cons, List.length_cons, List.length_nil]; omega)
          rw [List.append_assoc] at this
          exact this
    have := key (ks (sw m)) [] .nil (by
      show (ddL (ks (sw m))).length = 0 + _
      rw [h3, hlen, Nat.zero_add])
    rwa [List.nil_append] at this
  · intro M
    refine ⟨fun x hx => ?_, fun p hp => ⟨(M.ok p hp).2.1, (M.ok p hp).2.2⟩, by rw [ddL_id M.nv, hlen]⟩
    obtain ⟨p, hp, rfl⟩ := List.mem_map.mp hx
    exact (M.ok p hp).1
theorem any_isM (ok : w.Ok) (nd : (ks m).Nodup) : (every w).any (fun r => eqM r m) = isM w m := by
  rw [Bool.eq_iff_iff, List.any_eq_true, isM_iff nd]
  constructor
  · rintro ⟨r, hr, he⟩
    have R := (every_ok ok hr).mat
    unfold eqM at he
    simp only [Bool.and_eq_true, List.all_eq_true, decide_eq_true_eq] at he
    obtain ⟨hl, ha⟩ := he
    have sub : ∀ p ∈ r, p ∈ m := fun p hp => lk_mem (ha p hp)
    have nr : r.Nodup := List.Pairwise.of_map _ (fun _ _ ne e => ne (by rw [e])) R.nd
    have nm : m.Nodup := List.Pairwise.of_map _ (fun _ _ ne e => ne (by rw [e])) nd
    have back := nodup_eq nm nr sub (by omega)
    have p : r.Perm m := (List.perm_ext_iff_of_nodup nr nm).2 fun q => ⟨sub q, back q⟩
    exact ⟨nd, ((p.map _).map _).nodup_iff.mp R.nv, fun q hq => R.ok q (back q hq)⟩
  · intro M
    have p := srt_perm prD m
    have nr : (ks (srt prD m)).Nodup := (p.map _).nodup_iff.mpr nd
    have R : MatL w (srt prD m) := ⟨nr, ((p.map _).map _).nodup_iff.mpr M.nv, fun q hq => M.ok q (p.mem_iff.mp hq)⟩
    refine ⟨srt prD m, mem_every ok R (srt_keys m), ?_⟩
    unfold eqM
    rw [decide_eq_true p.length_eq, Bool.true_and]
    exact List.all_eq_true.mpr fun q hq => decide_eq_true (lk_of nd (p.mem_iff.mp hq))
theorem inEv (ok : w.Ok) (nd : (ks m).Nodup) (k k' : Kd) : oInD [(mD m, k), (.list ((every w).map mD), k')] = some (.bool (isM w m), .im) := by
  show (anyD _ _).map _ = _
  rw [anyD_map (x := mD m) (fun r => eqM r m) fun r _ => deqM r m, any_isM ok nd]
  rfl
theorem niGood (ok : w.Ok) (hm : m ∈ good w) (k k' : Kd) : oNotInD [(mD m, k), (.list ((good w).map mD), k')] = some (.bool false, .im) := by
  show (anyD _ _).map _ = _
  rw [anyD_map (x := mD m) (fun r => eqM r m) fun r _ => deqM r m]
  have : (good w).any (fun r => eqM r m) = true := List.any_eq_true.mpr ⟨m, hm, eqM_self ((good_iff ok).mp hm).mat.nd⟩
  rw [this]
  rfl
theorem inEv_none (k k' : Kd) : oInD [(.none, k), (.list ((every w).map mD), k')] = some (.bool false, .im) := by
  show (anyD _ _).map _ = _
  rw [anyD_map (fun _ => false) fun r _ => by show (if isT (mE r) = false then some false else none) = _; rw [if_pos (isT_m r)], any_false]
  rfl
theorem inEv_list (ds : List PyData) (k k' : Kd) : oInD [(.list ds, k), (.list ((every w).map mD), k')] = some (.bool false, .im) := by
  show (anyD _ _).map _ = _
  rw [anyD_map (fun _ => false) fun r _ => by show (if isT (mE r) = false then some false else none) = _; rw [if_pos (isT_m r)], any_false]
  rfl
theorem deq_other {r : Mt} {fs : List (PyData × PyData)} (hT : isT fs = false) (hne : fs.length ≠ 0) (hk : ∀ p ∈ r, (match dget fs (.str p.1) with | none => some false | some y => deq 7 (.str p.2) y) = some false) : deq 8 (mD r) (.dict fs) = some false := by
  have n1 : flat (mD r) = false := rfl
  unfold deq
  rw [n1, Bool.false_and, if_neg Bool.false_ne_true]
  show (if isT (mE r) = false ∧ isT fs = false then (if (mE r).length = fs.length then allO ((mE r).map fun e => match dget fs e.1 with | none => some false | some y => deq 7 e.2 y) else some false) else none) = _
  rw [if_pos ⟨isT_m r, hT⟩]
  have l1 : (mE r).length = r.length := by unfold mE; rw [List.length_map]
  by_cases h : (mE r).length = fs.length
  · rw [if_pos h]
    have e : (mE r).map (fun e => match dget fs e.1 with | none => some false | some y => deq 7 e.2 y) = r.map fun _ => some ((fun _ : Str × Str => false) ("", "")) := by
      show (r.map fun p => ((PyData.str p.1, PyData.str p.2) : PyData × PyData)).map _ = _
      rw [List.map_map]
      exact List.map_congr_left fun p hp => hk p hp
    rw [e, allO_map (fun _ => false)]
    cases r with
    | nil =>
      rw [l1] at h
      exact absurd h.symm hne
    | cons a r => rfl
  · rw [if_neg h]
theorem inEv_int (i : Int) (v : PyData) (k k' : Kd) : oInD [(.dict [(.int i, v)], k), (.list ((every w).map mD), k')] = some (.bool false, .im) := by
  show (anyD _ _).map _ = _
  rw [anyD_map (x := .dict [(.int i, v)]) (fun _ => false) fun r _ => deq_other (r := r) (fs := [(.int i, v)]) rfl (Nat.succ_ne_zero 0) fun p _ => ?_, any_false]
  · rfl
  · have : dget [(PyData.int i, v)] (.str p.1) = none := by
      unfold dget
      rw [List.find?_cons_of_neg (by simp [PyData.eqv])]
      rfl
    rw [this]
theorem inEv_nones (hne : w.ns ≠ []) (k k' : Kd) : oInD [(noneD w.ns, k), (.list ((every w).map mD), k')] = some (.bool false, .im) := by
  show (anyD _ _).map _ = _
  rw [anyD_map (x := noneD w.ns) (fun _ => false) fun r _ => deq_other (r := r) (fs := w.ns.map fun x => (PyData.str x, PyData.none)) (isT_S w.ns fun _ => PyData.none) (by rw [List.length_map]; exact fun h => hne (List.eq_nil_of_length_eq_zero h)) fun p _ => ?_, any_false]
  · rfl
  · rw [dget_S (fun _ => PyData.none)]
    by_cases h : p.1 ∈ w.ns
    · rw [if_pos h]
      show deq 7 (.str p.2) .none = some false
      unfold deq
      have f1 : flat (.str p.2) = true := flat_D (α := Str) (by decide) p.2
      rw [f1, show flat .none = true from rfl, Bool.true_and, if_pos rfl]
      simp [PyData.eqv]
    · rw [if_neg h]
end K39

set_option maxHeartbeats 2000000
namespace K39
open PySem PX
/-! ### rows that are drawn -/
theorem whileL_draw {t : Ct} {g : Sx} (R : Nat → SEnv → Prop) (End : SEnv → Prop) (st : ∀ n env W, R n env → (t env W = some (false, W) ∧ End env) ∨ (t env W = some (true, W) ∧ ∃ e2 W2 k, k < n ∧ g env W = some (.nx e2 W2) ∧ R k e2)) : ∀ (N n : Nat) (env : SEnv) (W : List Int), n < N → R n env → ∃ e' W', whileL N t g env W = some (.nx e' W') ∧ End e'
  | 0, n, env, W, h, _ => absurd h (Nat.not_lt_zero _)
  | N + 1, n, env, W, h, hr => by
    rcases st n env W hr with ⟨h1, h2⟩ | ⟨h1, e2, W2, k, h2, h3, h4⟩
    · exact ⟨env, W, fwWhileF h1, h2⟩
    · obtain ⟨e', W', q1, q2⟩ := whileL_draw R End st N k e2 W2 (by omega) h4
      exact ⟨e', W', (fwWhileT h1 h3).trans q1, q2⟩
theorem addSL (a b : List Str) (h : a.length + b.length ≤ 1000) (k k' : Kd) : oAdd [(.list (a.map PyData.str), k), (.list (b.map PyData.str), k')] = some (.list ((a ++ b).map PyData.str), .fr) := by
  show (if (a.map PyData.str).length + (b.map PyData.str).length ≤ 16777216 then some (PyData.list (a.map PyData.str ++ b.map PyData.str), Kd.fr) else none) = _
  rw [if_pos (by rw [List.length_map, List.length_map]; omega), List.map_append]
abbrev rB : Sx := sSeq (sSet 4 false (cCall oIx [cVar 2, cNext 0 (cCall oLen [cVar 2])])) (sSeq (sSet 2 false (cLc (iSeq (cVar 2)) (gN 5) (bOf (cCall oNe [cVar 5, cVar 4])) (cVar 5) [5])) (sSeq (sSet 3 false (cCall oAdd [cVar 3, cIf (bOf (cCall oGt [cNext 0 (cK (.int 5)), cK (.int 0)])) (cCall oLst [cVar 4]) (cCall oLst [])])) (sNil)))
theorem rB_ok (p : PySem.Addr) (d : PyData) (left found : List Str) (s4 : Sl) (W : List Int) (hl : left ≠ []) (hf : found.length ≤ 10) (hll : left.length ≤ 10) : ∃ x ∈ left, ∃ (b : Bool) (W' : List Int), rB [.wd p, .pl d, .pl (.list (left.map PyData.str)), .pl (.list (found.map PyData.str)), s4, .no] W = some (.nx [.wd p, .pl d, .pl (.list ((left.filter fun y => !decide (y = x)).map PyData.str)), .pl (.list ((found ++ if b = true then [x] else []).map PyData.str)), .pl (.str x), .no] W') := by
  have hpos : 0 < left.length := List.length_pos_iff.mpr hl
  have bd := nx_bd W (m := left.length) (by omega)
  have hlt : (nx W left.length).toNat < left.length := by omega
  refine ⟨left[(nx W left.length).toNat], List.getElem_mem hlt, decide (0 < nx W.tail 5), W.tail.tail, end_of ?_⟩
  have e1 : cCall oIx [cVar 2, cNext 0 (cCall oLen [cVar 2])] [.wd p, .pl d, .pl (.list (left.map PyData.str)), .pl (.list (found.map PyData.str)), s4, .no] W = some (.str left[(nx W left.length).toNat], .im, W.tail) := by
    refine fw2 rfl (fwNext rfl (fw1 rfl (lenML _ _ _)) (by omega)) ?_
    have := fwIxNL (ds := left.map PyData.str) (n := (nx W left.length).toNat) (d := .str left[(nx W left.length).toNat]) (by rw [List.getElem?_map, List.getElem?_eq_getElem hlt]; rfl) .im .im
    rw [show (((nx W left.length).toNat : Nat) : Int) = nx W left.length by omega] at this
    exact this
  generalize left[(nx W left.length).toNat] = x at e1 ⊢
  refine ru_set e1 rfl ?_
  refine ru_set (k := .fr) (W1 := W.tail) (fwLc rfl (fwSeqL rfl) rfl (lcL_fm PyData.str (fun y => !decide (y = x)) PyData.str left fun y hy => ⟨_, rfl, fwB (k := .im) (fw2 rfl rfl (neStr _ _ _ _)), fun _ => ⟨.im, rfl, rfl⟩⟩)) rfl ?_
  show Runs _ [.wd p, .pl d, .pl (.list ((left.filter fun y => !decide (y = x)).map PyData.str)), .pl (.list (found.map PyData.str)), .pl (.str x), .no] W.tail _
  have t : bOf (cCall oGt [cNext 0 (cK (.int 5)), cK (.int 0)]) [.wd p, .pl d, .pl (.list ((left.filter fun y => !decide (y = x)).map PyData.str)), .pl (.list (found.map PyData.str)), .pl (.str x), .no] W.tail = some (decide (0 < nx W.tail 5), W.tail.tail) := fwB (k := .im) (fw2 (fwNext rfl fwK (by decide)) fwK (gtI _ _ _ _))
  cases hb : decide (0 < nx W.tail 5) with
  | true =>
    rw [hb] at t
    exact ru_set (fw2 rfl (fwIfT t (fwLst1 rfl rfl)) (addSL found [x] (by simp; omega) _ _)) rfl (ru_nil rfl)
  | false =>
    rw [hb] at t
    exact ru_set (fw2 rfl (fwIfF t fwLst0) (addSL found [] (by simp; omega) _ _)) rfl (ru_nil rfl)
theorem law_row_ok (p : PySem.Addr) (xs : List Str) (nd : xs.Nodup) (hl : xs.length ≤ 3) (W : List Int) : ∃ (row : List Str) (W' : List Int), f__law_row p [.list (xs.map PyData.str)] W = some (RS row, W') ∧ row.Nodup ∧ ∀ y ∈ row, y ∈ xs := by
  obtain ⟨e', W', q1, left, found, s4, q2, q3, q4⟩ := whileL_draw (t := bOf (cCall oNe [cVar 2, cCall oLst []])) (g := rB)
    (fun n env => ∃ (left found : List Str) (s4 : Sl), env = [.wd p, .pl (.list (xs.map PyData.str)), .pl (.list (left.map PyData.str)), .pl (.list (found.map PyData.str)), s4, .no] ∧ left.length = n ∧ left.Nodup ∧ (∀ y ∈ left, y ∈ xs) ∧ found.Nodup ∧ (∀ y ∈ found, y ∈ xs ∧ y ∉ left))
    (fun env => ∃ (left found : List Str) (s4 : Sl), env = [.wd p, .pl (.list (xs.map PyData.str)), .pl (.list (left.map PyData.str)), .pl (.list (found.map PyData.str)), s4, .no] ∧ found.Nodup ∧ (∀ y ∈ found, y ∈ xs))
    (fun n env W hR => by
      obtain ⟨left, found, s4, rfl, hn, h1, h2, h3, h4⟩ := hR
      have tt : bOf (cCall oNe [cVar 2, cCall oLst []]) [.wd p, .pl (.list (xs.map PyData.str)), .pl (.list (left.map PyData.str)), .pl (.list (found.map PyData.str)), s4, .no] W = some (!left.isEmpty, W) := fwB (k := .im) (fw2 rfl fwLst0 (strs_nnil _ _ _))
      by_cases he : left = []
      · subst he
        exact .inl ⟨tt, [], found, s4, rfl, h3, fun y hy => (h4 y hy).1⟩
      · have e : (!left.isEmpty) = true := by
          cases left with
          | nil => exact absurd rfl he
          | cons a r => rfl
        rw [e] at tt
        have hfl := nodup_le h3 fun y hy => (h4 y hy).1
        have hll := nodup_le h1 h2
        obtain ⟨x, hx, b, W2, q⟩ := rB_ok p (.list (xs.map PyData.str)) left found s4 W he (by omega) (by omega)
        refine .inr ⟨tt, _, W2, (left.filter fun y => !decide (y = x)).length, ?_, q, _, _, _, rfl, rfl, h1.filter _, fun y hy => h2 y (List.mem_filter.mp hy).1, ?_, ?_⟩
        · rw [← hn]
          have := List.length_filter_lt_length_iff_exists (l := left) (p := fun y => !decide (y = x))
          exact this.mpr ⟨x, hx, by simp⟩
        · cases b with
          | false => rw [if_neg Bool.false_ne_true, List.append_nil]; exact h3
          | true =>
            rw [if_pos rfl]
            exact List.nodup_append.mpr ⟨h3, List.pairwise_singleton _ _, fun a ha c hc => by rw [List.mem_singleton.mp hc]; exact fun e => (h4 a ha).2 (e ▸ hx)⟩
        · intro y hy
          rcases List.mem_append.mp hy with hy | hy
          · exact ⟨(h4 y hy).1, fun z => (h4 y hy).2 (List.mem_filter.mp z).1⟩
          · cases b with
            | false => cases hy
            | true =>
              rw [if_pos rfl, List.mem_singleton] at hy
              subst hy
              exact ⟨h2 _ hx, fun z => by simpa using (List.mem_filter.mp z).2⟩)
    10 xs.length [.wd p, .pl (.list (xs.map PyData.str)), .pl (.list (xs.map PyData.str)), .pl (.list (([] : List Str).map PyData.str)), .no, .no] W (by omega) ⟨xs, [], .no, rfl, rfl, nd, fun y hy => hy, .nil, fun y hy => nomatch hy⟩
  subst q2
  refine ⟨found, W', ?_, q3, q4⟩
  have g : g__law_row (envW p 6 [.list (xs.map PyData.str)]) W = some (.nx [.wd p, .pl (.list (xs.map PyData.str)), .pl (.list (left.map PyData.str)), .pl (.list (found.map PyData.str)), s4, .no] W') := by
    show g__law_row [.wd p, .pl (.list (xs.map PyData.str)), .no, .no, .no, .no] W = _
    unfold g__law_row
    exact end_of (ru_par (k1 := .fr) (W1 := W) (fw1 rfl rfl) rfl fwLst0 rfl (ru_seq q1 (ru_nil rfl)))
  show runW 6 1 g__law_row e__law_row p [.list (xs.map PyData.str)] W = _
  unfold runW
  rw [if_pos (show [PyData.list (xs.map PyData.str)].length = 1 from rfl), g]
  show (if p = p then _ else none) = _
  rw [if_pos rfl]
  rfl
/-- a comprehension with draws: what is drawn for each -/
theorem lcL_drawF {α β : Type} [DecidableEq α] {t : Tg} {c : Ct} {e : Ex} {env : SEnv} (emb : α → PyData) (r : α → β → PyData) (Q : α → β → Prop) (b0 : β) : ∀ (xs : List α) (W : List Int), xs.Nodup → (∀ a ∈ xs, ∀ W, ∃ e1 b kd W', t (emb a) env = some e1 ∧ c e1 W = some (true, W) ∧ e e1 W = some (r a b, kd, W') ∧ esc kd = true ∧ Q a b) →
    ∃ (f : α → β) (W' : List Int), lcL t c e (xs.map emb) env W = some (xs.map fun a => r a (f a), W') ∧ ∀ a ∈ xs, Q a (f a)
  | [], W, _, _ => ⟨fun _ => b0, W, rfl, fun a ha => nomatch ha⟩
  | a :: xs, W, nd, h => by
    have nd' := List.nodup_cons.mp nd
    obtain ⟨e1, b, kd, W1, h1, h2, h3, h4, h5⟩ := h a List.mem_cons_self W
    obtain ⟨f, W', q1, q2⟩ := lcL_drawF emb r Q b0 xs W1 nd'.2 fun z hz => h z (List.mem_cons_of_mem _ hz)
    refine ⟨fun z => if z = a then b else f z, W', ?_, fun z hz => ?_⟩
    · rw [List.map_cons, lcL, h1, Option.bind_some, h2, Option.bind_some]
      dsimp only
      rw [if_pos rfl, h3, Option.bind_some]
      dsimp only
      rw [if_pos h4, q1]
      show some (r a b :: (xs.map fun a => r a (f a)), W') = some ((a :: xs).map fun z => r z (if z = a then b else f z), W')
      rw [List.map_cons, if_pos rfl]
      congr 3
      exact List.map_congr_left fun z hz => by rw [if_neg (show ¬ z = a from fun e => nd'.1 (e ▸ hz))]
    · rcases List.mem_cons.mp hz with rfl | hz
      · show Q z (if z = z then b else f z)
        rw [if_pos rfl]; exact h5
      · show Q z (if z = a then b else f z)
        rw [if_neg (show ¬ z = a from fun e => nd'.1 (e ▸ hz))]
        exact q2 z hz
end K39

set_option maxHeartbeats 4000000
namespace K39
noncomputable section
open PySem PX

def gTurn : Sx :=  sSeq (sAsg (cCall oTup [cSlice (cCall oLst [cK (.str "pia"), cK (.str "ned"), cK (.str "oda")]) none (some (cNext 1 (cK (.int 4)))), cSlice (cCall oLst [cK (.str "roy"), cK (.str "pot"), cK (.str "elf")]) none (some (cNext 1 (cK (.int 4))))]) (gT 2 (gsCons (gN 3) (gsCons (gN 4) (gsNil))))) (sSeq (sSet 5 false (cCall oDict [cLc (iSeq (cVar 3)) (gN 17) (kTrue) (cCall oTup [cVar 17, cFnW 1 f__law_row [cVar 4]]) [17]])) (sSeq (sSet 6 false (cCall oDict [cLc (iSeq (cVar 4)) (gN 18) (kTrue) (cCall oTup [cVar 18, cFnW 1 f__law_row [cVar 3]]) [18]])) (sSeq (sSet 7 false (cFn f__law_matches [cVar 5, cVar 6])) (sSeq (sSet 8 false (cCall oIx [cVar 7, cNext 1 (cCall oLen [cVar 7])])) (sSeq (sSet 9 false (cFn f__law_blocks [cVar 5, cVar 6, cVar 8])) (sSeq (sIf (kOr (bOf (cCall oIsNot [cFn f_is_match [cVar 5, cVar 6, cVar 8], cK (.bool true)])) (kOr (bOf (cCall oNe [cFn f_blocks [cVar 5, cVar 6, cVar 8], cCall oTuple [cVar 9]])) (bOf (cCall oNe [cFn f_is_steady [cVar 5, cVar 6, cVar 8], cCall oEq [cVar 9, cCall oLst []]])))) (sSeq (sRetK (cK (.bool false))) (sNil)) (sNil)) (sSeq (sSet 10 false (cLc (iSeq (cVar 7)) (gN 13) (bOf (cCall oEq [cFn f__law_blocks [cVar 5, cVar 6, cVar 13], cCall oLst []])) (cVar 13) [13])) (sSeq (sIf (bOf (cCall oNe [cFn f_all_steady [cVar 5, cVar 6], cCall oTuple [cCall oSortedZ [cLc (iSeq (cVar 10)) (gN 13) (kTrue) (cCall oTuple [cLc (iSeq (cCall oSorted [cVar 13])) (gN 17) (kTrue) (cCall oTup [cVar 17, cCall oIx [cVar 13, cVar 17]]) [17]]) [13]]]])) (sSeq (sRetK (cK (.bool false))) (sNil)) (sNil)) (sSeq (sAsg (cCall oTup [cFn f_asked_first [cVar 5, cVar 6], cFn f_offered_first [cVar 5, cVar 6]]) (gT 2 (gsCons (gN 11) (gsCons (gN 12) (gsNil))))) (sSeq (sIf (kOr (bOf (cCall oNotInD [cVar 11, cVar 10])) (bOf (cCall oNotInD [cVar 12, cVar 10]))) (sSeq (sRetK (cK (.bool false))) (sNil)) (sNil)) (sSeq (sFor (iSeq (cVar 10)) (gN 13) (sSeq (sIf (bOf (cCall oNe [cCall oSorted [cVar 13], cCall oSorted [cVar 11]])) (sSeq (sRetK (cK (.bool false))) (sNil)) (sNil)) (sSeq (sIf (bOf (cCall oNe [cLc (iKey 13) (gN 17) (kNot (bOf (cChain oLe oLe (cCall oIndexR [cCall oIx [cVar 5, cVar 17], cCall oIx [cVar 11, cVar 17]]) (cCall oIndexR [cCall oIx [cVar 5, cVar 17], cCall oIx [cVar 13, cVar 17]]) (cCall oIndexR [cCall oIx [cVar 5, cVar 17], cCall oIx [cVar 12, cVar 17]])))) (cVar 17) [17], cCall oLst []])) (sSeq (sRetK (cK (.bool false))) (sNil)) (sNil)) (sNil)))) (sSeq (sSet 14 false (cLc (iSeq (cCall oSorted [cVar 11])) (gN 17) (bOf (cCall oEqL [cLc (iSeq (cVar 10)) (gN 13) (bOf (cCall oNe [cCall oIx [cVar 13, cVar 17], cCall oIx [cVar 11, cVar 17]])) (cVar 13) [13], cCall oLst []])) (cCall oTup [cVar 17, cCall oIx [cVar 11, cVar 17]]) [17])) (sSeq (sIf (kOr (bOf (cCall oNe [cFn f_sure_pairs [cVar 5, cVar 6], cCall oTuple [cVar 14]])) (bOf (cCall oNe [cFn f_left_without [cVar 5, cVar 6], cCall oTuple [cLc (iSeq (cCall oSorted [cVar 3])) (gN 17) (bOf (cCall oNotIn [cVar 17, cVar 11])) (cVar 17) [17]]]))) (sSeq (sRetK (cK (.bool false))) (sNil)) (sNil)) (sSeq (sIf (bOf (cCall oNe [cLc (iSeq (cVar 3)) (gN 17) (bOf (cCall oNe [cFn f_best_for [cVar 5, cVar 6, cVar 17], cIf (bOf (cCall oIn [cVar 17, cVar 11])) (cCall oIx [cVar 11, cVar 17]) (cK .none)])) (cVar 17) [17], cCall oLst []])) (sSeq (sRetK (cK (.bool false))) (sNil)) (sNil)) (sSeq (sSet 15 false (cIf (bOf (cCall oNe [cVar 4, cCall oLst []])) (cCall oDict [cLc (iSeq (cVar 3)) (gN 17) (kTrue) (cCall oTup [cVar 17, cCall oIx [cVar 4, cNext 1 (cCall oLen [cVar 4])]]) [17]]) (cDnew))) (sSeq (sFor (iSeq (cCall oTup [cVar 15, cCall oList [cVar 8], cK .none, cCall oDict [cLc (iSeq (cVar 3)) (gN 17) (kTrue) (cCall oTup [cVar 17, cK .none]) [17]], cDisp [(cK (.str "zed"), cK (.str "roy"))], cDisp [(cK (.int 5), cK (.str "roy"))]])) (gN 16) (sSeq (sIf (bOf (cCall oNe [cFn f_is_match [cVar 5, cVar 6, cVar 16], cCall oInD [cVar 16, cVar 7]])) (sSeq (sRetK (cK (.bool false))) (sNil)) (sNil)) (sNil))) (sWipe [16] (sNil))))))))))))))))))
def R (p : PySem.Addr) (env : SEnv) : Prop := ∃ s2 s3 s4 s5 s6 s7 s8 s9 s10 s11 s12 s13 s14 s15 s16 s17 s18 : Sl, s13.own = false ∧ s17.own = false ∧ s18.own = false ∧ env = [.no, .wd p, s2, s3, s4, s5, s6, s7, s8, s9, s10, s11, s12, s13, s14, s15, s16, s17, s18]
/-- what is known of the drawn world -/
structure Cx (w : Wd) : Prop where
  ok : w.Ok
  zed : ("zed" : Str) ∉ w.ns
theorem ca_nil {env : SEnv} {W : List Int} : cArgs [] env W = some ([], W) := rfl
theorem ca_cons {env : SEnv} {W W1 W2 : List Int} {f : Ex} {fs : List Ex} {d : PyData} {k : Kd} {ds : List Dk} (e : f env W = some (d, k, W1)) (h : cArgs fs env W1 = some (ds, W2)) : cArgs (f :: fs) env W = some ((d, k) :: ds, W2) := by simp [cArgs, e, h]
theorem fwTupN {env : SEnv} {W W1 : List Int} {fs : List Ex} {ds : List Dk} (h : cArgs fs env W = some (ds, W1)) (hs : ds.all (fun t => esc t.2) = true) (hl : ds.length ≤ 1000) : cCall oTup fs env W = some (.tuple (ds.map (·.1)), .im, W1) := by
  unfold cCall
  rw [h, Option.bind_some]
  show (if ds.all (fun t => esc t.2) && decide (ds.length ≤ 1000) then some (PyData.tuple (ds.map (·.1)), Kd.im) else none).map (fun r => (r.1, r.2, W1)) = _
  rw [hs, decide_eq_true hl]
  rfl
theorem neBool (b : Bool) : oNe [(.bool b, .im), (.bool b, .im)] = some (.bool false, .im) := ne_same _ rfl _ _
theorem keys_pairs (ns : List Str) (f : Str → Str) : ks (ns.map fun a => (a, f a)) = ns := by
  unfold ks
  rw [List.map_map]
  exact List.map_id ns
theorem mixed_ok {w : Wd} (c : Cx w) (p : PySem.Addr) (s2 s3 s4 s5 s6 s7 s8 s9 s10 s11 s12 s13 s14 s15 s16 s17 s18 : Sl) (W : List Int) {m fm lm : Mt} (h13 : s13.own = false) (h17 : s17.own = false) (h18 : s18.own = false) : ∃ (mx : Mt) (W' : List Int), (ks mx).Nodup ∧ mx.length ≤ 3 ∧ (cIf (bOf (cCall oNe [cVar 4, cCall oLst []])) (cCall oDict [cLc (iSeq (cVar 3)) (gN 17) (kTrue) (cCall oTup [cVar 17, cCall oIx [cVar 4, cNext 1 (cCall oLen [cVar 4])]]) [17]]) (cDnew)) [.no, .wd p, s2, .pl (.list (w.ns.map PyData.str)), .pl (.list (w.gs.map PyData.str)), .pl (pD w), .pl (qD w), .pl (.list ((every w).map mD)), .pl (mD m), .pl (.list ((blk w m).map prD)), .pl (.list ((good w).map mD)), .pl (mD fm), .pl (mD lm), s13, .pl (.list ((sureM w fm).map prD)), s15, s16, s17, s18] W = some (mD mx, .fr, W') := by
  have t : (bOf (cCall oNe [cVar 4, cCall oLst []])) [.no, .wd p, s2, .pl (.list (w.ns.map PyData.str)), .pl (.list (w.gs.map PyData.str)), .pl (pD w), .pl (qD w), .pl (.list ((every w).map mD)), .pl (mD m), .pl (.list ((blk w m).map prD)), .pl (.list ((good w).map mD)), .pl (mD fm), .pl (mD lm), s13, .pl (.list ((sureM w fm).map prD)), s15, s16, s17, s18] W = some (!w.gs.isEmpty, W) := fwB (k := .im) (fw2 rfl fwLst0 (strs_nnil _ _ _))
  by_cases he : w.gs = []
  · refine ⟨[], W, .nil, Nat.zero_le _, ?_⟩
    rw [show (!w.gs.isEmpty) = false by rw [he]; rfl] at t
    exact fwIfF t rfl
  · have e : (!w.gs.isEmpty) = true := by
      cases hg : w.gs with
      | nil => exact absurd hg he
      | cons a r => rfl
    rw [e] at t
    have hpos : 0 < w.gs.length := List.length_pos_iff.mpr he
    obtain ⟨f, W', q1, _⟩ := lcL_drawF (t := gN 17) (c := kTrue) (e := cCall oTup [cVar 17, cCall oIx [cVar 4, cNext 1 (cCall oLen [cVar 4])]]) (env := wipeE [.no, .wd p, s2, .pl (.list (w.ns.map PyData.str)), .pl (.list (w.gs.map PyData.str)), .pl (pD w), .pl (qD w), .pl (.list ((every w).map mD)), .pl (mD m), .pl (.list ((blk w m).map prD)), .pl (.list ((good w).map mD)), .pl (mD fm), .pl (mD lm), s13, .pl (.list ((sureM w fm).map prD)), s15, s16, s17, s18] [17]) PyData.str (fun (a b : Str) => .tuple [.str a, .str b]) (fun _ _ => True) "" w.ns W c.ok.nd fun a ha W => by
      have bd := nx_bd W (m := w.gs.length) (by omega)
      have hlt : (nx W w.gs.length).toNat < w.gs.length := by omega
      refine ⟨_, w.gs[(nx W w.gs.length).toNat], .im, W.tail, rfl, rfl, fwTup2 (k1 := .im) (k2 := .im) (W1 := W) rfl rfl (fw2 rfl (fwNext rfl (fw1 rfl (lenML _ _ _)) (by omega)) ?_) rfl, rfl, trivial⟩
      have := fwIxNL (ds := w.gs.map PyData.str) (n := (nx W w.gs.length).toNat) (d := .str w.gs[(nx W w.gs.length).toNat]) (by rw [List.getElem?_map, List.getElem?_eq_getElem hlt]; rfl) .im .im
      rw [show (((nx W w.gs.length).toNat : Nat) : Int) = nx W w.gs.length by omega] at this
      exact this
    refine ⟨w.ns.map fun a => (a, f a), W', by rw [keys_pairs]; exact c.ok.nd, by rw [List.length_map]; exact c.ok.l1, ?_⟩
    have nd : (ks (w.ns.map fun a => (a, f a))).Nodup := by rw [keys_pairs]; exact c.ok.nd
    refine fwIfT t (fw1 (d1 := .list ((w.ns.map fun a => (a, f a)).map prD)) (k1 := .fr) (W1 := W') (fwLc (by show ((!s17.own) && true) = true; rw [h17]; rfl) (fwSeqL rfl) rfl (q1.trans ?_)) (dictP nd _))
    rw [List.map_map]
    rfl
def gE : Sx := sSeq (sSet 15 false (cIf (bOf (cCall oNe [cVar 4, cCall oLst []])) (cCall oDict [cLc (iSeq (cVar 3)) (gN 17) (kTrue) (cCall oTup [cVar 17, cCall oIx [cVar 4, cNext 1 (cCall oLen [cVar 4])]]) [17]]) (cDnew))) (sSeq (sFor (iSeq (cCall oTup [cVar 15, cCall oList [cVar 8], cK .none, cCall oDict [cLc (iSeq (cVar 3)) (gN 17) (kTrue) (cCall oTup [cVar 17, cK .none]) [17]], cDisp [(cK (.str "zed"), cK (.str "roy"))], cDisp [(cK (.int 5), cK (.str "roy"))]])) (gN 16) (sSeq (sIf (bOf (cCall oNe [cFn f_is_match [cVar 5, cVar 6, cVar 16], cCall oInD [cVar 16, cVar 7]])) (sSeq (sRetK (cK (.bool false))) (sNil)) (sNil)) (sNil))) (sWipe [16] (sNil)))
theorem partE (p : PySem.Addr) (s2 s3 s4 s5 s6 s7 s8 s9 s10 s11 s12 s13 s14 s15 s16 s17 s18 : Sl) (W : List Int) {w : Wd} (c : Cx w) {m : Mt} (hm : m ∈ every w) {fm lm : Mt} (h13 : s13.own = false) (h17 : s17.own = false) (h18 : s18.own = false) : Runs gE [.no, .wd p, s2, .pl (.list (w.ns.map PyData.str)), .pl (.list (w.gs.map PyData.str)), .pl (pD w), .pl (qD w), .pl (.list ((every w).map mD)), .pl (mD m), .pl (.list ((blk w m).map prD)), .pl (.list ((good w).map mD)), .pl (mD fm), .pl (mD lm), s13, .pl (.list ((sureM w fm).map prD)), s15, s16, s17, s18] W (Nxt (R p)) := by
  unfold gE
  have hml := mat_len c.ok (every_ok c.ok hm).mat
  have hnl := c.ok.l1
  obtain ⟨mx, W', nx1, nx2, nx3⟩ := mixed_ok c p s2 .no .no .no .no .no .no .no .no .no .no s13 .no s15 s16 s17 s18 W (m := m) (fm := fm) (lm := lm) h13 h17 h18
  refine ru_set nx3 rfl ?_
  show Runs _ [.no, .wd p, s2, .pl (.list (w.ns.map PyData.str)), .pl (.list (w.gs.map PyData.str)), .pl (pD w), .pl (qD w), .pl (.list ((every w).map mD)), .pl (mD m), .pl (.list ((blk w m).map prD)), .pl (.list ((good w).map mD)), .pl (mD fm), .pl (mD lm), s13, .pl (.list ((sureM w fm).map prD)), .pl (mD mx), s16, s17, s18] W' _
  have lcn : cLc (iSeq (cVar 3)) (gN 17) (kTrue) (cCall oTup [cVar 17, cK .none]) [17] [.no, .wd p, s2, .pl (.list (w.ns.map PyData.str)), .pl (.list (w.gs.map PyData.str)), .pl (pD w), .pl (qD w), .pl (.list ((every w).map mD)), .pl (mD m), .pl (.list ((blk w m).map prD)), .pl (.list ((good w).map mD)), .pl (mD fm), .pl (mD lm), s13, .pl (.list ((sureM w fm).map prD)), .pl (mD mx), s16, s17, s18] W' = some (.list (w.ns.map fun x => PyData.tuple [.str x, .none]), .fr, W') := fwLc (by show ((!s17.own) && true) = true; rw [h17]; rfl) (fwSeqL rfl) rfl (lcL_map PyData.str (fun x => PyData.tuple [.str x, .none]) w.ns fun x hx => ⟨_, .im, rfl, fwTup2 rfl rfl fwK rfl, rfl⟩)
  have its : cCall oTup [cVar 15, cCall oList [cVar 8], cK .none, cCall oDict [cLc (iSeq (cVar 3)) (gN 17) (kTrue) (cCall oTup [cVar 17, cK .none]) [17]], cDisp [(cK (.str "zed"), cK (.str "roy"))], cDisp [(cK (.int 5), cK (.str "roy"))]] [.no, .wd p, s2, .pl (.list (w.ns.map PyData.str)), .pl (.list (w.gs.map PyData.str)), .pl (pD w), .pl (qD w), .pl (.list ((every w).map mD)), .pl (mD m), .pl (.list ((blk w m).map prD)), .pl (.list ((good w).map mD)), .pl (mD fm), .pl (mD lm), s13, .pl (.list ((sureM w fm).map prD)), .pl (mD mx), s16, s17, s18] W' = some (.tuple [mD mx, .list ((ks m).map PyData.str), .none, noneD w.ns, mD [("zed", "roy")], .dict [(.int 5, .str "roy")]], .im, W') :=
    fwTupN (ds := [(mD mx, .im), (.list ((ks m).map PyData.str), .fr), (.none, .im), (noneD w.ns, .fr), (mD [("zed", "roy")], .fr), (.dict [(.int 5, .str "roy")], .fr)]) (ca_cons rfl (ca_cons (fw1 rfl (listM _ _)) (ca_cons fwK (ca_cons (fw1 lcn (dict_S c.ok.nd (fun _ => .none) _)) (ca_cons rfl (ca_cons rfl ca_nil)))))) rfl (by show 6 ≤ 1000; decide)
  obtain ⟨e', W2, q1, s16, rfl⟩ := forL_draw (t := gN 16) (g := (sSeq (sIf (bOf (cCall oNe [cFn f_is_match [cVar 5, cVar 6, cVar 16], cCall oInD [cVar 16, cVar 7]])) (sSeq (sRetK (cK (.bool false))) (sNil)) (sNil)) (sNil))) (fun d : PyData => d) (fun env => ∃ s16 : Sl, env = [.no, .wd p, s2, .pl (.list (w.ns.map PyData.str)), .pl (.list (w.gs.map PyData.str)), .pl (pD w), .pl (qD w), .pl (.list ((every w).map mD)), .pl (mD m), .pl (.list ((blk w m).map prD)), .pl (.list ((good w).map mD)), .pl (mD fm), .pl (mD lm), s13, .pl (.list ((sureM w fm).map prD)), .pl (mD mx), s16, s17, s18]) [mD mx, .list ((ks m).map PyData.str), .none, noneD w.ns, mD [("zed", "roy")], .dict [(.int 5, .str "roy")]] [.no, .wd p, s2, .pl (.list (w.ns.map PyData.str)), .pl (.list (w.gs.map PyData.str)), .pl (pD w), .pl (qD w), .pl (.list ((every w).map mD)), .pl (mD m), .pl (.list ((blk w m).map prD)), .pl (.list ((good w).map mD)), .pl (mD fm), .pl (mD lm), s13, .pl (.list ((sureM w fm).map prD)), .pl (mD mx), s16, s17, s18] W' ⟨s16, rfl⟩ (fun d hd env W hR => by
    obtain ⟨s16, rfl⟩ := hR
    have two : ∃ b, f_is_match [pD w, qD w, d] = some (.bool b) ∧ oInD [(d, .im), (.list ((every w).map mD), .im)] = some (.bool b, .im) := by
      simp only [List.mem_cons, List.not_mem_nil, or_false] at hd
      rcases hd with rfl | rfl | rfl | rfl | rfl | rfl
      · exact ⟨_, isM_ok c.ok nx1 (by omega), inEv c.ok nx1 _ _⟩
      · exact ⟨false, isM_list _, inEv_list _ _ _⟩
      · exact ⟨false, isM_none, inEv_none _ _⟩
      · by_cases he : w.ns = []
        · have e : noneD w.ns = mD [] := by rw [he]; rfl
          rw [e]
          exact ⟨_, isM_ok (m := []) c.ok .nil (Nat.zero_le _), inEv (m := []) c.ok .nil _ _⟩
        · exact ⟨false, isM_nones c.ok he, inEv_nones he _ _⟩
      · have nd : (ks [(("zed" : Str), ("roy" : Str))]).Nodup := by decide
        exact ⟨_, isM_ok c.ok nd (by decide), inEv c.ok nd _ _⟩
      · exact ⟨false, isM_int _ _, inEv_int _ _ _ _⟩
    obtain ⟨b, t1, t2⟩ := two
    refine ⟨_, [.no, .wd p, s2, .pl (.list (w.ns.map PyData.str)), .pl (.list (w.gs.map PyData.str)), .pl (pD w), .pl (qD w), .pl (.list ((every w).map mD)), .pl (mD m), .pl (.list ((blk w m).map prD)), .pl (.list ((good w).map mD)), .pl (mD fm), .pl (mD lm), s13, .pl (.list ((sureM w fm).map prD)), .pl (mD mx), .pl d, s17, s18], W, rfl, end_of (ru_pass (W1 := W) (fwB (k := .im) (fw2 (fwF3 rfl rfl rfl rfl rfl rfl t1) (fw2 rfl rfl t2) (neBool b))) (ru_nil rfl)), .pl d, rfl⟩)
  rw [List.map_id'] at q1
  refine ru_seq ((fwFor (fwSeqT its) rfl).trans q1) (ru_wipe (ru_nil ⟨_, _, rfl, _, _, _, _, _, _, _, _, _, _, _, _, _, _, _, _, _, h13, h17, h18, rfl⟩))
end
end K39

set_option maxHeartbeats 4000000
namespace K39
noncomputable section
open PySem PX

structure Ax (w : Wd) (g1 g2 : Mt) : Prop where
  f1 : f_asked [pD w, qD w] = some (mD g1)
  n1 : (ks g1).Nodup
  b1 : Best w (lk g1)
  f2 : f_asked [qD w, pD w] = some (mD g2)
  n2 : (ks g2).Nodup
  b2 : Best w.swap (lk g2)
theorem Ax.fst {w : Wd} {g1 g2 : Mt} (ok : w.Ok) (a : Ax w g1 g2) : Fst w (firstM g1) := ⟨(first_std ok a.n1 a.b1).1, lk g1, a.b1, (first_std ok a.n1 a.b1).2⟩
theorem Ax.asked {w : Wd} {g1 g2 : Mt} (ok : w.Ok) (a : Ax w g1 g2) : f_asked_first [pD w, qD w] = some (mD (firstM g1)) := by
  have F := (first_std ok a.n1 a.b1).1
  refine first_ok F.mat.nd a.n1 a.f1 ?_
  have h := mat_len ok F.mat
  have e : (firstM g1).length = g1.length := by
    unfold firstM
    rw [(srt_perm prD (sw g1)).length_eq]
    unfold sw
    rw [List.length_map]
  omega
theorem filt_false {α : Type} (xs : List α) : xs.filter (fun _ => false) = [] := List.filter_eq_nil_iff.mpr fun _ _ => Bool.false_ne_true
theorem filt_all (p : Str × Str) (os : List Mt) : ((os.filter fun o => !decide (p ∈ o)).map mD).isEmpty = os.all fun o => decide (p ∈ o) := by
  rw [Bool.eq_iff_iff]
  simp only [List.isEmpty_iff, List.map_eq_nil_iff, List.filter_eq_nil_iff, List.all_eq_true, Bool.not_eq_true', decide_eq_false_iff_not, decide_eq_true_eq, Classical.not_not]
def gD : Sx := sSeq (sAsg (cCall oTup [cFn f_asked_first [cVar 5, cVar 6], cFn f_offered_first [cVar 5, cVar 6]]) (gT 2 (gsCons (gN 11) (gsCons (gN 12) (gsNil))))) (sSeq (sIf (kOr (bOf (cCall oNotInD [cVar 11, cVar 10])) (bOf (cCall oNotInD [cVar 12, cVar 10]))) (sSeq (sRetK (cK (.bool false))) (sNil)) (sNil)) (sSeq (sFor (iSeq (cVar 10)) (gN 13) (sSeq (sIf (bOf (cCall oNe [cCall oSorted [cVar 13], cCall oSorted [cVar 11]])) (sSeq (sRetK (cK (.bool false))) (sNil)) (sNil)) (sSeq (sIf (bOf (cCall oNe [cLc (iKey 13) (gN 17) (kNot (bOf (cChain oLe oLe (cCall oIndexR [cCall oIx [cVar 5, cVar 17], cCall oIx [cVar 11, cVar 17]]) (cCall oIndexR [cCall oIx [cVar 5, cVar 17], cCall oIx [cVar 13, cVar 17]]) (cCall oIndexR [cCall oIx [cVar 5, cVar 17], cCall oIx [cVar 12, cVar 17]])))) (cVar 17) [17], cCall oLst []])) (sSeq (sRetK (cK (.bool false))) (sNil)) (sNil)) (sNil)))) (sSeq (sSet 14 false (cLc (iSeq (cCall oSorted [cVar 11])) (gN 17) (bOf (cCall oEqL [cLc (iSeq (cVar 10)) (gN 13) (bOf (cCall oNe [cCall oIx [cVar 13, cVar 17], cCall oIx [cVar 11, cVar 17]])) (cVar 13) [13], cCall oLst []])) (cCall oTup [cVar 17, cCall oIx [cVar 11, cVar 17]]) [17])) (sSeq (sIf (kOr (bOf (cCall oNe [cFn f_sure_pairs [cVar 5, cVar 6], cCall oTuple [cVar 14]])) (bOf (cCall oNe [cFn f_left_without [cVar 5, cVar 6], cCall oTuple [cLc (iSeq (cCall oSorted [cVar 3])) (gN 17) (bOf (cCall oNotIn [cVar 17, cVar 11])) (cVar 17) [17]]]))) (sSeq (sRetK (cK (.bool false))) (sNil)) (sNil)) (sSeq (sIf (bOf (cCall oNe [cLc (iSeq (cVar 3)) (gN 17) (bOf (cCall oNe [cFn f_best_for [cVar 5, cVar 6, cVar 17], cIf (bOf (cCall oIn [cVar 17, cVar 11])) (cCall oIx [cVar 11, cVar 17]) (cK .none)])) (cVar 17) [17], cCall oLst []])) (sSeq (sRetK (cK (.bool false))) (sNil)) (sNil)) (sSeq (sSet 15 false (cIf (bOf (cCall oNe [cVar 4, cCall oLst []])) (cCall oDict [cLc (iSeq (cVar 3)) (gN 17) (kTrue) (cCall oTup [cVar 17, cCall oIx [cVar 4, cNext 1 (cCall oLen [cVar 4])]]) [17]]) (cDnew))) (sSeq (sFor (iSeq (cCall oTup [cVar 15, cCall oList [cVar 8], cK .none, cCall oDict [cLc (iSeq (cVar 3)) (gN 17) (kTrue) (cCall oTup [cVar 17, cK .none]) [17]], cDisp [(cK (.str "zed"), cK (.str "roy"))], cDisp [(cK (.int 5), cK (.str "roy"))]])) (gN 16) (sSeq (sIf (bOf (cCall oNe [cFn f_is_match [cVar 5, cVar 6, cVar 16], cCall oInD [cVar 16, cVar 7]])) (sSeq (sRetK (cK (.bool false))) (sNil)) (sNil)) (sNil))) (sWipe [16] (sNil)))))))))
theorem partD (p : PySem.Addr) (s2 s3 s4 s5 s6 s7 s8 s9 s10 s11 s12 s13 s14 s15 s16 s17 s18 : Sl) (W : List Int) {w : Wd} (c : Cx w) {m : Mt} (hm : m ∈ every w) {g1 g2 : Mt} (a : Ax w g1 g2) (h13 : s13.own = false) (h17 : s17.own = false) (h18 : s18.own = false) : Runs gD [.no, .wd p, s2, .pl (.list (w.ns.map PyData.str)), .pl (.list (w.gs.map PyData.str)), .pl (pD w), .pl (qD w), .pl (.list ((every w).map mD)), .pl (mD m), .pl (.list ((blk w m).map prD)), .pl (.list ((good w).map mD)), s11, s12, s13, s14, s15, s16, s17, s18] W (Nxt (R p)) := by
  unfold gD
  have ok := c.ok
  have F := a.fst ok
  have hF := a.asked ok
  have hL := offered_ok a.n2 a.f2
  obtain ⟨L, hLk⟩ := last_std ok a.n2 a.b2
  have fl := (first_std ok a.n1 a.b1).2
  generalize hfm : firstM g1 = fm at F hF fl
  generalize hlm : lastM g2 = lm at L hL hLk
  have fg : fm ∈ good w := (good_iff ok).mpr F.std
  have lg : lm ∈ good w := (good_iff ok).mpr L
  refine ru_asg (d := .tuple [mD fm, mD lm]) (k := .im) (W1 := W) (e' := [.no, .wd p, s2, .pl (.list (w.ns.map PyData.str)), .pl (.list (w.gs.map PyData.str)), .pl (pD w), .pl (qD w), .pl (.list ((every w).map mD)), .pl (mD m), .pl (.list ((blk w m).map prD)), .pl (.list ((good w).map mD)), .pl (mD fm), .pl (mD lm), s13, s14, s15, s16, s17, s18]) (fwTup2 (fwF2 rfl rfl rfl rfl hF) rfl (fwF2 rfl rfl rfl rfl hL) rfl) rfl rfl ?_
  refine ru_pass (W1 := W) (fwOr (b := false) (c := false) (fwB (k := .im) (fw2 rfl rfl (niGood ok fg _ _))) fun _ => fwB (k := .im) (fw2 rfl rfl (niGood ok lg _ _))) ?_
  obtain ⟨e', W1, q1, s13, h13, rfl⟩ := forL_draw (t := gN 13) (g := (sSeq (sIf (bOf (cCall oNe [cCall oSorted [cVar 13], cCall oSorted [cVar 11]])) (sSeq (sRetK (cK (.bool false))) (sNil)) (sNil)) (sSeq (sIf (bOf (cCall oNe [cLc (iKey 13) (gN 17) (kNot (bOf (cChain oLe oLe (cCall oIndexR [cCall oIx [cVar 5, cVar 17], cCall oIx [cVar 11, cVar 17]]) (cCall oIndexR [cCall oIx [cVar 5, cVar 17], cCall oIx [cVar 13, cVar 17]]) (cCall oIndexR [cCall oIx [cVar 5, cVar 17], cCall oIx [cVar 12, cVar 17]])))) (cVar 17) [17], cCall oLst []])) (sSeq (sRetK (cK (.bool false))) (sNil)) (sNil)) (sNil)))) mD (fun env => ∃ s13 : Sl, s13.own = false ∧ env = [.no, .wd p, s2, .pl (.list (w.ns.map PyData.str)), .pl (.list (w.gs.map PyData.str)), .pl (pD w), .pl (qD w), .pl (.list ((every w).map mD)), .pl (mD m), .pl (.list ((blk w m).map prD)), .pl (.list ((good w).map mD)), .pl (mD fm), .pl (mD lm), s13, s14, s15, s16, s17, s18]) (good w) [.no, .wd p, s2, .pl (.list (w.ns.map PyData.str)), .pl (.list (w.gs.map PyData.str)), .pl (pD w), .pl (qD w), .pl (.list ((every w).map mD)), .pl (mD m), .pl (.list ((blk w m).map prD)), .pl (.list ((good w).map mD)), .pl (mD fm), .pl (mD lm), s13, s14, s15, s16, s17, s18] W ⟨s13, h13, rfl⟩ (fun o ho env W hR => by
    obtain ⟨s13, h13, rfl⟩ := hR
    have O := (good_iff ok).mp ho
    have ek := good_ks ok F ho
    have el := good_ks ok F lg
    have t1 : bOf (cCall oNe [cCall oSorted [cVar 13], cCall oSorted [cVar 11]]) [.no, .wd p, s2, .pl (.list (w.ns.map PyData.str)), .pl (.list (w.gs.map PyData.str)), .pl (pD w), .pl (qD w), .pl (.list ((every w).map mD)), .pl (mD m), .pl (.list ((blk w m).map prD)), .pl (.list ((good w).map mD)), .pl (mD fm), .pl (mD lm), .pl (mD o), s14, s15, s16, s17, s18] W = some (false, W) := fwB (k := .im) ((fw2 (fw1 rfl (sortedM _ _)) (fw1 rfl (sortedM _ _)) (neSL _ _ _ _)).trans (by rw [ek, decide_eq_true rfl]; rfl))
    have lc : cLc (iKey 13) (gN 17) (kNot (bOf (cChain oLe oLe (cCall oIndexR [cCall oIx [cVar 5, cVar 17], cCall oIx [cVar 11, cVar 17]]) (cCall oIndexR [cCall oIx [cVar 5, cVar 17], cCall oIx [cVar 13, cVar 17]]) (cCall oIndexR [cCall oIx [cVar 5, cVar 17], cCall oIx [cVar 12, cVar 17]])))) (cVar 17) [17] [.no, .wd p, s2, .pl (.list (w.ns.map PyData.str)), .pl (.list (w.gs.map PyData.str)), .pl (pD w), .pl (qD w), .pl (.list ((every w).map mD)), .pl (mD m), .pl (.list ((blk w m).map prD)), .pl (.list ((good w).map mD)), .pl (mD fm), .pl (mD lm), .pl (mD o), s14, s15, s16, s17, s18] W = some (.list (((ks o).filter fun _ => false).map PyData.str), .fr, W) := by
      refine fwLc (by show ((!s17.own) && true) = true; rw [h17]; rfl) (fwKeyM rfl (by have := mat_len ok O.mat; omega)) rfl (lcL_fm PyData.str (fun _ => false) PyData.str (ks o) fun x hx => ⟨_, rfl, ?_, fun z => absurd z Bool.false_ne_true⟩)
      have get : ∀ r : Mt, ks r = ks fm → ∃ y, lk r x = some y := fun r hr => by
        have := lk_some (m := r) (x := x)
        rw [hr, ← ek, decide_eq_true hx] at this
        exact Option.isSome_iff_exists.mp this
      obtain ⟨y, hy⟩ := get o ek
      obtain ⟨f, hf⟩ := get fm rfl
      obtain ⟨l, hl⟩ := get lm el
      have my := mat_lk O.mat hy
      have mf := mat_lk F.std.mat hf
      have ml := mat_lk L.mat hl
      have i1 : (w.P x).idxOf f ≤ (w.P x).idxOf y := by
        obtain ⟨g, z1, z2⟩ := a.b1.b4 _ _ O.st x y hy
        have := a.b1.b2 _ _ _ z1 ((fl x f).mp hf)
        subst this
        exact z2
      have i2 : (w.P x).idxOf y ≤ (w.P x).idxOf l := worst ok a.b2 O.st hy (by rw [← hLk]; exact hl)
      have ch : cChain oLe oLe (cCall oIndexR [cCall oIx [cVar 5, cVar 17], cCall oIx [cVar 11, cVar 17]]) (cCall oIndexR [cCall oIx [cVar 5, cVar 17], cCall oIx [cVar 13, cVar 17]]) (cCall oIndexR [cCall oIx [cVar 5, cVar 17], cCall oIx [cVar 12, cVar 17]]) ((wipeE [.no, .wd p, s2, .pl (.list (w.ns.map PyData.str)), .pl (.list (w.gs.map PyData.str)), .pl (pD w), .pl (qD w), .pl (.list ((every w).map mD)), .pl (mD m), .pl (.list ((blk w m).map prD)), .pl (.list ((good w).map mD)), .pl (mD fm), .pl (mD lm), .pl (mD o), s14, s15, s16, s17, s18] [17]).set 17 (.pl (.str x))) W = some (.bool (true && true), .im, W) :=
        fwChain (fw2 (fw2 rfl rfl (ixPD _ my.1 _ _)) (fw2 rfl rfl (ixM hf _ _)) (idxRS mf.2.1 _ _)) (fw2 (fw2 rfl rfl (ixPD _ my.1 _ _)) (fw2 rfl rfl (ixM hy _ _)) (idxRS my.2.1 _ _)) ((leI _ _ _ _).trans (by rw [decide_eq_true (by omega)])) (fun _ => fw2 (fw2 rfl rfl (ixPD _ my.1 _ _)) (fw2 rfl rfl (ixM hl _ _)) (idxRS ml.2.1 _ _)) fun _ => (leI _ _ _ _).trans (by rw [decide_eq_true (by omega)])
      exact fwNot (b := true) (fwB (k := .im) ch)
    refine ⟨_, [.no, .wd p, s2, .pl (.list (w.ns.map PyData.str)), .pl (.list (w.gs.map PyData.str)), .pl (pD w), .pl (qD w), .pl (.list ((every w).map mD)), .pl (mD m), .pl (.list ((blk w m).map prD)), .pl (.list ((good w).map mD)), .pl (mD fm), .pl (mD lm), .pl (mD o), s14, s15, s16, s17, s18], W, rfl, end_of (ru_pass t1 (ru_pass (W1 := W) (fwB (k := .im) ((fw2 lc fwLst0 (strs_nnil _ _ _)).trans (by rw [filt_false]; rfl))) (ru_nil rfl))), .pl (mD o), rfl, rfl⟩)
  refine ru_seq ((fwFor (fwSeqL rfl) rfl).trans q1) ?_
  have es : sortS (ks fm) = ks fm := sortS_id F.std.srt
  have e2 : (ks fm).map PyData.str = fm.map fun p => PyData.str p.1 := by
    unfold ks
    rw [List.map_map]
    rfl
  refine ru_set (d := .list ((sureM w fm).map prD)) (k := .fr) (W1 := W1) (fwLc (by show ((!s17.own) && true) = true; rw [h17]; rfl) (fwSeqF (fw1 rfl (sortedM _ _))) rfl ?_) rfl ?_
  · rw [es, e2]
    refine lcL_fm (fun p : Str × Str => PyData.str p.1) (fun p => (good w).all fun o => decide (p ∈ o)) prD fm fun q hq => ⟨_, rfl, ?_, fun _ => ⟨.im, fwTup2 rfl rfl (fw2 rfl rfl (ixM (lk_of F.std.mat.nd hq) _ _)) rfl, rfl⟩⟩
    have inner : cLc (iSeq (cVar 10)) (gN 13) (bOf (cCall oNe [cCall oIx [cVar 13, cVar 17], cCall oIx [cVar 11, cVar 17]])) (cVar 13) [13] ((wipeE [.no, .wd p, s2, .pl (.list (w.ns.map PyData.str)), .pl (.list (w.gs.map PyData.str)), .pl (pD w), .pl (qD w), .pl (.list ((every w).map mD)), .pl (mD m), .pl (.list ((blk w m).map prD)), .pl (.list ((good w).map mD)), .pl (mD fm), .pl (mD lm), s13, s14, s15, s16, s17, s18] [17]).set 17 (.pl (.str q.1))) W1 = some (.list (((good w).filter fun o => !decide (q ∈ o)).map mD), .fr, W1) := by
      refine fwLc (by show ((!s13.own) && true) = true; rw [h13]; rfl) (fwSeqL rfl) rfl (lcL_fm mD (fun o => !decide (q ∈ o)) mD (good w) fun o ho => ⟨_, rfl, ?_, fun _ => ⟨.im, rfl, rfl⟩⟩)
      have O := (good_iff ok).mp ho
      have hk : q.1 ∈ ks o := by rw [good_ks ok F ho]; exact List.mem_map.mpr ⟨q, hq, rfl⟩
      obtain ⟨y, hy⟩ : ∃ y, lk o q.1 = some y := by
        have := lk_some (m := o) (x := q.1)
        rw [decide_eq_true hk] at this
        exact Option.isSome_iff_exists.mp this
      have e : decide (q ∈ o) = decide (y = q.2) := decide_eq_decide.mpr ⟨fun z => by
        have := lk_of O.mat.nd (show (q.1, q.2) ∈ o from z)
        rw [hy] at this
        exact Option.some.inj this, fun z => by
        have := lk_mem hy
        rw [z] at this
        exact this⟩
      rw [e]
      exact fwB (k := .im) (fw2 (fw2 rfl rfl (ixM hy _ _)) (fw2 rfl rfl (ixM (lk_of F.std.mat.nd hq) _ _)) (neStr _ _ _ _))
    exact fwB (k := .im) ((fw2 inner fwLst0 (eqLnil _ _)).trans (by rw [filt_all]))
  show Runs _ [.no, .wd p, s2, .pl (.list (w.ns.map PyData.str)), .pl (.list (w.gs.map PyData.str)), .pl (pD w), .pl (qD w), .pl (.list ((every w).map mD)), .pl (mD m), .pl (.list ((blk w m).map prD)), .pl (.list ((good w).map mD)), .pl (mD fm), .pl (mD lm), s13, .pl (.list ((sureM w fm).map prD)), s15, s16, s17, s18] W1 _
  refine ru_pass (W1 := W1) (fwOr (b := false) (c := false) (fwB (k := .im) (fw2 (fwF2 rfl rfl rfl rfl (sure_ok ok F)) (fw1 rfl rfl) (ne_same _ (flat_tup _) _ _))) fun _ => fwB (k := .im) (fw2 (fwF2 rfl rfl rfl rfl (left_ok hF)) (fw1 (fwLc (by show ((!s17.own) && true) = true; rw [h17]; rfl) (fwSeqF (fw1 rfl (sortedS _ _))) rfl (lcL_fm PyData.str (fun x => !decide (x ∈ ks fm)) PyData.str (sortS w.ns) fun x hx => ⟨_, rfl, fwB (k := .im) (fw2 rfl rfl (niM _ _ _ _)), fun _ => ⟨.im, rfl, rfl⟩⟩)) rfl) (ne_same _ (flatS _) _ _))) ?_
  have flat_opt : ∀ o : Option Str, flat (optD o) = true := fun o => by
    cases o with
    | none => rfl
    | some y => exact flat_D (α := Str) (by decide) y
  have lcb : cLc (iSeq (cVar 3)) (gN 17) (bOf (cCall oNe [cFn f_best_for [cVar 5, cVar 6, cVar 17], cIf (bOf (cCall oIn [cVar 17, cVar 11])) (cCall oIx [cVar 11, cVar 17]) (cK .none)])) (cVar 17) [17] [.no, .wd p, s2, .pl (.list (w.ns.map PyData.str)), .pl (.list (w.gs.map PyData.str)), .pl (pD w), .pl (qD w), .pl (.list ((every w).map mD)), .pl (mD m), .pl (.list ((blk w m).map prD)), .pl (.list ((good w).map mD)), .pl (mD fm), .pl (mD lm), s13, .pl (.list ((sureM w fm).map prD)), s15, s16, s17, s18] W1 = some (.list ((w.ns.filter fun _ => false).map PyData.str), .fr, W1) := by
    refine fwLc (by show ((!s17.own) && true) = true; rw [h17]; rfl) (fwSeqL rfl) rfl (lcL_fm PyData.str (fun _ => false) PyData.str w.ns fun x hx => ⟨_, rfl, ?_, fun z => absurd z Bool.false_ne_true⟩)
    have t : bOf (cCall oIn [cVar 17, cVar 11]) ((wipeE [.no, .wd p, s2, .pl (.list (w.ns.map PyData.str)), .pl (.list (w.gs.map PyData.str)), .pl (pD w), .pl (qD w), .pl (.list ((every w).map mD)), .pl (mD m), .pl (.list ((blk w m).map prD)), .pl (.list ((good w).map mD)), .pl (mD fm), .pl (mD lm), s13, .pl (.list ((sureM w fm).map prD)), s15, s16, s17, s18] [17]).set 17 (.pl (.str x))) W1 = some (decide (x ∈ ks fm), W1) := fwB (k := .im) (fw2 rfl rfl (inM _ _ _ _))
    have e : cIf (bOf (cCall oIn [cVar 17, cVar 11])) (cCall oIx [cVar 11, cVar 17]) (cK .none) ((wipeE [.no, .wd p, s2, .pl (.list (w.ns.map PyData.str)), .pl (.list (w.gs.map PyData.str)), .pl (pD w), .pl (qD w), .pl (.list ((every w).map mD)), .pl (mD m), .pl (.list ((blk w m).map prD)), .pl (.list ((good w).map mD)), .pl (mD fm), .pl (mD lm), s13, .pl (.list ((sureM w fm).map prD)), s15, s16, s17, s18] [17]).set 17 (.pl (.str x))) W1 = some (optD (lk fm x), .im, W1) := by
      cases h : lk fm x with
      | none =>
        rw [decide_eq_false (lk_none.mp h)] at t
        exact fwIfF t fwK
      | some y =>
        have hk : x ∈ ks fm := by
          have := lk_some (m := fm) (x := x)
          rw [h] at this
          exact of_decide_eq_true this.symm
        rw [decide_eq_true hk] at t
        exact fwIfT t (fw2 rfl rfl (ixM h _ _))
    exact fwB (k := .im) (fw2 (fwF3 rfl rfl rfl rfl rfl rfl (best_ok hF x)) e (ne_same _ (flat_opt _) _ _))
  refine ru_pass (W1 := W1) (fwB (k := .im) ((fw2 lcb fwLst0 (strs_nnil _ _ _)).trans (by rw [filt_false]; rfl))) ?_
  exact partE p _ .no .no .no .no .no .no .no .no .no .no _ .no _ _ _ _ W1 c hm (fm := fm) (lm := lm) h13 h17 h18
end
end K39

set_option maxHeartbeats 4000000
namespace K39
noncomputable section
open PySem PX

theorem eqPrNil (b : Mt) (k k' : Kd) : oEq [(.list (b.map prD), k), (.list [], k')] = some (.bool b.isEmpty, .im) := by
  have hh := ev_eq (α := List (Str × Str)) (by decide) b [] k k'
  have e2 : decide (b = []) = b.isEmpty := by
    cases b with
    | nil => exact decide_eq_true rfl
    | cons a r => exact decide_eq_false fun h => by cases h
  rw [e2] at hh
  exact hh
theorem flat_rows (ms : List Mt) : flat (.tuple (ms.map tupD)) = true := by
  have h := flat_D (α := PySem.W.Tup (PySem.W.Tup (Str × Str))) (by decide) ⟨ms.map PySem.W.Tup.mk⟩
  have e : (D (PySem.W.Tup.mk (ms.map PySem.W.Tup.mk)) : PyData) = .tuple (ms.map tupD) := by
    show PyData.tuple ((ms.map PySem.W.Tup.mk).map _) = _
    rw [List.map_map]
    rfl
  rw [e] at h
  exact h
theorem every_ne (w : Wd) : every w ≠ [] := by
  have key : ∀ (xs : List Str) (rows : List Mt), rows ≠ [] → xs.foldl (step w) rows ≠ [] := by
    intro xs
    induction xs with
    | nil => exact fun rows h => h
    | cons x xs ih =>
      intro rows h
      refine ih _ ?_
      unfold step
      exact fun z => h (List.append_eq_nil_iff.mp z).1
  exact key _ _ (by simp)
def gC : Sx := sSeq (sSet 7 false (cFn f__law_matches [cVar 5, cVar 6])) (sSeq (sSet 8 false (cCall oIx [cVar 7, cNext 1 (cCall oLen [cVar 7])])) (sSeq (sSet 9 false (cFn f__law_blocks [cVar 5, cVar 6, cVar 8])) (sSeq (sIf (kOr (bOf (cCall oIsNot [cFn f_is_match [cVar 5, cVar 6, cVar 8], cK (.bool true)])) (kOr (bOf (cCall oNe [cFn f_blocks [cVar 5, cVar 6, cVar 8], cCall oTuple [cVar 9]])) (bOf (cCall oNe [cFn f_is_steady [cVar 5, cVar 6, cVar 8], cCall oEq [cVar 9, cCall oLst []]])))) (sSeq (sRetK (cK (.bool false))) (sNil)) (sNil)) (sSeq (sSet 10 false (cLc (iSeq (cVar 7)) (gN 13) (bOf (cCall oEq [cFn f__law_blocks [cVar 5, cVar 6, cVar 13], cCall oLst []])) (cVar 13) [13])) (sSeq (sIf (bOf (cCall oNe [cFn f_all_steady [cVar 5, cVar 6], cCall oTuple [cCall oSortedZ [cLc (iSeq (cVar 10)) (gN 13) (kTrue) (cCall oTuple [cLc (iSeq (cCall oSorted [cVar 13])) (gN 17) (kTrue) (cCall oTup [cVar 17, cCall oIx [cVar 13, cVar 17]]) [17]]) [13]]]])) (sSeq (sRetK (cK (.bool false))) (sNil)) (sNil)) (sSeq (sAsg (cCall oTup [cFn f_asked_first [cVar 5, cVar 6], cFn f_offered_first [cVar 5, cVar 6]]) (gT 2 (gsCons (gN 11) (gsCons (gN 12) (gsNil))))) (sSeq (sIf (kOr (bOf (cCall oNotInD [cVar 11, cVar 10])) (bOf (cCall oNotInD [cVar 12, cVar 10]))) (sSeq (sRetK (cK (.bool false))) (sNil)) (sNil)) (sSeq (sFor (iSeq (cVar 10)) (gN 13) (sSeq (sIf (bOf (cCall oNe [cCall oSorted [cVar 13], cCall oSorted [cVar 11]])) (sSeq (sRetK (cK (.bool false))) (sNil)) (sNil)) (sSeq (sIf (bOf (cCall oNe [cLc (iKey 13) (gN 17) (kNot (bOf (cChain oLe oLe (cCall oIndexR [cCall oIx [cVar 5, cVar 17], cCall oIx [cVar 11, cVar 17]]) (cCall oIndexR [cCall oIx [cVar 5, cVar 17], cCall oIx [cVar 13, cVar 17]]) (cCall oIndexR [cCall oIx [cVar 5, cVar 17], cCall oIx [cVar 12, cVar 17]])))) (cVar 17) [17], cCall oLst []])) (sSeq (sRetK (cK (.bool false))) (sNil)) (sNil)) (sNil)))) (sSeq (sSet 14 false (cLc (iSeq (cCall oSorted [cVar 11])) (gN 17) (bOf (cCall oEqL [cLc (iSeq (cVar 10)) (gN 13) (bOf (cCall oNe [cCall oIx [cVar 13, cVar 17], cCall oIx [cVar 11, cVar 17]])) (cVar 13) [13], cCall oLst []])) (cCall oTup [cVar 17, cCall oIx [cVar 11, cVar 17]]) [17])) (sSeq (sIf (kOr (bOf (cCall oNe [cFn f_sure_pairs [cVar 5, cVar 6], cCall oTuple [cVar 14]])) (bOf (cCall oNe [cFn f_left_without [cVar 5, cVar 6], cCall oTuple [cLc (iSeq (cCall oSorted [cVar 3])) (gN 17) (bOf (cCall oNotIn [cVar 17, cVar 11])) (cVar 17) [17]]]))) (sSeq (sRetK (cK (.bool false))) (sNil)) (sNil)) (sSeq (sIf (bOf (cCall oNe [cLc (iSeq (cVar 3)) (gN 17) (bOf (cCall oNe [cFn f_best_for [cVar 5, cVar 6, cVar 17], cIf (bOf (cCall oIn [cVar 17, cVar 11])) (cCall oIx [cVar 11, cVar 17]) (cK .none)])) (cVar 17) [17], cCall oLst []])) (sSeq (sRetK (cK (.bool false))) (sNil)) (sNil)) (sSeq (sSet 15 false (cIf (bOf (cCall oNe [cVar 4, cCall oLst []])) (cCall oDict [cLc (iSeq (cVar 3)) (gN 17) (kTrue) (cCall oTup [cVar 17, cCall oIx [cVar 4, cNext 1 (cCall oLen [cVar 4])]]) [17]]) (cDnew))) (sSeq (sFor (iSeq (cCall oTup [cVar 15, cCall oList [cVar 8], cK .none, cCall oDict [cLc (iSeq (cVar 3)) (gN 17) (kTrue) (cCall oTup [cVar 17, cK .none]) [17]], cDisp [(cK (.str "zed"), cK (.str "roy"))], cDisp [(cK (.int 5), cK (.str "roy"))]])) (gN 16) (sSeq (sIf (bOf (cCall oNe [cFn f_is_match [cVar 5, cVar 6, cVar 16], cCall oInD [cVar 16, cVar 7]])) (sSeq (sRetK (cK (.bool false))) (sNil)) (sNil)) (sNil))) (sWipe [16] (sNil)))))))))))))))
theorem partC (p : PySem.Addr) (s2 s3 s4 s5 s6 s7 s8 s9 s10 s11 s12 s13 s14 s15 s16 s17 s18 : Sl) (W : List Int) {w : Wd} (c : Cx w) (h13 : s13.own = false) (h17 : s17.own = false) (h18 : s18.own = false) : Runs gC [.no, .wd p, s2, .pl (.list (w.ns.map PyData.str)), .pl (.list (w.gs.map PyData.str)), .pl (pD w), .pl (qD w), s7, s8, s9, s10, s11, s12, s13, s14, s15, s16, s17, s18] W (Nxt (R p)) := by
  unfold gC
  have ok := c.ok
  obtain ⟨g1, f1, n1, b1⟩ := asked_ok ok
  obtain ⟨g2, f2, n2, b2⟩ := asked_ok ok.swap
  have a : Ax w g1 g2 := ⟨f1, n1, b1, f2, n2, b2⟩
  have F := a.fst ok
  refine ru_set (fwF2 rfl rfl rfl rfl (lmatches_ok ok)) rfl ?_
  show Runs _ [.no, .wd p, s2, .pl (.list (w.ns.map PyData.str)), .pl (.list (w.gs.map PyData.str)), .pl (pD w), .pl (qD w), .pl (.list ((every w).map mD)), s8, s9, s10, s11, s12, s13, s14, s15, s16, s17, s18] W _
  have hpos : 0 < (every w).length := List.length_pos_iff.mpr (every_ne w)
  have bd := nx_bd W (m := (every w).length) (by omega)
  have hlt : (nx W (every w).length).toNat < (every w).length := by omega
  have e8 : cCall oIx [cVar 7, cNext 1 (cCall oLen [cVar 7])] [.no, .wd p, s2, .pl (.list (w.ns.map PyData.str)), .pl (.list (w.gs.map PyData.str)), .pl (pD w), .pl (qD w), .pl (.list ((every w).map mD)), s8, s9, s10, s11, s12, s13, s14, s15, s16, s17, s18] W = some (mD (every w)[(nx W (every w).length).toNat], .im, W.tail) := by
    refine fw2 rfl (fwNext rfl (fw1 rfl (lenML _ _ _)) (by omega)) ?_
    have := fwIxNL (ds := (every w).map mD) (n := (nx W (every w).length).toNat) (d := mD (every w)[(nx W (every w).length).toNat]) (by rw [List.getElem?_map, List.getElem?_eq_getElem hlt]; rfl) .im .im
    rw [show (((nx W (every w).length).toNat : Nat) : Int) = nx W (every w).length by omega] at this
    exact this
  have hm : (every w)[(nx W (every w).length).toNat] ∈ every w := List.getElem_mem hlt
  generalize (every w)[(nx W (every w).length).toNat] = m at e8 hm
  have M := (every_ok ok hm).mat
  have hml := mat_len ok M
  refine ru_set e8 rfl ?_
  refine ru_set (fwF3 rfl rfl rfl rfl rfl rfl (lblocks_ok ok M)) rfl ?_
  show Runs _ [.no, .wd p, s2, .pl (.list (w.ns.map PyData.str)), .pl (.list (w.gs.map PyData.str)), .pl (pD w), .pl (qD w), .pl (.list ((every w).map mD)), .pl (mD m), .pl (.list ((blk w m).map prD)), s10, s11, s12, s13, s14, s15, s16, s17, s18] W.tail _
  have hM : isM w m = true := (isM_iff M.nd).mpr M
  refine ru_pass (W1 := W.tail) (fwOr (b := false) (c := false) (fwB (k := .im) ((fw2 (fwF3 rfl rfl rfl rfl rfl rfl (isM_ok ok M.nd (by omega))) fwK (dr := .bool false) (kr := .im) (by rw [hM]; rfl)))) fun _ => fwOr (b := false) (c := false) (fwB (k := .im) (fw2 (fwF3 rfl rfl rfl rfl rfl rfl (blocks_ok ok M)) (fw1 rfl rfl) (ne_same _ (flat_tup _) _ _))) fun _ => fwB (k := .im) (fw2 (fwF3 rfl rfl rfl rfl rfl rfl (steady_ok ok M)) (fw2 rfl fwLst0 (eqPrNil _ _ _)) (neBool _))) ?_
  refine ru_set (d := .list ((good w).map mD)) (k := .fr) (W1 := W.tail) (fwLc (by show ((!s13.own) && true) = true; rw [h13]; rfl) (fwSeqL rfl) rfl (lcL_fm mD (fun o => (blk w o).isEmpty) mD (every w) fun o ho => ⟨_, rfl, fwB (k := .im) (fw2 (fwF3 rfl rfl rfl rfl rfl rfl (lblocks_ok ok (every_ok ok ho).mat)) fwLst0 (eqPrNil _ _ _)), fun _ => ⟨.im, rfl, rfl⟩⟩)) rfl ?_
  show Runs _ [.no, .wd p, s2, .pl (.list (w.ns.map PyData.str)), .pl (.list (w.gs.map PyData.str)), .pl (pD w), .pl (qD w), .pl (.list ((every w).map mD)), .pl (mD m), .pl (.list ((blk w m).map prD)), .pl (.list ((good w).map mD)), s11, s12, s13, s14, s15, s16, s17, s18] W.tail _
  have rows : cLc (iSeq (cVar 10)) (gN 13) (kTrue) (cCall oTuple [cLc (iSeq (cCall oSorted [cVar 13])) (gN 17) (kTrue) (cCall oTup [cVar 17, cCall oIx [cVar 13, cVar 17]]) [17]]) [13] [.no, .wd p, s2, .pl (.list (w.ns.map PyData.str)), .pl (.list (w.gs.map PyData.str)), .pl (pD w), .pl (qD w), .pl (.list ((every w).map mD)), .pl (mD m), .pl (.list ((blk w m).map prD)), .pl (.list ((good w).map mD)), s11, s12, s13, s14, s15, s16, s17, s18] W.tail = some (.list ((good w).map tupD), .fr, W.tail) := by
    refine fwLc (by show ((!s13.own) && true) = true; rw [h13]; rfl) (fwSeqL rfl) rfl (lcL_map mD tupD (good w) fun o ho => ?_)
    have O := (good_iff ok).mp ho
    have es : sortS (ks o) = ks o := sortS_id O.srt
    have e2 : (ks o).map PyData.str = o.map fun q => PyData.str q.1 := by
      unfold ks
      rw [List.map_map]
      rfl
    have inn : cLc (iSeq (cCall oSorted [cVar 13])) (gN 17) (kTrue) (cCall oTup [cVar 17, cCall oIx [cVar 13, cVar 17]]) [17] ((wipeE [.no, .wd p, s2, .pl (.list (w.ns.map PyData.str)), .pl (.list (w.gs.map PyData.str)), .pl (pD w), .pl (qD w), .pl (.list ((every w).map mD)), .pl (mD m), .pl (.list ((blk w m).map prD)), .pl (.list ((good w).map mD)), s11, s12, s13, s14, s15, s16, s17, s18] [13]).set 13 (.pl (mD o))) W.tail = some (.list (o.map prD), .fr, W.tail) := by
      refine fwLc (by show ((!s17.own) && true) = true; rw [h17]; rfl) (fwSeqF (fw1 rfl (sortedM _ _))) rfl ?_
      rw [es, e2]
      exact lcL_map (fun q : Str × Str => PyData.str q.1) prD o fun q hq => ⟨_, .im, rfl, fwTup2 rfl rfl (fw2 rfl rfl (ixM (lk_of O.mat.nd hq) _ _)) rfl, rfl⟩
    exact ⟨_, .im, rfl, fw1 inn rfl, rfl⟩
  refine ru_pass (W1 := W.tail) (fwB (k := .im) (fw2 (fwF2 rfl rfl rfl rfl (all_steady_ok ok F)) (fw1 (fw1 rows (sortedG ok F _)) rfl) (ne_same _ (flat_rows _) _ _))) ?_
  exact partD p _ .no .no .no .no .no .no .no .no _ _ _ _ _ _ _ _ W.tail c hm a h13 h17 h18
end
end K39

set_option maxHeartbeats 4000000
namespace K39
noncomputable section
open PySem PX

theorem fwW {env : SEnv} {W W1 W2 : List Int} {i : Nat} {p : PySem.Addr} {f : Ex} {d dr : PyData} {k : Kd} {F : PySem.Addr → List PyData → List Int → Option (PyData × List Int)} (hw : env[i]? = some (.wd p)) (e : f env W = some (d, k, W1)) (x : esc k = true) (o : F p [d] W1 = some (dr, W2)) : cFnW i F [f] env W = some (dr, .im, W2) := by
  unfold cFnW
  rw [hw]
  simp [cArgs, e, x, o]
def N3 : List Str := ["pia", "ned", "oda"]
def G3 : List Str := ["roy", "pot", "elf"]
theorem turn_ok (p : PySem.Addr) (env : SEnv) (W : List Int) (a : Int) (hR : R p env) : Runs gTurn (env.set 2 (.pl (.int a))) W (Nxt (R p)) := by
  obtain ⟨s2, s3, s4, s5, s6, s7, s8, s9, s10, s11, s12, s13, s14, s15, s16, s17, s18, h13, h17, h18, rfl⟩ := hR
  show Runs gTurn [.no, .wd p, .pl (.int a), s3, s4, s5, s6, s7, s8, s9, s10, s11, s12, s13, s14, s15, s16, s17, s18] W _
  unfold gTurn
  have c1 := nx_bd W (m := 4) (by decide)
  have c2 := nx_bd W.tail (m := 4) (by decide)
  obtain ⟨ns, hns⟩ : ∃ ns, ns = N3.take (nx W 4).toNat := ⟨_, rfl⟩
  obtain ⟨gs, hgs⟩ : ∃ gs, gs = G3.take (nx W.tail 4).toNat := ⟨_, rfl⟩
  have e1 : cSlice (cCall oLst [cK (.str "pia"), cK (.str "ned"), cK (.str "oda")]) none (some (cNext 1 (cK (.int 4)))) [.no, .wd p, .pl (.int a), s3, s4, s5, s6, s7, s8, s9, s10, s11, s12, s13, s14, s15, s16, s17, s18] W = some (.list (ns.map PyData.str), .fr, W.tail) := by
    refine (fwToL (ds := N3.map PyData.str) (n := (nx W 4).toNat) (k1 := .fr) (W1 := W) (k2 := .im) rfl (W2 := W.tail) ?_).trans ?_
    · rw [show (((nx W 4).toNat : Nat) : Int) = nx W 4 by omega]
      exact fwNext rfl fwK (by decide)
    · rw [hns, List.map_take]
  have e2 : cSlice (cCall oLst [cK (.str "roy"), cK (.str "pot"), cK (.str "elf")]) none (some (cNext 1 (cK (.int 4)))) [.no, .wd p, .pl (.int a), s3, s4, s5, s6, s7, s8, s9, s10, s11, s12, s13, s14, s15, s16, s17, s18] W.tail = some (.list (gs.map PyData.str), .fr, W.tail.tail) := by
    refine (fwToL (ds := G3.map PyData.str) (n := (nx W.tail 4).toNat) (k1 := .fr) (W1 := W.tail) (k2 := .im) rfl (W2 := W.tail.tail) ?_).trans ?_
    · rw [show (((nx W.tail 4).toNat : Nat) : Int) = nx W.tail 4 by omega]
      exact fwNext rfl fwK (by decide)
    · rw [hgs, List.map_take]
  have nd : ns.Nodup := hns ▸ (show N3.Nodup by decide).sublist (List.take_sublist _ _)
  have gd : gs.Nodup := hgs ▸ (show G3.Nodup by decide).sublist (List.take_sublist _ _)
  have nl : ns.length ≤ 3 := by rw [hns, List.length_take]; exact Nat.min_le_right _ _
  have gl : gs.length ≤ 3 := by rw [hgs, List.length_take]; exact Nat.min_le_right _ _
  have zed : ("zed" : Str) ∉ ns := fun h => by
    rw [hns] at h
    exact absurd (List.mem_of_mem_take h) (by decide)
  refine ru_asg (d := .tuple [.list (ns.map PyData.str), .list (gs.map PyData.str)]) (k := .im) (W1 := W.tail.tail) (e' := [.no, .wd p, .pl (.int a), .pl (.list (ns.map PyData.str)), .pl (.list (gs.map PyData.str)), s5, s6, s7, s8, s9, s10, s11, s12, s13, s14, s15, s16, s17, s18]) (fwTup2 e1 rfl e2 rfl) rfl rfl ?_
  obtain ⟨P, W1, q1, hP⟩ := lcL_drawF (t := gN 17) (c := kTrue) (e := cCall oTup [cVar 17, cFnW 1 f__law_row [cVar 4]]) (env := wipeE [.no, .wd p, .pl (.int a), .pl (.list (ns.map PyData.str)), .pl (.list (gs.map PyData.str)), s5, s6, s7, s8, s9, s10, s11, s12, s13, s14, s15, s16, s17, s18] [17]) PyData.str (fun (x : Str) (r : List Str) => .tuple [.str x, RS r]) (fun _ r => r.Nodup ∧ ∀ y ∈ r, y ∈ gs) [] ns W.tail.tail nd fun x hx W => by
    obtain ⟨row, W', z1, z2, z3⟩ := law_row_ok p gs gd gl W
    exact ⟨_, row, .im, W', rfl, rfl, fwTup2 (k1 := .im) (k2 := .im) (W1 := W) rfl rfl (fwW rfl rfl rfl z1) rfl, rfl, z2, z3⟩
  refine ru_set (d := PD ns P) (k := .fr) (W1 := W1) (fw1 (fwLc (by show ((!s17.own) && true) = true; rw [h17]; rfl) (fwSeqL rfl) rfl q1) (dict_S nd (fun x => RS (P x)) _)) rfl ?_
  show Runs _ [.no, .wd p, .pl (.int a), .pl (.list (ns.map PyData.str)), .pl (.list (gs.map PyData.str)), .pl (PD ns P), s6, s7, s8, s9, s10, s11, s12, s13, s14, s15, s16, s17, s18] W1 _
  obtain ⟨Q, W2, q2, hQ⟩ := lcL_drawF (t := gN 18) (c := kTrue) (e := cCall oTup [cVar 18, cFnW 1 f__law_row [cVar 3]]) (env := wipeE [.no, .wd p, .pl (.int a), .pl (.list (ns.map PyData.str)), .pl (.list (gs.map PyData.str)), .pl (PD ns P), s6, s7, s8, s9, s10, s11, s12, s13, s14, s15, s16, s17, s18] [18]) PyData.str (fun (x : Str) (r : List Str) => .tuple [.str x, RS r]) (fun _ r => r.Nodup ∧ ∀ y ∈ r, y ∈ ns) [] gs W1 gd fun x hx W => by
    obtain ⟨row, W', z1, z2, z3⟩ := law_row_ok p ns nd nl W
    exact ⟨_, row, .im, W', rfl, rfl, fwTup2 (k1 := .im) (k2 := .im) (W1 := W) rfl rfl (fwW rfl rfl rfl z1) rfl, rfl, z2, z3⟩
  refine ru_set (d := PD gs Q) (k := .fr) (W1 := W2) (fw1 (fwLc (by show ((!s18.own) && true) = true; rw [h18]; rfl) (fwSeqL rfl) rfl q2) (dict_S gd (fun x => RS (Q x)) _)) rfl ?_
  exact partC p _ .no .no .no .no _ _ _ _ _ _ _ _ _ _ _ _ W2 (w := ⟨ns, gs, P, Q⟩) ⟨⟨nd, gd, hP, hQ, nl, gl⟩, zed⟩ h13 h17 h18
theorem draws_ok (ns : List Int) (hn : ns.length ≤ 63) : ∃ ds W', g__law_draws (envS 8 ns 120) [] = some (.rt (.list (ds.map PyData.int)) W') ∧ drOk ds := PX.draws_ok 120 (by decide) (by decide) ns hn
theorem law_ok (p : PySem.Addr) (W : List Int) (h : drOk W) : ∃ W', g_law (envL p 19) W = some (.rt (.bool true) W') := law_of (m := 3) (turn := gTurn) (R p) (by decide) (by decide) ⟨.no, .no, .no, .no, .no, .no, .no, .no, .no, .no, .no, .no, .no, .no, .no, .no, .no, rfl, rfl, rfl, rfl⟩ (turn_ok p)
end
end K39

namespace K39
open PySem PySem.Spec PyProof.Rows L2 PX
theorem all_mk {l : PySem.W.OpenLaw} {w : World} {K : PySem.W.Frag} {h : Heap} {mg : Str → Option Value} {fa f1 f2 f3 f4 f5 f6 f7 f8 f9 f10 f11 f12 f13 f14 f15 f16 f17 f18 f19 f20 : Addr} (hdr : ∀ ns : List Int, ns.length ≤ 63 → ∃ ds W', g__law_draws (envS 8 ns 120) [] = some (.rt (.list (ds.map PyData.int)) W') ∧ drOk ds) (hlw : ∀ p W, drOk W → ∃ W', g_law (envL p 19) W = some (.rt (.bool true) W')) (X : K.In h) (G : h.Ns mainGlobals mg) (hfa : mg "law" = some (.ref fa))
    {od1 od2 od3 od4 od5 od6 od7 od8 od9 od10 od11 od12 od13 od14 od15 od16 od17 od18 od19 od20 an1 an2 an3 an4 an5 an6 an7 an8 an9 an10 an11 an12 an13 an14 an15 an16 an17 an18 an19 an20 : Option Addr} {sl1 sl2 sl3 sl4 sl5 sl6 sl7 sl8 sl9 sl10 sl11 sl12 sl13 sl14 sl15 sl16 sl17 sl18 sl19 sl20 : Array (Option Value)} {oc1 oc2 oc3 oc4 oc5 oc6 oc7 oc8 oc9 oc10 oc11 oc12 oc13 oc14 oc15 oc16 oc17 oc18 oc19 oc20 kV1 kV2 kV3 kV4 kV5 kV6 kV7 kV8 kV9 kV10 kV11 kV12 kV13 kV14 kV15 kV16 kV17 kV18 kV19 kV20 dc1 dc2 dc3 dc4 dc5 dc6 dc7 dc8 dc9 dc10 dc11 dc12 dc13 dc14 dc15 dc16 dc17 dc18 dc19 dc20 pm1 pm2 pm3 pm4 pm5 pm6 pm7 pm8 pm9 pm10 pm11 pm12 pm13 pm14 pm15 pm16 pm17 pm18 pm19 pm20 cd1 cd2 cd3 cd4 cd5 cd6 cd7 cd8 cd9 cd10 cd11 cd12 cd13 cd14 cd15 cd16 cd17 cd18 cd19 cd20 ct1 ct2 ct3 ct4 ct5 ct6 ct7 ct8 ct9 ct10 ct11 ct12 ct13 ct14 ct15 ct16 ct17 ct18 ct19 ct20 : Value}
    (a1 : PySem.W.nsIn K mainGlobals "is_pair" = some (some (.ref f1))) (l1 : K.lookup f1 = some ⟨oc1, od1, .func (PySem.W.fnOf "is_pair" "is_pair" (defArgs s_is_pair) (defBody s_is_pair) (defScope s_is_pair) .none kV1 dc1 pm1 an1 cd1 ct1), sl1⟩) (c1 : PySem.W.codeIn K cd1 "is_pair" = true) (k1 : PySem.W.keepIn K (.ref f1) = true)
    (a2 : PySem.W.nsIn K mainGlobals "is_match" = some (some (.ref f2))) (l2 : K.lookup f2 = some ⟨oc2, od2, .func (PySem.W.fnOf "is_match" "is_match" (defArgs s_is_match) (defBody s_is_match) (defScope s_is_match) .none kV2 dc2 pm2 an2 cd2 ct2), sl2⟩) (c2 : PySem.W.codeIn K cd2 "is_match" = true) (k2 : PySem.W.keepIn K (.ref f2) = true)
    (a3 : PySem.W.nsIn K mainGlobals "would_rather" = some (some (.ref f3))) (l3 : K.lookup f3 = some ⟨oc3, od3, .func (PySem.W.fnOf "would_rather" "would_rather" (defArgs s_would_rather) (defBody s_would_rather) (defScope s_would_rather) .none kV3 dc3 pm3 an3 cd3 ct3), sl3⟩) (c3 : PySem.W.codeIn K cd3 "would_rather" = true) (k3 : PySem.W.keepIn K (.ref f3) = true)
    (a4 : PySem.W.nsIn K mainGlobals "blocks" = some (some (.ref f4))) (l4 : K.lookup f4 = some ⟨oc4, od4, .func (PySem.W.fnOf "blocks" "blocks" (defArgs s_blocks) (defBody s_blocks) (defScope s_blocks) .none kV4 dc4 pm4 an4 cd4 ct4), sl4⟩) (c4 : PySem.W.codeIn K cd4 "blocks" = true) (k4 : PySem.W.keepIn K (.ref f4) = true)
    (a5 : PySem.W.nsIn K mainGlobals "is_steady" = some (some (.ref f5))) (l5 : K.lookup f5 = some ⟨oc5, od5, .func (PySem.W.fnOf "is_steady" "is_steady" (defArgs s_is_steady) (defBody s_is_steady) (defScope s_is_steady) .none kV5 dc5 pm5 an5 cd5 ct5), sl5⟩) (c5 : PySem.W.codeIn K cd5 "is_steady" = true) (k5 : PySem.W.keepIn K (.ref f5) = true)
    (a6 : PySem.W.nsIn K mainGlobals "asked" = some (some (.ref f6))) (l6 : K.lookup f6 = some ⟨oc6, od6, .func (PySem.W.fnOf "asked" "asked" (defArgs s_asked) (defBody s_asked) (defScope s_asked) .none kV6 dc6 pm6 an6 cd6 ct6), sl6⟩) (c6 : PySem.W.codeIn K cd6 "asked" = true) (k6 : PySem.W.keepIn K (.ref f6) = true)
    (a7 : PySem.W.nsIn K mainGlobals "asked_first" = some (some (.ref f7))) (l7 : K.lookup f7 = some ⟨oc7, od7, .func (PySem.W.fnOf "asked_first" "asked_first" (defArgs s_asked_first) (defBody s_asked_first) (defScope s_asked_first) .none kV7 dc7 pm7 an7 cd7 ct7), sl7⟩) (c7 : PySem.W.codeIn K cd7 "asked_first" = true) (k7 : PySem.W.keepIn K (.ref f7) = true)
    (a8 : PySem.W.nsIn K mainGlobals "offered_first" = some (some (.ref f8))) (l8 : K.lookup f8 = some ⟨oc8, od8, .func (PySem.W.fnOf "offered_first" "offered_first" (defArgs s_offered_first) (defBody s_offered_first) (defScope s_offered_first) .none kV8 dc8 pm8 an8 cd8 ct8), sl8⟩) (c8 : PySem.W.codeIn K cd8 "offered_first" = true) (k8 : PySem.W.keepIn K (.ref f8) = true)
    (a9 : PySem.W.nsIn K mainGlobals "all_matches" = some (some (.ref f9))) (l9 : K.lookup f9 = some ⟨oc9, od9, .func (PySem.W.fnOf "all_matches" "all_matches" (defArgs s_all_matches) (defBody s_all_matches) (defScope s_all_matches) .none kV9 dc9 pm9 an9 cd9 ct9), sl9⟩) (c9 : PySem.W.codeIn K cd9 "all_matches" = true) (k9 : PySem.W.keepIn K (.ref f9) = true)
    (a10 : PySem.W.nsIn K mainGlobals "all_steady" = some (some (.ref f10))) (l10 : K.lookup f10 = some ⟨oc10, od10, .func (PySem.W.fnOf "all_steady" "all_steady" (defArgs s_all_steady) (defBody s_all_steady) (defScope s_all_steady) .none kV10 dc10 pm10 an10 cd10 ct10), sl10⟩) (c10 : PySem.W.codeIn K cd10 "all_steady" = true) (k10 : PySem.W.keepIn K (.ref f10) = true)
    (a11 : PySem.W.nsIn K mainGlobals "sure_pairs" = some (some (.ref f11))) (l11 : K.lookup f11 = some ⟨oc11, od11, .func (PySem.W.fnOf "sure_pairs" "sure_pairs" (defArgs s_sure_pairs) (defBody s_sure_pairs) (defScope s_sure_pairs) .none kV11 dc11 pm11 an11 cd11 ct11), sl11⟩) (c11 : PySem.W.codeIn K cd11 "sure_pairs" = true) (k11 : PySem.W.keepIn K (.ref f11) = true)
    (a12 : PySem.W.nsIn K mainGlobals "left_without" = some (some (.ref f12))) (l12 : K.lookup f12 = some ⟨oc12, od12, .func (PySem.W.fnOf "left_without" "left_without" (defArgs s_left_without) (defBody s_left_without) (defScope s_left_without) .none kV12 dc12 pm12 an12 cd12 ct12), sl12⟩) (c12 : PySem.W.codeIn K cd12 "left_without" = true) (k12 : PySem.W.keepIn K (.ref f12) = true)
    (a13 : PySem.W.nsIn K mainGlobals "best_for" = some (some (.ref f13))) (l13 : K.lookup f13 = some ⟨oc13, od13, .func (PySem.W.fnOf "best_for" "best_for" (defArgs s_best_for) (defBody s_best_for) (defScope s_best_for) .none kV13 dc13 pm13 an13 cd13 ct13), sl13⟩) (c13 : PySem.W.codeIn K cd13 "best_for" = true) (k13 : PySem.W.keepIn K (.ref f13) = true)
    (a14 : PySem.W.nsIn K mainGlobals "_law_draws" = some (some (.ref f14))) (l14 : K.lookup f14 = some ⟨oc14, od14, .func (PySem.W.fnOf "_law_draws" "_law_draws" (defArgs s__law_draws) (defBody s__law_draws) (defScope s__law_draws) .none kV14 dc14 pm14 an14 cd14 ct14), sl14⟩) (c14 : PySem.W.codeIn K cd14 "_law_draws" = true) (k14 : PySem.W.keepIn K (.ref f14) = true)
    (a15 : PySem.W.nsIn K mainGlobals "_law_next" = some (some (.ref f15))) (l15 : K.lookup f15 = some ⟨oc15, od15, .func (PySem.W.fnOf "_law_next" "_law_next" (defArgs s__law_next) (defBody s__law_next) (defScope s__law_next) .none kV15 dc15 pm15 an15 cd15 ct15), sl15⟩) (c15 : PySem.W.codeIn K cd15 "_law_next" = true) (k15 : PySem.W.keepIn K (.ref f15) = true)
    (a16 : PySem.W.nsIn K mainGlobals "_law_row" = some (some (.ref f16))) (l16 : K.lookup f16 = some ⟨oc16, od16, .func (PySem.W.fnOf "_law_row" "_law_row" (defArgs s__law_row) (defBody s__law_row) (defScope s__law_row) .none kV16 dc16 pm16 an16 cd16 ct16), sl16⟩) (c16 : PySem.W.codeIn K cd16 "_law_row" = true) (k16 : PySem.W.keepIn K (.ref f16) = true)
    (a17 : PySem.W.nsIn K mainGlobals "_law_matches" = some (some (.ref f17))) (l17 : K.lookup f17 = some ⟨oc17, od17, .func (PySem.W.fnOf "_law_matches" "_law_matches" (defArgs s__law_matches) (defBody s__law_matches) (defScope s__law_matches) .none kV17 dc17 pm17 an17 cd17 ct17), sl17⟩) (c17 : PySem.W.codeIn K cd17 "_law_matches" = true) (k17 : PySem.W.keepIn K (.ref f17) = true)
    (a18 : PySem.W.nsIn K mainGlobals "_law_place" = some (some (.ref f18))) (l18 : K.lookup f18 = some ⟨oc18, od18, .func (PySem.W.fnOf "_law_place" "_law_place" (defArgs s__law_place) (defBody s__law_place) (defScope s__law_place) .none kV18 dc18 pm18 an18 cd18 ct18), sl18⟩) (c18 : PySem.W.codeIn K cd18 "_law_place" = true) (k18 : PySem.W.keepIn K (.ref f18) = true)
    (a19 : PySem.W.nsIn K mainGlobals "_law_blocks" = some (some (.ref f19))) (l19 : K.lookup f19 = some ⟨oc19, od19, .func (PySem.W.fnOf "_law_blocks" "_law_blocks" (defArgs s__law_blocks) (defBody s__law_blocks) (defScope s__law_blocks) .none kV19 dc19 pm19 an19 cd19 ct19), sl19⟩) (c19 : PySem.W.codeIn K cd19 "_law_blocks" = true) (k19 : PySem.W.keepIn K (.ref f19) = true)
    (a20 : PySem.W.nsIn K mainGlobals "law" = some (some (.ref f20))) (l20 : K.lookup f20 = some ⟨oc20, od20, .func (PySem.W.fnOf "law" "law" (defArgs s_law) (defBody s_law) (defScope s_law) .none kV20 dc20 pm20 an20 cd20 ct20), sl20⟩) (c20 : PySem.W.codeIn K cd20 "law" = true) (k20 : PySem.W.keepIn K (.ref f20) = true)
    (z1 : PySem.W.nsIn K mainGlobals "abs" = some none) (z2 : PySem.W.nsIn K mainGlobals "all" = some none) (z3 : PySem.W.nsIn K mainGlobals "dict" = some none) (z4 : PySem.W.nsIn K mainGlobals "int" = some none) (z5 : PySem.W.nsIn K mainGlobals "isinstance" = some none) (z6 : PySem.W.nsIn K mainGlobals "len" = some none) (z7 : PySem.W.nsIn K mainGlobals "list" = some none) (z8 : PySem.W.nsIn K mainGlobals "range" = some none) (z9 : PySem.W.nsIn K mainGlobals "set" = some none) (z10 : PySem.W.nsIn K mainGlobals "sorted" = some none) (z11 : PySem.W.nsIn K mainGlobals "str" = some none) (z12 : PySem.W.nsIn K mainGlobals "tuple" = some none) :
    ∃ fd : FuncData, (∀ (s : Shared) (v : Value), BindsTo s fd ⟨[v], []⟩ [("script", v)]) ∧ ∀ base : Heap, K.In base → base.Ns mainGlobals mg → FnOk l.prog w K mg base CX0 6 fa fd ["script"] (spLaw K) := by
  have e := hfa.symm.trans (PySem.W.mg_of X G a20)
  cases e
  have b : Bl mg := ⟨PySem.W.mg_none_of X G z1, PySem.W.mg_none_of X G z2, PySem.W.mg_none_of X G z3, PySem.W.mg_none_of X G z4, PySem.W.mg_none_of X G z5, PySem.W.mg_none_of X G z6, PySem.W.mg_none_of X G z7, PySem.W.mg_none_of X G z8, PySem.W.mg_none_of X G z9, PySem.W.mg_none_of X G z10, PySem.W.mg_none_of X G z11, PySem.W.mg_none_of X G z12⟩
  have F1 := fun_mk (st := s_is_pair) l1 c1 k1
  have b1 := F1.binds (ps := ["printers", "papers", "name", "paper"]) fun _ _ _ _ _ _ us hl => match us, hl with | [_, _, _, _], _ => rfl
  have F2 := fun_mk (st := s_is_match) l2 c2 k2
  have b2 := F2.binds (ps := ["printers", "papers", "thing"]) fun _ _ _ _ _ _ us hl => match us, hl with | [_, _, _], _ => rfl
  have F3 := fun_mk (st := s_would_rather) l3 c3 k3
  have b3 := F3.binds (ps := ["row", "one", "other"]) fun _ _ _ _ _ _ us hl => match us, hl with | [_, _, _], _ => rfl
  have F4 := fun_mk (st := s_blocks) l4 c4 k4
  have b4 := F4.binds (ps := ["printers", "papers", "match"]) fun _ _ _ _ _ _ us hl => match us, hl with | [_, _, _], _ => rfl
  have F5 := fun_mk (st := s_is_steady) l5 c5 k5
  have b5 := F5.binds (ps := ["printers", "papers", "match"]) fun _ _ _ _ _ _ us hl => match us, hl with | [_, _, _], _ => rfl
  have F6 := fun_mk (st := s_asked) l6 c6 k6
  have b6 := F6.binds (ps := ["askers", "others"]) fun _ _ _ _ _ _ us hl => match us, hl with | [_, _], _ => rfl
  have F7 := fun_mk (st := s_asked_first) l7 c7 k7
  have b7 := F7.binds (ps := ["printers", "papers"]) fun _ _ _ _ _ _ us hl => match us, hl with | [_, _], _ => rfl
  have F8 := fun_mk (st := s_offered_first) l8 c8 k8
  have b8 := F8.binds (ps := ["printers", "papers"]) fun _ _ _ _ _ _ us hl => match us, hl with | [_, _], _ => rfl
  have F9 := fun_mk (st := s_all_matches) l9 c9 k9
  have b9 := F9.binds (ps := ["printers", "papers"]) fun _ _ _ _ _ _ us hl => match us, hl with | [_, _], _ => rfl
  have F10 := fun_mk (st := s_all_steady) l10 c10 k10
  have b10 := F10.binds (ps := ["printers", "papers"]) fun _ _ _ _ _ _ us hl => match us, hl with | [_, _], _ => rfl
  have F11 := fun_mk (st := s_sure_pairs) l11 c11 k11
  have b11 := F11.binds (ps := ["printers", "papers"]) fun _ _ _ _ _ _ us hl => match us, hl with | [_, _], _ => rfl
  have F12 := fun_mk (st := s_left_without) l12 c12 k12
  have b12 := F12.binds (ps := ["printers", "papers"]) fun _ _ _ _ _ _ us hl => match us, hl with | [_, _], _ => rfl
  have F13 := fun_mk (st := s_best_for) l13 c13 k13
  have b13 := F13.binds (ps := ["printers", "papers", "name"]) fun _ _ _ _ _ _ us hl => match us, hl with | [_, _, _], _ => rfl
  have F14 := fun_mk (st := s__law_draws) l14 c14 k14
  have b14 := F14.binds (ps := ["script", "many"]) fun _ _ _ _ _ _ us hl => match us, hl with | [_, _], _ => rfl
  have F15 := fun_mk (st := s__law_next) l15 c15 k15
  have b15 := F15.binds (ps := ["w", "many"]) fun _ _ _ _ _ _ us hl => match us, hl with | [_, _], _ => rfl
  have F16 := fun_mk (st := s__law_row) l16 c16 k16
  have b16 := F16.binds (ps := ["w", "names"]) fun _ _ _ _ _ _ us hl => match us, hl with | [_, _], _ => rfl
  have F17 := fun_mk (st := s__law_matches) l17 c17 k17
  have b17 := F17.binds (ps := ["printers", "papers"]) fun _ _ _ _ _ _ us hl => match us, hl with | [_, _], _ => rfl
  have F18 := fun_mk (st := s__law_place) l18 c18 k18
  have b18 := F18.binds (ps := ["row", "name"]) fun _ _ _ _ _ _ us hl => match us, hl with | [_, _], _ => rfl
  have F19 := fun_mk (st := s__law_blocks) l19 c19 k19
  have b19 := F19.binds (ps := ["printers", "papers", "match"]) fun _ _ _ _ _ _ us hl => match us, hl with | [_, _, _], _ => rfl
  have F20 := fun_mk (st := s_law) l20 c20 k20
  refine ⟨PySem.W.fnOf "law" "law" (defArgs s_law) (defBody s_law) (defScope s_law) .none kV20 dc20 pm20 an20 cd20 ct20, fun s v => .of_eq rfl, fun base _ _ => ?_⟩
  have c_is_pair : Cal l.prog w K mg base "is_pair" 1 ["printers", "papers", "name", "paper"] (spF K 4 f_is_pair) := ⟨f1, _, ok_is_pair b F1, PySem.W.mg_of X G a1, k1, b1⟩
  have c_is_match : Cal l.prog w K mg base "is_match" 2 ["printers", "papers", "thing"] (spF K 3 f_is_match) := ⟨f2, _, ok_is_match b c_is_pair F2, PySem.W.mg_of X G a2, k2, b2⟩
  have c_would_rather : Cal l.prog w K mg base "would_rather" 1 ["row", "one", "other"] (spF K 3 f_would_rather) := ⟨f3, _, ok_would_rather b F3, PySem.W.mg_of X G a3, k3, b3⟩
  have c_blocks : Cal l.prog w K mg base "blocks" 2 ["printers", "papers", "match"] (spF K 3 f_blocks) := ⟨f4, _, ok_blocks b c_is_pair c_would_rather F4, PySem.W.mg_of X G a4, k4, b4⟩
  have c_is_steady : Cal l.prog w K mg base "is_steady" 3 ["printers", "papers", "match"] (spF K 3 f_is_steady) := ⟨f5, _, ok_is_steady b c_blocks F5, PySem.W.mg_of X G a5, k5, b5⟩
  have c_asked : Cal l.prog w K mg base "asked" 2 ["askers", "others"] (spF K 2 f_asked) := ⟨f6, _, ok_asked b c_would_rather F6, PySem.W.mg_of X G a6, k6, b6⟩
  have c_asked_first : Cal l.prog w K mg base "asked_first" 3 ["printers", "papers"] (spF K 2 f_asked_first) := ⟨f7, _, ok_asked_first b c_asked F7, PySem.W.mg_of X G a7, k7, b7⟩
  have c_offered_first : Cal l.prog w K mg base "offered_first" 3 ["printers", "papers"] (spF K 2 f_offered_first) := ⟨f8, _, ok_offered_first b c_asked F8, PySem.W.mg_of X G a8, k8, b8⟩
  have c_all_matches : Cal l.prog w K mg base "all_matches" 2 ["printers", "papers"] (spF K 2 f_all_matches) := ⟨f9, _, ok_all_matches b c_is_pair F9, PySem.W.mg_of X G a9, k9, b9⟩
  have c_all_steady : Cal l.prog w K mg base "all_steady" 4 ["printers", "papers"] (spF K 2 f_all_steady) := ⟨f10, _, ok_all_steady b c_all_matches c_is_steady F10, PySem.W.mg_of X G a10, k10, b10⟩
  have c_sure_pairs : Cal l.prog w K mg base "sure_pairs" 5 ["printers", "papers"] (spF K 2 f_sure_pairs) := ⟨f11, _, ok_sure_pairs b c_all_steady F11, PySem.W.mg_of X G a11, k11, b11⟩
  have c_left_without : Cal l.prog w K mg base "left_without" 4 ["printers", "papers"] (spF K 2 f_left_without) := ⟨f12, _, ok_left_without b c_asked_first F12, PySem.W.mg_of X G a12, k12, b12⟩
  have c_best_for : Cal l.prog w K mg base "best_for" 4 ["printers", "papers", "name"] (spF K 3 f_best_for) := ⟨f13, _, ok_best_for b c_asked_first F13, PySem.W.mg_of X G a13, k13, b13⟩
  have c_draws : Cal l.prog w K mg base "_law_draws" 1 ["script", "many"] (spDraws K 120) := ⟨f14, _, ok__law_draws b F14 hdr, PySem.W.mg_of X G a14, k14, b14⟩
  have c_next : Cal l.prog w K mg base "_law_next" 1 ["w", "many"] (spNext K) := ⟨f15, _, ok__law_next b F15, PySem.W.mg_of X G a15, k15, b15⟩
  have c__law_row : Cal l.prog w K mg base "_law_row" 2 ["w", "names"] (spW K 1 f__law_row) := ⟨f16, _, ok__law_row b c_next F16, PySem.W.mg_of X G a16, k16, b16⟩
  have c__law_matches : Cal l.prog w K mg base "_law_matches" 1 ["printers", "papers"] (spF K 2 f__law_matches) := ⟨f17, _, ok__law_matches b F17, PySem.W.mg_of X G a17, k17, b17⟩
  have c__law_place : Cal l.prog w K mg base "_law_place" 1 ["row", "name"] (spF K 2 f__law_place) := ⟨f18, _, ok__law_place b F18, PySem.W.mg_of X G a18, k18, b18⟩
  have c__law_blocks : Cal l.prog w K mg base "_law_blocks" 2 ["printers", "papers", "match"] (spF K 3 f__law_blocks) := ⟨f19, _, ok__law_blocks b c__law_place F19, PySem.W.mg_of X G a19, k19, b19⟩
  exact ok_law b c_draws c_next c__law_row c__law_matches c__law_blocks c_is_match c_blocks c_is_steady c_all_steady c_offered_first c_asked_first c_sure_pairs c_left_without c_best_for F20 hlw
end K39
open PySem PySem.W PyProof.Rows
set_option maxHeartbeats 0 in
theorem PySem.Challenge.cw_papermade_k39_who_gets_which_paper_holds : PySem.Challenge.rw_papermade_k39_who_gets_which_paper.Holds := by
  w_on; o_law; k_head; (case hw => w_witness2)
  k_fill
  refine L2.walk_of (l := PySem.Challenge.rw_papermade_k39_who_gets_which_paper) (n := 63) (k := 6) (x := "script") (CX := fun _ => L2.CX0) (sp := fun w => PX.spLaw _) rfl (by decide) rfl ⟨rfl, by decide, by decide⟩ (fun w h Y => PySem.W.kIn_of Y) ?F (fun _ _ a ns hl _ hS => ⟨a, ns, rfl, hS, hl, fun _ => rfl⟩) (fun _ _ _ _ _ h => h)
  case F =>
    intro w mg fa h KX G hmg
    refine' K39.all_mk K39.draws_ok K39.law_ok KX G hmg ?a1 ?l1 ?c1 ?k1 ?a2 ?l2 ?c2 ?k2 ?a3 ?l3 ?c3 ?k3 ?a4 ?l4 ?c4 ?k4 ?a5 ?l5 ?c5 ?k5 ?a6 ?l6 ?c6 ?k6 ?a7 ?l7 ?c7 ?k7 ?a8 ?l8 ?c8 ?k8 ?a9 ?l9 ?c9 ?k9 ?a10 ?l10 ?c10 ?k10 ?a11 ?l11 ?c11 ?k11 ?a12 ?l12 ?c12 ?k12 ?a13 ?l13 ?c13 ?k13 ?a14 ?l14 ?c14 ?k14 ?a15 ?l15 ?c15 ?k15 ?a16 ?l16 ?c16 ?k16 ?a17 ?l17 ?c17 ?k17 ?a18 ?l18 ?c18 ?k18 ?a19 ?l19 ?c19 ?k19 ?a20 ?l20 ?c20 ?k20 ?z1 ?z2 ?z3 ?z4 ?z5 ?z6 ?z7 ?z8 ?z9 ?z10 ?z11 ?z12
    (case a1 => k_is); (case l1 => k_is); (case c1 => k_is); (case k1 => k_is); (case a2 => k_is); (case l2 => k_is); (case c2 => k_is); (case k2 => k_is); (case a3 => k_is); (case l3 => k_is); (case c3 => k_is); (case k3 => k_is); (case a4 => k_is); (case l4 => k_is); (case c4 => k_is); (case k4 => k_is); (case a5 => k_is); (case l5 => k_is); (case c5 => k_is); (case k5 => k_is); (case a6 => k_is); (case l6 => k_is); (case c6 => k_is); (case k6 => k_is); (case a7 => k_is); (case l7 => k_is); (case c7 => k_is); (case k7 => k_is); (case a8 => k_is); (case l8 => k_is); (case c8 => k_is); (case k8 => k_is); (case a9 => k_is); (case l9 => k_is); (case c9 => k_is); (case k9 => k_is); (case a10 => k_is); (case l10 => k_is); (case c10 => k_is); (case k10 => k_is); (case a11 => k_is); (case l11 => k_is); (case c11 => k_is); (case k11 => k_is); (case a12 => k_is); (case l12 => k_is); (case c12 => k_is); (case k12 => k_is); (case a13 => k_is); (case l13 => k_is); (case c13 => k_is); (case k13 => k_is); (case a14 => k_is); (case l14 => k_is); (case c14 => k_is); (case k14 => k_is); (case a15 => k_is); (case l15 => k_is); (case c15 => k_is); (case k15 => k_is); (case a16 => k_is); (case l16 => k_is); (case c16 => k_is); (case k16 => k_is); (case a17 => k_is); (case l17 => k_is); (case c17 => k_is); (case k17 => k_is); (case a18 => k_is); (case l18 => k_is); (case c18 => k_is); (case k18 => k_is); (case a19 => k_is); (case l19 => k_is); (case c19 => k_is); (case k19 => k_is); (case a20 => k_is); (case l20 => k_is); (case c20 => k_is); (case k20 => k_is); (case z1 => k_is); (case z2 => k_is); (case z3 => k_is); (case z4 => k_is); (case z5 => k_is); (case z6 => k_is); (case z7 => k_is); (case z8 => k_is); (case z9 => k_is); (case z10 => k_is); (case z11 => k_is); (case z12 => k_is)
