import PyProof.Rows.All
import Wide.All
import OpenK.AllK
import Wide.FinOn
import HandS.ForMost
import HandS.Deep
import HandS.DeepEq
import HandS.Walk
import HandS.Zip
import HandS.TupAny
import HandS.TupLen
import HandS.Small
import HandS.Conv
import HandS.Wide
import KE.SortData
import KE.DataMinMax
import KE.KeyNested
import HandS.TupMul
import HandS.TupLe
import KE.KTupSum
import HandS.Style
import KE.Datum
import HandS.IsInst
import HandS.Dict
import HandS.More
import KE.KUnpack
import KE.KEqNest
import KE.KDictDisplayH
import HandS.Sort
import PySem.Challenge.RW_papermade_k33_piles_that_are_turned
set_option Elab.async false
set_option linter.all false
set_option maxRecDepth 100000
/-! PX: a reading of Python's expressions and statements by pure functions over data (PyData), over the layer HandS. -/
namespace PX
open PySem PySem.Spec PyProof.Rows L2

/-- the known part of the heap, and the world -/
structure FW where
  k : PySem.W.Frag
  w : World
instance : Coe FW PySem.W.Frag := ⟨FW.k⟩
abbrev _root_.L2.Cx.KW (X : L2.Cx) : FW := ⟨X.K, X.w⟩

/-! ### dicts whose keys are tuples of any depth -/
mutual
/-- the key that a datum is -/
def nkOf : PyData → Option NestedKey
  | .none => some .none
  | .bool b => some (.num (if b = true then 1 else 0))
  | .int i => some (.num i)
  | .str x => some (.text x)
  | .tuple ds => (nksOf ds).map NestedKey.tup
  | _ => none
def nksOf : List PyData → Option (List NestedKey)
  | [] => some []
  | d :: ds => (nkOf d).bind fun k => (nksOf ds).map (k :: ·)
end
/-- of a tuple, at most eight deep -/
def nkT (d : PyData) : Option NestedKey := match d with
  | .tuple _ => (nkOf d).bind fun k => if k.depth ≤ 8 then some k else none
  | _ => none
abbrev NRow := NestedKey × Addr × V
def DN (w : World) (a : Addr) (kvs : List NRow) : Heap → Prop := fun h => kvs.length ≤ sizeLine ∧ (a == sysModules) = false ∧
  ∃ xs : List (NestedKey × Addr × Value), Paired (fun (p : NRow) (q : NestedKey × Addr × Value) => p.1 = q.1 ∧ p.2.1 = q.2.1 ∧ RelV p.2.2 q.2.2) kvs xs ∧
    ∃ o es ep, h.get? a = some o ∧ o.ExactDict ∧ o.data = .dict es ep ∧ es.toList = xs.map (fun x => ⟨x.1.hash w, .ref x.2.1, x.2.2⟩) ∧ (xs.map (·.1)).Nodup
abbrev HN (w : World) (a : Addr) (kvs : List NRow) : HO := .ext (DN w a kvs)

/-! ### a value reads as a datum, over the frozen part G of the heap -/
def keyD : Key → PyData
  | .inl i => .int i
  | .inr s => .str s
def keyTD (k : List Key) : PyData := .tuple (k.map keyD)
def keyOk : Key → Bool
  | .inl _ => true
  | .inr s => PyData.strOk s

/-- may a tuple of the written part (a constant of the module) be met? -/
def ZZ : Bool := false
def SqZ (K : FW) (G : Hp) (a : Addr) (xs : List V) : Prop := G a = some (.tup xs) ∨ (ZZ = true ∧ SqT K G a xs)
theorem SqZ.sqT {K : FW} {G : Hp} {a : Addr} {xs : List V} (h : SqZ K G a xs) : SqT K G a xs := by
  rcases h with h | ⟨_, h⟩
  · exact .of h
  · exact h
theorem SqZ.tup {K : FW} {G : Hp} {a : Addr} {xs : List V} (h : SqZ K G a xs) (z : ZZ = false) : G a = some (.tup xs) := by
  rcases h with h | ⟨h, _⟩
  · exact h
  · rw [z] at h; exact absurd h Bool.false_ne_true

mutual
inductive Rp (K : FW) (G : Hp) : V → PyData → Prop
  | non : Rp K G .non .none
  | bl (b : Bool) : Rp K G (.bl b) (.bool b)
  | int (i : Int) : Rp K G (.int i) (.int i)
  | str (x : Str) (h : PyData.strOk x = true) : Rp K G (.str x) (.str x)
  | lst {a : Addr} {xs : List V} {ds : List PyData} : G a = some (.lst xs) → RpL K G xs ds → Rp K G (.ref a) (.list ds)
  | tup {a : Addr} {xs : List V} {ds : List PyData} : SqZ K G a xs → RpL K G xs ds → Rp K G (.ref a) (.tuple ds)
  | dK {a : Addr} {kvs : List (Key × V)} {es : List (PyData × PyData)} : Rd G a (.dK kvs) → RpD K G kvs es → Rp K G (.ref a) (.dict es)
  | dT {a a' : Addr} {kvs : List NRow} {es : List (PyData × PyData)} : Rd G a (HN K.w a' kvs) → RpT K G kvs es → Rp K G (.ref a) (.dict ((.none, .none) :: es))
inductive RpL (K : FW) (G : Hp) : List V → List PyData → Prop
  | nil : RpL K G [] []
  | cons {v : V} {vs : List V} {d : PyData} {ds : List PyData} : Rp K G v d → RpL K G vs ds → RpL K G (v :: vs) (d :: ds)
inductive RpD (K : FW) (G : Hp) : List (Key × V) → List (PyData × PyData) → Prop
  | nil : RpD K G [] []
  | cons {k : Key} {v : V} {vs : List (Key × V)} {d : PyData} {ds : List (PyData × PyData)} : keyOk k = true → Rp K G v d → RpD K G vs ds → RpD K G ((k, v) :: vs) ((keyD k, d) :: ds)
inductive RpT (K : FW) (G : Hp) : List NRow → List (PyData × PyData) → Prop
  | nil : RpT K G [] []
  | cons {k : NestedKey} {b : Addr} {v : V} {vs : List NRow} {kd d : PyData} {ds : List (PyData × PyData)} : nkT kd = some k → Rp K G (.ref b) kd → Rp K G v d → RpT K G vs ds → RpT K G ((k, b, v) :: vs) ((kd, d) :: ds)
end

/-- what is read in G is read in G' -/
structure Sub (G G' : Hp) : Prop where
  lst : ∀ a xs, G a = some (.lst xs) → G' a = some (.lst xs)
  tup : ∀ a xs, Rd G a (.tup xs) → Rd G' a (.tup xs)
  tupE : ∀ a xs, G a = some (.tup xs) → G' a = some (.tup xs)
  dK : ∀ a xs, Rd G a (.dK xs) → Rd G' a (.dK xs)
  ext : ∀ a φ, Rd G a (.ext φ) → Rd G' a (.ext φ)
theorem Rd.same {G G' : Hp} (h : Same G G') {a : Addr} {u : HO} (r : Rd G a u) : Rd G' a u := by
  rcases r with r | ⟨o, r⟩
  · exact .inl (h _ _ r)
  · exact .inr ⟨o, h _ _ r⟩
theorem Sub.of {G G' : Hp} (h : Same G G') : Sub G G' := ⟨fun _ _ => h _ _, fun _ _ => Rd.same h, fun _ _ => h _ _, fun _ _ => Rd.same h, fun _ _ => Rd.same h⟩
section
variable {K : FW} {G G' : Hp}
theorem Sub.sqT (h : Sub G G') {a : Addr} {xs : List V} (q : SqT K G a xs) : SqT K G' a xs := by
  rcases q with q | q
  · exact .inl (h.tup _ _ q)
  · exact .inr q
theorem Sub.sqZ (h : Sub G G') {a : Addr} {xs : List V} (q : SqZ K G a xs) : SqZ K G' a xs := by
  rcases q with q | ⟨z, q⟩
  · exact .inl (h.tupE _ _ q)
  · exact .inr ⟨z, h.sqT q⟩
mutual
theorem Rp.mono (h : Sub G G') : ∀ {v : V} {d : PyData}, Rp K G v d → Rp K G' v d
  | _, _, .non => .non
  | _, _, .bl b => .bl b
  | _, _, .int i => .int i
  | _, _, .str x h => .str x h
  | _, _, .lst a b => .lst (h.lst _ _ a) (RpL.mono h b)
  | _, _, .tup a b => .tup (h.sqZ a) (RpL.mono h b)
  | _, _, .dK a b => .dK (h.dK _ _ a) (RpD.mono h b)
  | _, _, .dT a b => .dT (h.ext _ _ a) (RpT.mono h b)
theorem RpL.mono (h : Sub G G') : ∀ {v : List V} {d : List PyData}, RpL K G v d → RpL K G' v d
  | _, _, .nil => .nil
  | _, _, .cons a b => .cons (Rp.mono h a) (RpL.mono h b)
theorem RpD.mono (h : Sub G G') : ∀ {v : List (Key × V)} {d : List (PyData × PyData)}, RpD K G v d → RpD K G' v d
  | _, _, .nil => .nil
  | _, _, .cons o a b => .cons o (Rp.mono h a) (RpD.mono h b)
theorem RpT.mono (h : Sub G G') : ∀ {v : List NRow} {d : List (PyData × PyData)}, RpT K G v d → RpT K G' v d
  | _, _, .nil => .nil
  | _, _, .cons o c a b => .cons o (Rp.mono h c) (Rp.mono h a) (RpT.mono h b)
end
theorem RpL.length : ∀ {v : List V} {d : List PyData}, RpL K G v d → v.length = d.length
  | _, _, .nil => rfl
  | _, _, .cons _ b => congrArg (· + 1) (RpL.length b)
theorem RpD.length : ∀ {v : List (Key × V)} {d : List (PyData × PyData)}, RpD K G v d → v.length = d.length
  | _, _, .nil => rfl
  | _, _, .cons _ _ b => congrArg (· + 1) (RpD.length b)
theorem RpT.length : ∀ {v : List NRow} {d : List (PyData × PyData)}, RpT K G v d → v.length = d.length
  | _, _, .nil => rfl
  | _, _, .cons _ _ _ b => congrArg (· + 1) (RpT.length b)
theorem RpL.append : ∀ {v w : List V} {d e : List PyData}, RpL K G v d → RpL K G w e → RpL K G (v ++ w) (d ++ e)
  | _, _, _, _, .nil, h => h
  | _, _, _, _, .cons a b, h => .cons a (RpL.append b h)
theorem RpL.get : ∀ {v : List V} {d : List PyData} {i : Nat} {e : PyData}, RpL K G v d → d[i]? = some e → ∃ x, v[i]? = some x ∧ Rp K G x e
  | _, _, _, _, .nil, h => by simp at h
  | _, _, 0, _, .cons a _, h => by simp at h; subst h; exact ⟨_, rfl, a⟩
  | _, _, i + 1, _, .cons _ b, h => by
    obtain ⟨x, h1, h2⟩ := RpL.get (i := i) b (by simpa using h)
    exact ⟨x, by simpa using h1, h2⟩
theorem RpL.get' : ∀ {v : List V} {d : List PyData} {i : Nat} {x : V}, RpL K G v d → v[i]? = some x → ∃ e, d[i]? = some e ∧ Rp K G x e
  | _, _, _, _, .nil, h => by simp at h
  | _, _, 0, _, .cons a _, h => by simp at h; subst h; exact ⟨_, rfl, a⟩
  | _, _, i + 1, _, .cons _ b, h => by
    obtain ⟨x, h1, h2⟩ := RpL.get' (i := i) b (by simpa using h)
    exact ⟨x, by simpa using h1, h2⟩
theorem RpL.take : ∀ {v : List V} {d : List PyData} (n : Nat), RpL K G v d → RpL K G (v.take n) (d.take n)
  | _, _, 0, _ => .nil
  | _, _, _ + 1, .nil => .nil
  | _, _, n + 1, .cons a b => .cons a (RpL.take n b)
theorem RpL.drop : ∀ {v : List V} {d : List PyData} (n : Nat), RpL K G v d → RpL K G (v.drop n) (d.drop n)
  | _, _, 0, h => h
  | _, _, _ + 1, .nil => .nil
  | _, _, n + 1, .cons _ b => RpL.drop n b
theorem RpL.set {x : V} {e : PyData} (r : Rp K G x e) : ∀ {v : List V} {d : List PyData} (i : Nat), RpL K G v d → RpL K G (v.set i x) (d.set i e)
  | _, _, _, .nil => .nil
  | _, _, 0, .cons _ b => .cons r b
  | _, _, i + 1, .cons a b => .cons a (RpL.set r i b)
theorem RpL.reverse : ∀ {v : List V} {d : List PyData}, RpL K G v d → RpL K G v.reverse d.reverse
  | _, _, .nil => .nil
  | _, _, .cons a b => by
    rw [List.reverse_cons, List.reverse_cons]
    exact (RpL.reverse b).append (.cons a .nil)
theorem RpL.single {x : V} {e : PyData} (r : Rp K G x e) : RpL K G [x] [e] := .cons r .nil
theorem RpL.ints : ∀ (ns : List Int), RpL K G (ns.map V.int) (ns.map PyData.int)
  | [] => .nil
  | n :: ns => .cons (.int n) (RpL.ints ns)
theorem RpL.of_ints : ∀ {v : List V} {ns : List Int}, RpL K G v (ns.map PyData.int) → v = ns.map V.int
  | _, [], h => by cases h; rfl
  | _, n :: ns, h => by
    cases h with
    | cons a b =>
      cases a
      rw [RpL.of_ints b]
      rfl
theorem RpL.of_bools : ∀ {v : List V} {ns : List Bool}, RpL K G v (ns.map PyData.bool) → v = ns.map V.bl
  | _, [], h => by cases h; rfl
  | _, n :: ns, h => by
    cases h with
    | cons a b =>
      cases a
      rw [RpL.of_bools b]
      rfl
end

/-- what a mutable object's content reads as -/
def RpO (K : FW) (G : Hp) : HO → PyData → Prop
  | .lst xs, .list ds => RpL K G xs ds
  | .dK kvs, .dict es => RpD K G kvs es
  | .ext φ, .dict es => ∃ a kvs fs, φ = DN K.w a kvs ∧ es = (.none, .none) :: fs ∧ RpT K G kvs fs
  | _, _ => False
theorem RpO.mono {K : FW} {G G' : Hp} (h : Sub G G') {o : HO} {d : PyData} (r : RpO K G o d) : RpO K G' o d := by
  cases o <;> cases d <;> first | exact RpL.mono h r | exact RpD.mono h r | (obtain ⟨a, kvs, fs, e0, e, r⟩ := r; exact ⟨a, kvs, fs, e0, e, RpT.mono h r⟩) | exact r
theorem RpO.mut {K : FW} {G : Hp} {o : HO} {d : PyData} (r : RpO K G o d) : Mut (some o) := by
  cases o <;> cases d <;> first | exact trivial | exact r.elim
theorem RpO.notTup {K : FW} {G : Hp} {o : HO} {d : PyData} (r : RpO K G o d) : ∀ xs, o ≠ .tup xs := by
  cases o <;> cases d <;> first | exact r.elim | exact fun _ e => nomatch e
theorem RpO.rp {K : FW} {G : Hp} {o : HO} {d : PyData} {a : Addr} (r : RpO K G o d) (h : G a = some o) : Rp K G (.ref a) d := by
  cases o <;> cases d <;> first | exact r.elim | exact .lst h r | exact .dK (.inl h) r | (obtain ⟨a, kvs, fs, rfl, rfl, r⟩ := r; exact .dT (.inl h) r)
theorem RpO.rpL {K : FW} {G : Hp} {od : Obj} {o : HO} {es : List (PyData × PyData)} {a : Addr} (r : RpO K G o (.dict es)) (h : G a = some (.frz od o)) : Rp K G (.ref a) (.dict es) := by
  cases o <;> first | exact r.elim | exact .dK (.inr ⟨_, h⟩) r | (obtain ⟨a, kvs, fs, rfl, rfl, r⟩ := r; exact .dT (.inr ⟨_, h⟩) r)

/-! ### data without dicts -/
mutual
def noD : PyData → Bool
  | .dict _ => false
  | .list xs => noDs xs
  | .tuple xs => noDs xs
  | _ => true
def noDs : List PyData → Bool
  | [] => true
  | x :: xs => noD x && noDs xs
end
section
variable {X : Cx} {pins : List (Addr × Obj)} {σ : L2.St} {H : Hp} {s : Shared}
mutual
theorem Rp.dp {K : FW} : ∀ {v : V} {d : PyData}, Rp K H v d → noD d = true → Dp K H v d ∧ d.canLay0 = true
  | _, _, .non, _ => ⟨.non, rfl⟩
  | _, _, .bl b, _ => ⟨.bl b, rfl⟩
  | _, _, .int i, _ => ⟨.int i, rfl⟩
  | _, _, .str x h, _ => ⟨.str x, by simpa only [PyData.canLay0] using h⟩
  | _, _, .lst a b, n => by
    have q := RpL.dp b (by simpa only [noD] using n)
    exact ⟨.lst (.of a) q.1, by simpa only [PyData.canLay0] using q.2⟩
  | _, _, .tup a b, n => by
    have q := RpL.dp b (by simpa only [noD] using n)
    exact ⟨.tup a.sqT q.1, by simpa only [PyData.canLay0] using q.2⟩
  | _, _, .dK _ _, n => by simp [noD] at n
  | _, _, .dT _ _, n => by simp [noD] at n
theorem RpL.dp {K : FW} : ∀ {v : List V} {d : List PyData}, RpL K H v d → noDs d = true → DpAll K H v d ∧ PyData.canLayAll0 d = true
  | _, _, .nil, _ => ⟨.nil, rfl⟩
  | _, _, .cons a b, n => by
    simp only [noDs, Bool.and_eq_true] at n
    have q1 := Rp.dp a n.1
    have q2 := RpL.dp b n.2
    exact ⟨.cons q1.1 q2.1, by simp only [PyData.canLayAll0, q1.2, q2.2, Bool.and_self]⟩
end
theorem Rp.reads (I : Inv X pins σ H s) {v : V} {d : PyData} {u : Value} (h : Rp X.KW H v d) (n : noD d = true) (r : RelV v u) : (∃ as, Reads s.heap u d as) ∧ d.canLay0 = true :=
  ⟨Dp.reads I d v u (h.dp n).1 r, (h.dp n).2⟩
theorem RpL.reads (I : Inv X pins σ H s) {v : List V} {d : List PyData} {u : List Value} (h : RpL X.KW H v d) (n : noDs d = true) (r : Vals v u) : (∃ as, ReadsAll s.heap u d as) ∧ PyData.canLayAll0 d = true :=
  ⟨Dp.readsAll I d v u (h.dp n).1 r, (h.dp n).2⟩
end

/-! ### the state -/
inductive Sl where
  /-- nothing that matters -/
  | no
  /-- a datum that nothing changes any more -/
  | pl (d : PyData)
  /-- a list or dict of this def's own -/
  | ow (d : PyData)
  /-- the same while a loop walks it -/
  | lk (od : Obj) (o : HO) (d : PyData)
  /-- the draws' dict -/
  | wd
  /-- the script -/
  | sc (ns : List Int)
def Sl.own : Sl → Bool
  | .ow _ => true
  | .lk _ _ _ => true
  | .wd => true
  | _ => false
abbrev SEnv : Type := List Sl
def Own (env : SEnv) (σ : L2.St) (i : Nat) (p : Addr) : Prop := (∃ s, env[i]? = some s ∧ s.own = true) ∧ σ[i]? = some (some (V.ref p))

/-- the dict of draws -/
def wdO (l : Addr) (k : Int) : HO := .dK [(Sum.inr (Str.ofString "draws"), V.ref l), (Sum.inr (Str.ofString "at"), V.int k)]

structure Sta (K : FW) (B Gb G H : Hp) (σ : L2.St) (env : SEnv) (W : List Int) : Prop where
  sg : Same G H
  sb : Same B H
  sgb : Same Gb G
  gb : ∀ a o, B a = some o → G a ≠ none → Gb a ≠ none ∨ ∃ xs, o = .tup xs
  len : env.length = σ.length
  pl : ∀ (i : Nat) (d : PyData), env[i]? = some (Sl.pl d) → ∃ (v : V), σ[i]? = some (some v) ∧ Rp K G v d
  ow : ∀ (i : Nat) (d : PyData), env[i]? = some (Sl.ow d) → ∃ (p : Addr) (o : HO), σ[i]? = some (some (V.ref p)) ∧ G p = none ∧ B p = none ∧ H p = some o ∧ RpO K G o d
  lk : ∀ (i : Nat) (od : Obj) (o : HO) (d : PyData), env[i]? = some (Sl.lk od o d) → ∃ (p : Addr), σ[i]? = some (some (V.ref p)) ∧ G p = none ∧ B p = none ∧ H p = some (.frz od o) ∧ RpO K G o d ∧ ∃ es, d = .dict es
  wd : ∀ (i : Nat), env[i]? = some Sl.wd → ∃ (p l : Addr) (ns : List Int) (k : Nat), σ[i]? = some (some (V.ref p)) ∧ G p = none ∧ B p = none ∧ H p = some (wdO l (k : Nat)) ∧ G l = some (.lst (ns.map V.int)) ∧ W = ns.drop k
  sc : ∀ (i : Nat) (ns : List Int), env[i]? = some (Sl.sc ns) → ∃ (p : Addr), σ[i]? = some (some (V.ref p)) ∧ SqL K G p (ns.map V.int)
  one : ∀ (i j : Nat), env[i]? = some Sl.wd → env[j]? = some Sl.wd → i = j
  sep : ∀ i j p, Own env σ i p → Own env σ j p → i = j

inductive Kd where
  | im | fr | pk (i : Nat)

/-- a value on its way -/
def VOk (K : FW) (B G H : Hp) (σ : L2.St) (env : SEnv) (v : V) (d : PyData) : Kd → Prop
  | .im => Rp K G v d
  | .fr => ∃ p o, v = .ref p ∧ G p = none ∧ B p = none ∧ H p = some o ∧ RpO K G o d ∧ ∀ i, ¬ Own env σ i p
  | .pk i => σ[i]? = some (some v) ∧ (env[i]? = some (Sl.ow d) ∨ ∃ od o, env[i]? = some (Sl.lk od o d))

section
variable {K : FW} {B Gb G H G' H' : Hp} {σ : L2.St} {env : SEnv} {W W' : List Int} {v v' : V} {d d' : PyData} {k k' : Kd}

theorem Sta.own_at (S : Sta K B Gb G H σ env W) {i : Nat} {p : Addr} (h : Own env σ i p) : G p = none ∧ B p = none ∧ ∃ o, H p = some o ∧ ∀ xs, o ≠ .tup xs := by
  obtain ⟨⟨s, e, ho⟩, hp⟩ := h
  cases s with
  | no => exact absurd ho Bool.false_ne_true
  | pl d => exact absurd ho Bool.false_ne_true
  | ow d =>
    obtain ⟨q, o, h1, h2, h3, h4, h5⟩ := S.ow i d e
    rw [hp] at h1; cases h1
    exact ⟨h2, h3, o, h4, h5.notTup⟩
  | lk od o d =>
    obtain ⟨q, h1, h2, h3, h4, h5⟩ := S.lk i od o d e
    rw [hp] at h1; cases h1
    exact ⟨h2, h3, _, h4, fun _ z => nomatch z⟩
  | sc ns => exact absurd ho Bool.false_ne_true
  | wd =>
    obtain ⟨q, l, ns, k, h1, h2, h3, h4, _⟩ := S.wd i e
    rw [hp] at h1; cases h1
    exact ⟨h2, h3, _, h4, fun _ z => nomatch z⟩

/-- a value reads as a list: its own items -/
theorem VOk.list {ds : List PyData} (S : Sta K B Gb G H σ env W) (h : VOk K B G H σ env v (.list ds) k) : ∃ a xs, v = .ref a ∧ H a = some (.lst xs) ∧ RpL K G xs ds := by
  cases k with
  | im => cases h with | lst a b => exact ⟨_, _, rfl, S.sg _ _ a, b⟩
  | fr =>
    obtain ⟨p, o, rfl, _, _, h3, h4, _⟩ := h
    cases o <;> first | exact h4.elim | exact ⟨p, _, rfl, h3, h4⟩
  | pk i =>
    obtain ⟨h1, h2 | ⟨od, o, h2⟩⟩ := h
    · obtain ⟨p, o, h3, _, _, h4, h5⟩ := S.ow i _ h2
      rw [h1] at h3; cases h3
      cases o <;> first | exact h5.elim | exact ⟨p, _, rfl, h4, h5⟩
    · obtain ⟨p, h3, _, _, h4, h5, es, z⟩ := S.lk i _ _ _ h2
      cases z
theorem VOk.tuple {ds : List PyData} (S : Sta K B Gb G H σ env W) (h : VOk K B G H σ env v (.tuple ds) k) : ∃ a xs, v = .ref a ∧ SqZ K G a xs ∧ RpL K G xs ds := by
  cases k with
  | im => cases h with | tup a b => exact ⟨_, _, rfl, a, b⟩
  | fr =>
    obtain ⟨p, o, rfl, _, _, h3, h4, _⟩ := h
    cases o <;> exact h4.elim
  | pk i =>
    obtain ⟨h1, h2 | ⟨od, o, h2⟩⟩ := h
    · obtain ⟨p, o, h3, _, _, h4, h5⟩ := S.ow i _ h2
      cases o <;> exact h5.elim
    · obtain ⟨p, h3, _, _, h4, h5, es, z⟩ := S.lk i _ _ _ h2
      cases z
theorem VOk.dict {es : List (PyData × PyData)} (S : Sta K B Gb G H σ env W) (h : VOk K B G H σ env v (.dict es) k) :
    ∃ a, v = .ref a ∧ ((∃ kvs, Rd H a (.dK kvs) ∧ RpD K G kvs es) ∨ ∃ a' kvs fs, es = (.none, .none) :: fs ∧ Rd H a (HN K.w a' kvs) ∧ RpT K G kvs fs) := by
  cases k with
  | im =>
    cases h with
    | dK a b => exact ⟨_, rfl, .inl ⟨_, Rd.same S.sg a, b⟩⟩
    | dT a b => exact ⟨_, rfl, .inr ⟨_, _, _, rfl, Rd.same S.sg a, b⟩⟩
  | fr =>
    obtain ⟨p, o, rfl, _, _, h3, h4, _⟩ := h
    cases o <;> first | exact h4.elim | exact ⟨p, rfl, .inl ⟨_, .inl h3, h4⟩⟩ | (obtain ⟨a', kvs, fs, rfl, e, h4⟩ := h4; exact ⟨p, rfl, .inr ⟨a', kvs, fs, e, .inl h3, h4⟩⟩)
  | pk i =>
    obtain ⟨h1, h2 | ⟨od, o, h2⟩⟩ := h
    · obtain ⟨p, o, h3, _, _, h4, h5⟩ := S.ow i _ h2
      rw [h1] at h3; cases h3
      cases o <;> first | exact h5.elim | exact ⟨p, rfl, .inl ⟨_, .inl h4, h5⟩⟩ | (obtain ⟨a', kvs, fs, rfl, e, h5⟩ := h5; exact ⟨p, rfl, .inr ⟨a', kvs, fs, e, .inl h4, h5⟩⟩)
    · obtain ⟨p, h3, _, _, h4, h5, _⟩ := S.lk i _ _ _ h2
      rw [h1] at h3; cases h3
      cases o <;> first | exact h5.elim | exact ⟨p, rfl, .inl ⟨_, .inr ⟨_, h4⟩, h5⟩⟩ | (obtain ⟨a', kvs, fs, rfl, e, h5⟩ := h5; exact ⟨p, rfl, .inr ⟨a', kvs, fs, e, .inr ⟨_, h4⟩, h5⟩⟩)
theorem VOk.int {i : Int} (S : Sta K B Gb G H σ env W) (h : VOk K B G H σ env v (.int i) k) : v = .int i := by
  cases k with
  | im => cases h; rfl
  | fr => obtain ⟨p, o, rfl, _, _, h3, h4, _⟩ := h; cases o <;> exact h4.elim
  | pk j =>
    obtain ⟨h1, h2 | ⟨od, o, h2⟩⟩ := h
    · obtain ⟨p, o, h3, _, _, h4, h5⟩ := S.ow j _ h2
      cases o <;> exact h5.elim
    · obtain ⟨p, h3, _, _, h4, h5, es, z⟩ := S.lk j _ _ _ h2
      cases z
theorem VOk.bool {i : Bool} (S : Sta K B Gb G H σ env W) (h : VOk K B G H σ env v (.bool i) k) : v = .bl i := by
  cases k with
  | im => cases h; rfl
  | fr => obtain ⟨p, o, rfl, _, _, h3, h4, _⟩ := h; cases o <;> exact h4.elim
  | pk j =>
    obtain ⟨h1, h2 | ⟨od, o, h2⟩⟩ := h
    · obtain ⟨p, o, h3, _, _, h4, h5⟩ := S.ow j _ h2
      cases o <;> exact h5.elim
    · obtain ⟨p, h3, _, _, h4, h5, es, z⟩ := S.lk j _ _ _ h2
      cases z
theorem VOk.str {i : Str} (S : Sta K B Gb G H σ env W) (h : VOk K B G H σ env v (.str i) k) : v = .str i := by
  cases k with
  | im => cases h; rfl
  | fr => obtain ⟨p, o, rfl, _, _, h3, h4, _⟩ := h; cases o <;> exact h4.elim
  | pk j =>
    obtain ⟨h1, h2 | ⟨od, o, h2⟩⟩ := h
    · obtain ⟨p, o, h3, _, _, h4, h5⟩ := S.ow j _ h2
      cases o <;> exact h5.elim
    · obtain ⟨p, h3, _, _, h4, h5, es, z⟩ := S.lk j _ _ _ h2
      cases z
theorem VOk.strOk {i : Str} (S : Sta K B Gb G H σ env W) (h : VOk K B G H σ env v (.str i) k) : PyData.strOk i = true := by
  cases k with
  | im => cases h; assumption
  | fr => obtain ⟨p, o, rfl, _, _, h3, h4, _⟩ := h; cases o <;> exact h4.elim
  | pk j =>
    obtain ⟨h1, h2 | ⟨od, o, h2⟩⟩ := h
    · obtain ⟨p, o, h3, _, _, h4, h5⟩ := S.ow j _ h2
      cases o <;> exact h5.elim
    · obtain ⟨p, h3, _, _, h4, h5, es, z⟩ := S.lk j _ _ _ h2
      cases z
theorem VOk.none (S : Sta K B Gb G H σ env W) (h : VOk K B G H σ env v .none k) : v = .non := by
  cases k with
  | im => cases h; rfl
  | fr => obtain ⟨p, o, rfl, _, _, h3, h4, _⟩ := h; cases o <;> exact h4.elim
  | pk j =>
    obtain ⟨h1, h2 | ⟨od, o, h2⟩⟩ := h
    · obtain ⟨p, o, h3, _, _, h4, h5⟩ := S.ow j _ h2
      cases o <;> exact h5.elim
    · obtain ⟨p, h3, _, _, h4, h5, es, z⟩ := S.lk j _ _ _ h2
      cases z
/-- the value is an object with the datum at its root in H (over G within) -/
theorem VOk.rp (S : Sta K B Gb G H σ env W) (h : VOk K B G H σ env v d k) : Rp K H v d := by
  cases k with
  | im => exact Rp.mono (Sub.of S.sg) h
  | fr =>
    obtain ⟨p, o, rfl, _, _, h3, h4, _⟩ := h
    exact (h4.mono (Sub.of S.sg)).rp h3
  | pk i =>
    obtain ⟨h1, h2 | ⟨od, o, h2⟩⟩ := h
    · obtain ⟨p, o, h3, _, _, h4, h5⟩ := S.ow i _ h2
      rw [h1] at h3; cases h3
      exact (h5.mono (Sub.of S.sg)).rp h4
    · obtain ⟨p, h3, _, _, h4, h5, es, rfl⟩ := S.lk i _ _ _ h2
      rw [h1] at h3; cases h3
      exact (h5.mono (Sub.of S.sg)).rpL h4

/-! ### what may happen to the heap -/
theorem same_upd {H : Hp} {p : Addr} {o : HO} (h : H p = Option.none) : Same H (upd H p o) := fun b x e => by
  rw [upd_ne (ne_of_none e h)]
  exact e
/-- a new object beside the state -/
theorem Sta.laid (S : Sta K B Gb G H σ env W) {p : Addr} {o : HO} (h : H p = Option.none) : Sta K B Gb G (upd H p o) σ env W where
  sg := S.sg.trans (same_upd h)
  sb := S.sb.trans (same_upd h)
  sgb := S.sgb
  gb := S.gb
  len := S.len
  pl := S.pl
  ow := fun i d e => by
    obtain ⟨q, o, h1, h2, h3, h4, h5⟩ := S.ow i d e
    exact ⟨q, o, h1, h2, h3, same_upd h _ _ h4, h5⟩
  lk := fun i od o d e => by
    obtain ⟨q, h1, h2, h3, h4, h5⟩ := S.lk i od o d e
    exact ⟨q, h1, h2, h3, same_upd h _ _ h4, h5⟩
  wd := fun i e => by
    obtain ⟨q, l, ns, k, h1, h2, h3, h4, h5⟩ := S.wd i e
    exact ⟨q, l, ns, k, h1, h2, h3, same_upd h _ _ h4, h5⟩
  sc := S.sc
  one := S.one
  sep := S.sep
theorem Sta.new (S : Sta K B Gb G H σ env W) {p : Addr} (h : H p = Option.none) : G p = Option.none ∧ B p = Option.none ∧ ∀ i, ¬ Own env σ i p :=
  ⟨S.sg.free h, S.sb.free h, fun i ho => by
    obtain ⟨_, _, o, e, _⟩ := S.own_at ho
    rw [h] at e; cases e⟩
/-- the frozen part grows by an object that stands -/
theorem Sta.freeze (S : Sta K B Gb G H σ env W) {p : Addr} {o : HO} (h : H p = some o) (hg : G p = Option.none) (hb : B p = Option.none ∨ ∃ xs, o = .tup xs) (ho : ∀ i, ¬ Own env σ i p) : Sta K B Gb (upd G p o) H σ env W where
  sg := fun b x e => by
    by_cases q : b = p
    · subst q; rw [upd_same] at e; cases e; exact h
    · rw [upd_ne q] at e; exact S.sg _ _ e
  sb := S.sb
  sgb := S.sgb.trans (same_upd hg)
  gb := fun a x e n => by
    by_cases q : a = p
    · subst q
      rcases hb with hb | hb
      · rw [hb] at e; cases e
      · right
        have := S.sb _ _ e
        rw [h] at this; cases this
        exact hb
    · rw [upd_ne q] at n; exact S.gb a x e n
  len := S.len
  pl := fun i d e => by
    obtain ⟨v, h1, h2⟩ := S.pl i d e
    exact ⟨v, h1, Rp.mono (Sub.of (same_upd hg)) h2⟩
  ow := fun i d e => by
    obtain ⟨q, o', h1, h2, h3, h4, h5⟩ := S.ow i d e
    refine ⟨q, o', h1, ?_, h3, h4, h5.mono (Sub.of (same_upd hg))⟩
    rw [upd_ne (show q ≠ p from fun z => ho i ⟨⟨_, e, rfl⟩, z ▸ h1⟩)]
    exact h2
  lk := fun i od o d e => by
    obtain ⟨q, h1, h2, h3, h4, h5⟩ := S.lk i od o d e
    refine ⟨q, h1, ?_, h3, h4, h5.1.mono (Sub.of (same_upd hg)), h5.2⟩
    rw [upd_ne (show q ≠ p from fun z => ho i ⟨⟨_, e, rfl⟩, z ▸ h1⟩)]
    exact h2
  wd := fun i e => by
    obtain ⟨q, l, ns, k, h1, h2, h3, h4, h5, h6⟩ := S.wd i e
    refine ⟨q, l, ns, k, h1, ?_, h3, h4, same_upd hg _ _ h5, h6⟩
    rw [upd_ne (show q ≠ p from fun z => ho i ⟨⟨_, e, rfl⟩, z ▸ h1⟩)]
    exact h2
  sc := fun i ns e => by
    obtain ⟨q, h1, h2⟩ := S.sc i ns e
    exact ⟨q, h1, (same_upd hg).seq h2⟩
  one := S.one
  sep := S.sep

/-! ### a value pending while others are reckoned -/
def prot (H : Hp) (v : V) (k : Kd) (B : Hp) : Hp :=
  match k, v with
  | .fr, .ref p => (match H p with | some o => upd B p o | Option.none => B)
  | _, _ => B
theorem prot_fr {p : Addr} {o : HO} (h : H p = some o) : prot H (.ref p) .fr B = upd B p o := by simp [prot, h]
theorem prot_im : prot H v .im B = B := by simp [prot]
theorem prot_pk {i : Nat} : prot H v (.pk i) B = B := by simp [prot]
theorem Sta.prot (S : Sta K B Gb G H σ env W) (h : VOk K B G H σ env v d k) : Sta K (PX.prot H v k B) Gb G H σ env W := by
  cases k with
  | im => rw [prot_im]; exact S
  | pk i => rw [prot_pk]; exact S
  | fr =>
    obtain ⟨p, o, rfl, h1, h2, h3, h4, h5⟩ := h
    rw [prot_fr h3]
    exact {
      sg := S.sg
      sb := fun b x e => by
        by_cases q : b = p
        · subst q; rw [upd_same] at e; cases e; exact h3
        · rw [upd_ne q] at e; exact S.sb _ _ e
      sgb := S.sgb
      gb := fun a x e n => by
        by_cases q : a = p
        · subst q; exact absurd h1 n
        · rw [upd_ne q] at e; exact S.gb a x e n
      len := S.len
      pl := S.pl
      ow := fun i d e => by
        obtain ⟨q, o', a1, a2, a3, a4, a5⟩ := S.ow i d e
        refine ⟨q, o', a1, a2, ?_, a4, a5⟩
        rw [upd_ne (show q ≠ p from fun z => h5 i ⟨⟨_, e, rfl⟩, z ▸ a1⟩)]
        exact a3
      lk := fun i od o d e => by
        obtain ⟨q, a1, a2, a3, a4, a5⟩ := S.lk i od o d e
        refine ⟨q, a1, a2, ?_, a4, a5⟩
        rw [upd_ne (show q ≠ p from fun z => h5 i ⟨⟨_, e, rfl⟩, z ▸ a1⟩)]
        exact a3
      wd := fun i e => by
        obtain ⟨q, l, ns, k, a1, a2, a3, a4, a5⟩ := S.wd i e
        refine ⟨q, l, ns, k, a1, a2, ?_, a4, a5⟩
        rw [upd_ne (show q ≠ p from fun z => h5 i ⟨⟨_, e, rfl⟩, z ▸ a1⟩)]
        exact a3
      sc := S.sc
      one := S.one
      sep := S.sep }
/-- behind: the state without the protection; the value pending; the others too -/
theorem Sta.unprot {B1 : Hp} (hB : Same B B1) (S : Sta K B1 Gb G H σ env W) : Sta K B Gb G H σ env W where
  sg := S.sg
  sb := hB.trans S.sb
  sgb := S.sgb
  gb := fun a o e n => S.gb a o (hB _ _ e) n
  len := S.len
  pl := S.pl
  ow := fun i d e => by
    obtain ⟨q, o, h1, h2, h3, h4, h5⟩ := S.ow i d e
    exact ⟨q, o, h1, h2, hB.free h3, h4, h5⟩
  lk := fun i od o d e => by
    obtain ⟨q, h1, h2, h3, h4, h5⟩ := S.lk i od o d e
    exact ⟨q, h1, h2, hB.free h3, h4, h5⟩
  wd := fun i e => by
    obtain ⟨q, l, ns, k, h1, h2, h3, h4, h5⟩ := S.wd i e
    exact ⟨q, l, ns, k, h1, h2, hB.free h3, h4, h5⟩
  sc := S.sc
  one := S.one
  sep := S.sep
theorem prot_same (h : VOk K B G H σ env v d k) : Same B (prot H v k B) := by
  cases k with
  | im => rw [prot_im]; exact Same.refl _
  | pk i => rw [prot_pk]; exact Same.refl _
  | fr =>
    obtain ⟨p, o, rfl, h1, h2, h3, h4, h5⟩ := h
    rw [prot_fr h3]
    exact same_upd h2
theorem VOk.base {B1 : Hp} (hB : Same B B1) (h : VOk K B1 G H σ env v d k) : VOk K B G H σ env v d k := by
  cases k with
  | im => exact h
  | pk i => exact h
  | fr =>
    obtain ⟨p, o, rfl, h1, h2, h3, h4, h5⟩ := h
    exact ⟨p, o, rfl, h1, hB.free h2, h3, h4, h5⟩
theorem VOk.kept {W1 : List Int} (S : Sta K B Gb G H σ env W1) (h : VOk K B G H σ env v d k) (g : Same G G') (S' : Sta K (prot H v k B) Gb G' H' σ env W') : VOk K B G' H' σ env v d k := by
  cases k with
  | im => exact Rp.mono (Sub.of g) h
  | pk i => exact h
  | fr =>
    obtain ⟨p, o, rfl, h1, h2, h3, h4, h5⟩ := h
    rw [prot_fr h3] at S'
    have e : H' p = some o := S'.sb _ _ upd_same
    refine ⟨p, o, rfl, ?_, h2, e, h4.mono (Sub.of g), h5⟩
    cases q : G' p with
    | none => rfl
    | some x =>
      rcases S'.gb p o upd_same (by rw [q]; simp) with z | ⟨xs, z⟩
      · exact absurd (S.sgb.free h1) z
      · exact absurd z (h4.notTup xs)
theorem VOk.apart {B1 : Hp} (hB : B1 = prot H v k B) (h : VOk K B G H σ env v d k) (h' : VOk K B1 G' H' σ env v' d' k') (e : k = .fr) (e' : k' = .fr) : v' ≠ v := by
  subst e e' hB
  obtain ⟨p, o, rfl, h1, h2, h3, h4, h5⟩ := h
  rw [prot_fr h3] at h'
  obtain ⟨p', o', rfl, a1, a2, a3, a4, a5⟩ := h'
  intro z
  cases z
  rw [upd_same] at a2; cases a2
end
end PX

namespace PX
open PySem PySem.Spec PyProof.Rows L2

abbrev Ex := SEnv → List Int → Option (PyData × Kd × List Int)
abbrev Dk := PyData × Kd
abbrev Op := List Dk → Option Dk
def esc : Kd → Bool
  | .pk _ => false
  | _ => true

section
variable {K : FW} {B Gb G H G' H' : Hp} {σ : L2.St} {env : SEnv} {W W' : List Int} {v v' : V} {d d' : PyData} {k k' : Kd}
/-- values pending, in their order -/
def Pend (K : FW) (B G H : Hp) (σ : L2.St) (env : SEnv) : List V → List Dk → Prop
  | [], [] => True
  | v :: vs, t :: ds => VOk K B G H σ env v t.1 t.2 ∧ (t.2 = Kd.fr → ∀ q ∈ vs.zip (ds.map (·.2)), q.2 = Kd.fr → q.1 ≠ v) ∧ Pend K B G H σ env vs ds
  | _, _ => False

def Cont (K : FW) (B Gb G : Hp) (σ : L2.St) (env : SEnv) (W : List Int) (d : PyData) (k : Kd) (Q : VK) : Prop :=
  ∀ v G' H', Same G G' → Sta K B Gb G' H' σ env W → VOk K B G' H' σ env v d k → Q v H'

def tE (K : FW) (f : Ex) : TE := fun σ H Q => ∃ B Gb G env W d k W', Sta K B Gb G H σ env W ∧ f env W = some (d, k, W') ∧ Cont K B Gb G σ env W' d k Q
def PX (X : Cx) (e : Expr) (f : Ex) : Prop := PE X e (tE X.KW f)

/-- an operation by values -/
def rV (K : FW) (op : Op) : List V → Hp → VK → Prop := fun vs H Q => ∃ B Gb G σ env W ds d k, Sta K B Gb G H σ env W ∧ Pend K B G H σ env vs ds ∧ op ds = some (d, k) ∧ Cont K B Gb G σ env W d k Q

theorem VOk.move {H2 : Hp} (h : VOk K B G H σ env v d k) (S : Sta K B Gb G H σ env W) (g : Same G G') (s : Same H H') (hn : ∀ p, v = .ref p → k = .fr → G' p = Option.none) : VOk K B G' H' σ env v d k := by
  cases k with
  | im => exact Rp.mono (Sub.of g) h
  | pk i => exact h
  | fr =>
    obtain ⟨p, o, rfl, h1, h2, h3, h4, h5⟩ := h
    exact ⟨p, o, rfl, hn p rfl rfl, h2, s _ _ h3, h4.mono (Sub.of g), h5⟩

theorem step2 {g : Ex} {d2 : PyData} {k2 : Kd} {W2 : List Int} {P : VK} (S : Sta K B Gb G H σ env W) (h : VOk K B G H σ env v d k) (hg : g env W = some (d2, k2, W2))
    (hP : ∀ v2 G' H', Same G G' → Sta K B Gb G' H' σ env W2 → VOk K B G' H' σ env v d k → VOk K B G' H' σ env v2 d2 k2 → (k = .fr → k2 = .fr → v2 ≠ v) → P v2 H') : tE K g σ H P :=
  ⟨prot H v k B, Gb, G, env, W, d2, k2, W2, S.prot h, hg, fun v2 G' H' sg S' h' => hP v2 G' H' sg (S'.unprot (prot_same h)) (VOk.kept S h sg S') (h'.base (prot_same h)) fun e e' => VOk.apart rfl h h' e e'⟩

theorem freeze1 (S : Sta K B Gb G H σ env W) (h : VOk K B G H σ env v d k) (he : esc k = true) :
    ∃ G', Same G G' ∧ Sta K B Gb G' H σ env W ∧ Rp K G' v d ∧ ∀ v' d' k', VOk K B G H σ env v' d' k' → (k = .fr → k' = .fr → v' ≠ v) → VOk K B G' H σ env v' d' k' := by
  cases k with
  | im => exact ⟨G, Same.refl _, S, h, fun _ _ _ h _ => h⟩
  | pk i => exact absurd he Bool.false_ne_true
  | fr =>
    obtain ⟨p, o, rfl, h1, h2, h3, h4, h5⟩ := h
    have sm : Same G (upd G p o) := same_upd h1
    refine ⟨upd G p o, sm, S.freeze h3 h1 (.inl h2) h5, (h4.mono (Sub.of sm)).rp upd_same, fun v' d' k' h' ne => ?_⟩
    cases k' with
    | im => exact Rp.mono (Sub.of sm) h'
    | pk i => exact h'
    | fr =>
      obtain ⟨p', o', rfl, a1, a2, a3, a4, a5⟩ := h'
      refine ⟨p', o', rfl, ?_, a2, a3, a4.mono (Sub.of sm), a5⟩
      rw [upd_ne (show p' ≠ p from fun z => ne rfl rfl (by rw [z]))]
      exact a1
theorem Pend.map {B' : Hp} {vs : List V} {ds : List Dk} (h : Pend K B G H σ env vs ds) (f : ∀ v' d' k', VOk K B G H σ env v' d' k' → (∃ q ∈ vs.zip (ds.map (·.2)), q = (v', k')) → VOk K B' G' H' σ env v' d' k') : Pend K B' G' H' σ env vs ds := by
  induction vs generalizing ds with
  | nil => cases ds with
    | nil => trivial
    | cons => exact h
  | cons v vs ih => cases ds with
    | nil => exact h
    | cons t ds =>
      obtain ⟨h1, h2, h3⟩ := h
      refine ⟨f _ _ _ h1 ⟨_, by simp, rfl⟩, h2, ih h3 fun v' d' k' a ⟨q, hq, e⟩ => f v' d' k' a ⟨q, ?_, e⟩⟩
      simp only [List.map_cons, List.zip_cons_cons, List.mem_cons]
      exact .inr hq
theorem freezeL : ∀ {vs : List V} {ds : List Dk} {G : Hp}, Sta K B Gb G H σ env W → Pend K B G H σ env vs ds → (ds.all fun t => esc t.2) = true →
    ∃ G', Same G G' ∧ Sta K B Gb G' H σ env W ∧ RpL K G' vs (ds.map (·.1))
  | [], [], G, S, _, _ => ⟨G, Same.refl _, S, .nil⟩
  | v :: vs, t :: ds, G, S, h, he => by
    rw [List.all_cons, Bool.and_eq_true] at he
    obtain ⟨h1, h2, h3⟩ := h
    obtain ⟨G1, s1, S1, r1, f1⟩ := freeze1 S h1 he.1
    have h3' : Pend K B G1 H σ env vs ds := h3.map fun v' d' k' a ⟨q, hq, e⟩ => f1 v' d' k' a fun e1 e2 => by
      have := h2 e1 q hq (by rw [e]; exact e2)
      rw [e] at this
      exact this
    obtain ⟨G2, s2, S2, r2⟩ := freezeL S1 h3' he.2
    exact ⟨G2, s1.trans s2, S2, .cons (Rp.mono (Sub.of s2) r1) r2⟩
  | [], _ :: _, _, _, h, _ => h.elim
  | _ :: _, [], _, _, h, _ => h.elim

/-- ends of operations -/
theorem Cont.im {Q : VK} (c : Cont K B Gb G σ env W d .im Q) (S : Sta K B Gb G H σ env W) (h : Rp K G v d) : Q v H := c v G H (Same.refl _) S h
theorem Cont.int {Q : VK} {i : Int} (c : Cont K B Gb G σ env W (.int i) .im Q) (S : Sta K B Gb G H σ env W) : Q (.int i) H := c.im S (.int i)
theorem Cont.bool {Q : VK} {i : Bool} (c : Cont K B Gb G σ env W (.bool i) .im Q) (S : Sta K B Gb G H σ env W) : Q (.bl i) H := c.im S (.bl i)
theorem Cont.str {Q : VK} {i : Str} (c : Cont K B Gb G σ env W (.str i) .im Q) (S : Sta K B Gb G H σ env W) (h : PyData.strOk i = true) : Q (.str i) H := c.im S (.str i h)
theorem Cont.fr {Q : VK} (c : Cont K B Gb G σ env W d .fr Q) (S : Sta K B Gb G H σ env W) {p : Addr} {o : HO} (hp : H p = Option.none) (r : RpO K G o d) : Q (.ref p) (upd H p o) := by
  obtain ⟨n1, n2, n3⟩ := S.new hp
  exact c _ G _ (Same.refl _) (S.laid hp) ⟨p, o, rfl, n1, n2, upd_same, r, n3⟩
theorem Cont.tup {Q : VK} {ds : List PyData} (c : Cont K B Gb G σ env W (.tuple ds) .im Q) (S : Sta K B Gb G H σ env W) {p : Addr} {xs : List V} (hp : H p = Option.none) (r : RpL K G xs ds) : Q (.ref p) (upd H p (.tup xs)) := by
  obtain ⟨n1, n2, n3⟩ := S.new hp
  have S1 := (S.laid (o := .tup xs) hp).freeze upd_same n1 (.inl n2) n3
  exact c _ _ _ (same_upd n1) S1 (.tup (.inl upd_same) (RpL.mono (Sub.of (same_upd n1)) r))
theorem Cont.sub {Q : VK} (c : Cont K B Gb G σ env W d k Q) (s : Same G G') : Cont K B Gb G' σ env W d k Q := fun v G2 H2 s2 S h => c v G2 H2 (s.trans s2) S h
end

/-! ### arguments -/
def cArgs : List Ex → SEnv → List Int → Option (List Dk × List Int)
  | [], _, W => some ([], W)
  | f :: fs, env, W => (f env W).bind fun r => (cArgs fs env r.2.2).map fun q => ((r.1, r.2.1) :: q.1, q.2)
def tA (K : FW) (fs : List Ex) : TA := fun σ H Q => ∃ B Gb G env W ds W', Sta K B Gb G H σ env W ∧ cArgs fs env W = some (ds, W') ∧
  ∀ vs G' H', Same G G' → Sta K B Gb G' H' σ env W' → Pend K B G' H' σ env vs ds → Q vs H'
def PXs (X : Cx) (es : List Expr) (fs : List Ex) : Prop := PA X es (tA X.KW fs)
section
variable {X : Cx} {e : Expr} {es : List Expr} {f : Ex} {fs : List Ex}
theorem PA.imp {t t' : TA} (h : PA X es t) (i : ∀ σ H Q, t' σ H Q → t σ H Q) : PA X es t' := ⟨fun pos pins s σ H Q I q => h.run pos pins s σ H Q I (i _ _ _ q)⟩
theorem PE.imp {t t' : TE} (h : PE X e t) (i : ∀ σ H Q, t' σ H Q → t σ H Q) : PE X e t' := ⟨fun pins s σ H Q I q => h.run pins s σ H Q I (i _ _ _ q)⟩
theorem PT.imp {t t' : TT} (h : PT X e t) (i : ∀ σ H Q, t' σ H Q → t σ H Q) : PT X e t' := ⟨fun pins s σ H Q I q => h.run pins s σ H Q I (i _ _ _ q)⟩
theorem PS.imp {st : Stmt} {t t' : TS} (h : PS X st t) (i : ∀ D σ H, t' D σ H → t D σ H) : PS X st t' := ⟨fun pins s σ H D I q => h.run pins s σ H D I (i _ _ _ q)⟩
theorem PSs.imp {st : List Stmt} {t t' : TS} (h : PSs X st t) (i : ∀ D σ H, t' D σ H → t D σ H) : PSs X st t' := ⟨fun pins s σ H D I q => h.run pins s σ H D I (i _ _ _ q)⟩
theorem pxs_nil : PXs X [] [] := PA.imp pa_nil fun σ H Q h => by
  obtain ⟨B, Gb, G, env, W, ds, W', S, e, c⟩ := h
  cases e
  exact c [] G H (Same.refl _) S trivial
theorem pxs_cons (ha : PX X e f) (hr : PXs X es fs) (hs : starEach (e :: es) X.env = (false, eval e X.env) :: starEach es X.env := by rfl) : PXs X (e :: es) (f :: fs) :=
  PA.imp (pa_cons ha hr hs) fun σ H Q h => by
    obtain ⟨B, Gb, G, env, W, ds, W', S, e, c⟩ := h
    rw [cArgs, Option.bind_eq_some_iff] at e
    obtain ⟨⟨d1, k1, W1⟩, e1, e2⟩ := e
    rw [Option.map_eq_some_iff] at e2
    obtain ⟨⟨ds', W2⟩, e2, e3⟩ := e2
    cases e3
    refine ⟨B, Gb, G, env, W, d1, k1, W1, S, e1, fun v G1 H1 s1 S1 h1 => ?_⟩
    refine ⟨prot H1 v k1 B, Gb, G1, env, W1, ds', W2, S1.prot h1, e2, fun vs G2 H2 s2 S2 p2 => ?_⟩
    refine c (v :: vs) G2 H2 (s1.trans s2) (S2.unprot (prot_same h1)) ⟨VOk.kept S1 h1 s2 S2, fun ek q hq eq => ?_, p2.map fun v' d' k' a _ => VOk.base (prot_same h1) a⟩
    have : ∀ (vs : List V) (ds : List Dk), Pend X.KW (prot H1 v k1 B) G2 H2 σ env vs ds → ∀ q ∈ vs.zip (ds.map (·.2)), q.2 = Kd.fr → q.1 ≠ v := by
      intro vs
      induction vs with
      | nil => intro ds p q hq; simp at hq
      | cons a vs ih =>
        intro ds p q hq eq
        cases ds with
        | nil => exact p.elim
        | cons t ds =>
          obtain ⟨p1, _, p3⟩ := p
          simp only [List.map_cons, List.zip_cons_cons, List.mem_cons] at hq
          rcases hq with rfl | hq
          · exact VOk.apart rfl h1 p1 ek eq
          · exact ih ds p3 q hq eq
    exact this vs ds' p2 q hq eq
end
end PX

namespace PX
open PySem PySem.Spec PyProof.Rows L2

section
variable {K : FW} {op : Op} {x y z : V} {H : Hp} {Q : VK}
theorem rV.one (h : rV K op [x] H Q) : ∃ B Gb G σ env W d1 k1 d k, Sta K B Gb G H σ env W ∧ VOk K B G H σ env x d1 k1 ∧ op [(d1, k1)] = some (d, k) ∧ Cont K B Gb G σ env W d k Q := by
  obtain ⟨B, Gb, G, σ, env, W, ds, d, k, S, p, e, c⟩ := h
  match ds, p with
  | [t], p => exact ⟨B, Gb, G, σ, env, W, t.1, t.2, d, k, S, p.1, e, c⟩
theorem rV.two (h : rV K op [x, y] H Q) : ∃ B Gb G σ env W d1 k1 d2 k2 d k, Sta K B Gb G H σ env W ∧ VOk K B G H σ env x d1 k1 ∧ VOk K B G H σ env y d2 k2 ∧ (k1 = .fr → k2 = .fr → y ≠ x) ∧ op [(d1, k1), (d2, k2)] = some (d, k) ∧ Cont K B Gb G σ env W d k Q := by
  obtain ⟨B, Gb, G, σ, env, W, ds, d, k, S, p, e, c⟩ := h
  match ds, p with
  | [t, u], p => exact ⟨B, Gb, G, σ, env, W, t.1, t.2, u.1, u.2, d, k, S, p.1, p.2.2.1, fun e1 e2 => p.2.1 e1 (y, u.2) (by simp) e2, e, c⟩
theorem rV.three (h : rV K op [x, y, z] H Q) : ∃ B Gb G σ env W d1 k1 d2 k2 d3 k3 d k, Sta K B Gb G H σ env W ∧ VOk K B G H σ env x d1 k1 ∧ VOk K B G H σ env y d2 k2 ∧ VOk K B G H σ env z d3 k3 ∧
    op [(d1, k1), (d2, k2), (d3, k3)] = some (d, k) ∧ Cont K B Gb G σ env W d k Q := by
  obtain ⟨B, Gb, G, σ, env, W, ds, d, k, S, p, e, c⟩ := h
  match ds, p with
  | [t, u, r], p => exact ⟨B, Gb, G, σ, env, W, t.1, t.2, u.1, u.2, r.1, r.2, d, k, S, p.1, p.2.2.1, p.2.2.2.2.1, e, c⟩
end

set_option maxHeartbeats 4000000 in
theorem tuple_mul1 (l : Addr) (items : Array Value) (n : Nat) (dd : Option Addr) (sl : Array (Option Value)) (x : Int) (u : Tok) (c0 : (decide (x < -(2 ^ 63)) || decide (x ≥ 2 ^ 63)) = false) (c1 : (items.isEmpty || x == 1) = true) :
    Meets (Builtin.«tuple.__mul__» ⟨[.ref l, .int x u], []⟩) (fun _ R s => s.heap.get? l = some { cls := .type "tuple", dict := dd, data := .seq items n, slots := sl } ∧
      R (.ok (.ret (Value.ref l))) s) :=
  .of_wp fun prog w A R s h => by
    obtain ⟨hp, g, d, tk, os⟩ := s
    obtain ⟨hl, h⟩ := h
    have f1 := AutoSeq1.idx_int
    wp_walk using wpAny_loadPart' hl
    refine wpAny_ite_false (decide_eq_false (by rw [c0]; exact Bool.false_ne_true)) ?_
    wp_walk using wpAny_loadPart' hl
    exact ⟨_, rfl, h⟩
set_option maxHeartbeats 4000000 in
theorem tuple_mul0 (l : Addr) (items : Array Value) (n : Nat) (dd : Option Addr) (sl : Array (Option Value)) (x : Int) (u : Tok) (c0 : (decide (x < -(2 ^ 63)) || decide (x ≥ 2 ^ 63)) = false) (c1 : (items.isEmpty || x == 1) = false) (c2 : (decide (x ≤ 0) || items.isEmpty) = true) :
    Meets (Builtin.«tuple.__mul__» ⟨[.ref l, .int x u], []⟩) (fun _ R s => s.heap.get? l = some { cls := .type "tuple", dict := dd, data := .seq items n, slots := sl } ∧
      R (.ok (.ret (Value.ref s.heap.objs.size))) { s with heap := s.heap.push { cls := Value.type "tuple", data := Data.seq #[] }, toks := s.toks }) :=
  .of_wp fun prog w A R s h => by
    obtain ⟨hp, g, d, tk, os⟩ := s
    obtain ⟨hl, h⟩ := h
    have f1 := AutoSeq1.idx_int
    wp_walk using wpAny_loadPart' hl
    repeat (first
      | (refine wpAny_ite_false (decide_eq_false (by rw [c0]; exact Bool.false_ne_true)) ?_; wp_walk using wpAny_loadPart' hl)
      | (refine wpAny_ite_false (decide_eq_false (by rw [c1]; exact Bool.false_ne_true)) ?_; wp_walk using wpAny_loadPart' hl)
      | (refine wpAny_ite_true (decide_eq_true c2) ?_; wp_walk using wpAny_loadPart' hl))
    exact ⟨_, rfl, h⟩
def rRepT1 (K : FW) : R2 := fun x y H Q => ∃ l xs, x = .ref l ∧ y = .int 1 ∧ SqT K H l xs ∧ Q (.ref l) H
def rRepT0 (K : FW) : R2 := fun x y H Q => ∃ l k xs, x = .ref l ∧ y = .int k ∧ SqT K H l xs ∧ xs ≠ [] ∧ -1000 ≤ k ∧ k ≤ 0 ∧ ∀ p, H p = none → Q (.ref p) (upd H p (.tup []))
section
variable {X : Cx}
theorem op_repT1 : OpR X (binaryOp .Mult) (rRepT1 X.KW) := by
  intro pins s σ H x y v u Q I rx ry h
  obtain ⟨l, xs, rfl, rfl, hT, q⟩ := h
  cases rx
  obtain ⟨t, rfl⟩ := ry
  obtain ⟨its, r, ⟨⟨cls, dd, data, sl⟩, ho, hc, n, hd⟩, hs⟩ := I.tuple hT
  simp only at hc hd
  subst hc hd
  have c0 : (decide ((1 : Int) < -(2 ^ 63)) || decide ((1 : Int) ≥ 2 ^ 63)) = false := by
    rw [decide_eq_false (by omega), decide_eq_false (by omega)] <;> rfl
  have c1 : (its.toArray.isEmpty || (1 : Int) == 1) = true := by
    rw [Bool.or_eq_true]
    exact .inr rfl
  exact wpAny_binaryOp_repeat_ref (T := "tuple") (U := "int") (by decide) ⟨_, ho, rfl⟩ (fun s' => typeIs_int s' 1 t) noFill_tuple_mul F.fills_int_mul F.slot_int_rmul repeat_tuple F.slot_int_index.lookup
    (call_meets F.slot_int_rmul (typeIs_int s 1 t) F.entry_int_rmul (F.args_int_rmul_2 _ _) (int_rmul_tuple 1 t l its.toArray n dd sl)
      ⟨ho, rfl, ⟨_, ho, rfl⟩, call_meets F.slot_tuple_mul ⟨_, ho, rfl⟩ F.entry_tuple_mul (F.args_tuple_mul_2 _ _) (tuple_mul1 l its.toArray n dd sl 1 t c0 c1) ⟨ho, ⟨.ref l, _, I, rfl, q⟩⟩⟩)
theorem op_repT0 : OpR X (binaryOp .Mult) (rRepT0 X.KW) := by
  intro pins s σ H x y v u Q I rx ry h
  obtain ⟨l, k, xs, rfl, rfl, hT, hne, h1, h2, q⟩ := h
  cases rx
  obtain ⟨t, rfl⟩ := ry
  obtain ⟨its, r, ⟨⟨cls, dd, data, sl⟩, ho, hc, n, hd⟩, hs⟩ := I.tuple hT
  simp only at hc hd
  subst hc hd
  have hle : its.length = xs.length := r.length.symm
  have hn : its ≠ [] := fun e => hne (by
    rw [e] at hle
    exact List.eq_nil_of_length_eq_zero hle.symm)
  have hi : its.toArray.isEmpty = false := by
    cases its with
    | nil => exact absurd rfl hn
    | cons a b => rfl
  have c0 : (decide (k < -(2 ^ 63)) || decide (k ≥ 2 ^ 63)) = false := by
    rw [decide_eq_false (by omega), decide_eq_false (by omega)] <;> rfl
  have c1 : (its.toArray.isEmpty || k == 1) = false := by
    rw [hi, Bool.false_or]
    exact beq_eq_false_iff_ne.mpr (by omega)
  have c2 : (decide (k ≤ 0) || its.toArray.isEmpty) = true := by
    rw [decide_eq_true h2]; rfl
  refine wpAny_binaryOp_repeat_ref (T := "tuple") (U := "int") (by decide) ⟨_, ho, rfl⟩ (fun s' => typeIs_int s' k t) noFill_tuple_mul F.fills_int_mul F.slot_int_rmul repeat_tuple F.slot_int_index.lookup
    (call_meets F.slot_int_rmul (typeIs_int s k t) F.entry_int_rmul (F.args_int_rmul_2 _ _) (int_rmul_tuple k t l its.toArray n dd sl)
      ⟨ho, rfl, ⟨_, ho, rfl⟩, call_meets F.slot_tuple_mul ⟨_, ho, rfl⟩ F.entry_tuple_mul (F.args_tuple_mul_2 _ _) (tuple_mul0 l its.toArray n dd sl k t c0 c1 c2) ⟨ho, ?_⟩⟩)
  refine ⟨.ref s.heap.objs.size, _, I.laid (t' := s.toks) (o := .tup []) (fun b ob q => Heap.get?_push_of_some _ q) (Nat.le_refl _) ?_, rfl, q _ (I.hok.fresh (Nat.le_refl _))⟩
  exact ⟨by rw [sizeLine_eq]; exact Nat.zero_le _, _, .nil, IsTup.new _ _⟩
end
/-! ### arithmetic -/
def oAdd : Op
  | [(.int a, _), (.int b, _)] => some (.int (a + b), .im)
  | [(.str a, _), (.str b, _)] => if a.length + b.length ≤ 16777216 then some (.str (a ++ b), .im) else none
  | [(.tuple a, _), (.tuple b, _)] => if a.length + b.length ≤ 16777216 then some (.tuple (a ++ b), .im) else none
  | [(.list a, _), (.list b, _)] => if a.length + b.length ≤ 16777216 then some (.list (a ++ b), .fr) else none
  | _ => none
def oSub : Op
  | [(.int a, _), (.int b, _)] => some (.int (a - b), .im)
  | _ => none
def mulOk (a b : Int) : Bool := decide (a.natAbs < 18446744073709551616) || decide (b.natAbs < 18446744073709551616)
def rep (n : Nat) (xs : List PyData) : List PyData := (List.replicate n xs).flatten
def oMul : Op
  | [(.int a, _), (.int b, _)] => if mulOk a b then some (.int (a * b), .im) else none
  | [(.list a, _), (.int b, _)] => if -1000 ≤ b ∧ b ≤ 1000 ∧ a.length ≤ 1000 then some (.list (rep b.toNat a), .fr) else none
  | [(.tuple a, _), (.int b, _)] => if -1000 ≤ b ∧ b ≤ 1000 ∧ a.length ≤ 1000 ∧ a ≠ [] then some (.tuple (rep b.toNat a), .im) else none
  | _ => none
def oDiv : Op
  | [(.int a, _), (.int b, _)] => if b ≠ 0 ∧ b.natAbs < 1073741824 then some (.int (a.fdiv b), .im) else none
  | _ => none
def oMod : Op
  | [(.int a, _), (.int b, _)] => if b ≠ 0 then some (.int (a.fmod b), .im) else none
  | _ => none
def oPow : Op
  | [(.int a, _), (.int b, _)] => if 0 ≤ b ∧ b ≤ 1000000 ∧ a.natAbs < 18446744073709551616 then some (.int (a ^ b.toNat), .im) else none
  | _ => none
def oNeg : Op
  | [(.int a, _)] => some (.int (-a), .im)
  | _ => none
def oLt : Op
  | [(.int a, _), (.int b, _)] => some (.bool (decide (a < b)), .im)
  | _ => none
def oLe : Op
  | [(.int a, _), (.int b, _)] => some (.bool (decide (a ≤ b)), .im)
  | _ => none
def oGt : Op
  | [(.int a, _), (.int b, _)] => some (.bool (decide (b < a)), .im)
  | _ => none
def oGe : Op
  | [(.int a, _), (.int b, _)] => some (.bool (decide (b ≤ a)), .im)
  | _ => none
def flat (d : PyData) : Bool := noD d && decide (d.depth ≤ 60)
def oEq : Op
  | [(a, _), (b, _)] => if flat a && flat b then some (.bool (PyData.eqv a b), .im) else none
  | _ => none
def oNe : Op
  | [(a, _), (b, _)] => if flat a && flat b then some (.bool (!PyData.eqv a b), .im) else none
  | _ => none
def isNon : PyData → Bool
  | .none => true
  | _ => false
def oIs : Op
  | [(a, _), (.none, _)] => some (.bool (isNon a), .im)
  | [(.bool a, _), (.bool b, _)] => some (.bool (decide (a = b)), .im)
  | _ => none
def oIsNot : Op
  | [(a, _), (.none, _)] => some (.bool (!isNon a), .im)
  | [(.bool a, _), (.bool b, _)] => some (.bool (!decide (a = b)), .im)
  | _ => none

theorem RpL.rep {K : FW} {G : Hp} {xs : List V} {ds : List PyData} (h : RpL K G xs ds) : ∀ n : Nat, RpL K G (List.replicate n xs).flatten (PX.rep n ds)
  | 0 => .nil
  | n + 1 => by
    unfold PX.rep
    rw [List.replicate_succ, List.replicate_succ, List.flatten_cons, List.flatten_cons]
    exact h.append (RpL.rep h n)
theorem strOk_app {a b : Str} (h1 : PyData.strOk a = true) (h2 : PyData.strOk b = true) : PyData.strOk (a ++ b) = true := by
  unfold PyData.strOk at *
  show (a.cps ++ b.cps).all _ = true
  rw [Array.all_append, h1, h2]
  rfl
theorem CMul_of {a b : Int} (h : mulOk a b = true) : CMul a b := by
  unfold mulOk at h
  rw [Bool.or_eq_true, decide_eq_true_eq, decide_eq_true_eq] at h
  unfold CMul
  omega

section
variable {X : Cx}
theorem so_add : OpR X (binaryOp .Add) (fun x y => rV X.KW oAdd [x, y]) := by
  intro pins s σ H x y v u Q I rx ry h
  obtain ⟨B, Gb, G, σ1, env, W, d1, k1, d2, k2, d, k, S, h1, h2, ap, e, c⟩ := rV.two h
  unfold oAdd at e
  split at e
  · rename_i q
    cases q
    cases e
    obtain rfl := h1.int S
    obtain rfl := h2.int S
    exact op_add pins s σ H _ _ v u Q I rx ry ⟨_, _, rfl, rfl, c.int S⟩
  · rename_i q
    cases q
    split at e
    · cases e
      obtain rfl := h1.str S
      obtain rfl := h2.str S
      exact op_add_str pins s σ H _ _ v u Q I rx ry ⟨_, _, rfl, rfl, by rw [sizeLine_eq]; assumption, c.str S (strOk_app (h1.strOk S) (h2.strOk S))⟩
    · cases e
  · rename_i q
    cases q
    split at e
    · cases e
      obtain ⟨p, xs, rfl, hx, r1⟩ := h1.tuple S
      obtain ⟨p2, ys, rfl, hy, r2⟩ := h2.tuple S
      refine op_catA pins s σ H _ _ v u Q I rx ry ⟨_, _, xs, ys, rfl, rfl, (Sub.of S.sg).sqT hx.sqT, (Sub.of S.sg).sqT hy.sqT, by rw [sizeLine_eq, r1.length, r2.length]; assumption, fun z => ?_, fun _ z => ?_, fun _ _ p hp => c.tup S hp (r1.append r2)⟩
      · subst z
        cases r1
        exact c.im S (.tup hy r2)
      · subst z
        cases r2
        exact c.im S (by rw [List.append_nil]; exact .tup hx r1)
    · cases e
  · rename_i q
    cases q
    split at e
    · cases e
      obtain ⟨p, xs, rfl, hx, r1⟩ := h1.list S
      obtain ⟨p2, ys, rfl, hy, r2⟩ := h2.list S
      exact op_cat pins s σ H _ _ v u Q I rx ry ⟨_, _, xs, ys, rfl, rfl, hx, hy, by rw [sizeLine_eq, r1.length, r2.length]; assumption, fun p hp => c.fr S hp (r1.append r2)⟩
    · cases e
  · cases e
theorem so_sub : OpR X (binaryOp .Sub) (fun x y => rV X.KW oSub [x, y]) := by
  intro pins s σ H x y v u Q I rx ry h
  obtain ⟨B, Gb, G, σ1, env, W, d1, k1, d2, k2, d, k, S, h1, h2, ap, e, c⟩ := rV.two h
  unfold oSub at e
  split at e
  · rename_i q
    cases q
    cases e
    obtain rfl := h1.int S
    obtain rfl := h2.int S
    exact op_sub pins s σ H _ _ v u Q I rx ry ⟨_, _, rfl, rfl, c.int S⟩
  · cases e
theorem so_mul : OpR X (binaryOp .Mult) (fun x y => rV X.KW oMul [x, y]) := by
  intro pins s σ H x y v u Q I rx ry h
  obtain ⟨B, Gb, G, σ1, env, W, d1, k1, d2, k2, d, k, S, h1, h2, ap, e, c⟩ := rV.two h
  unfold oMul at e
  split at e
  · rename_i q
    cases q
    split at e
    · rename_i hm
      cases e
      obtain rfl := h1.int S
      obtain rfl := h2.int S
      exact op_mul pins s σ H _ _ v u Q I rx ry ⟨_, _, rfl, rfl, CMul_of hm, c.int S⟩
    · cases e
  · rename_i q
    cases q
    split at e
    · rename_i hm
      cases e
      obtain ⟨p, xs, rfl, hx, r1⟩ := h1.list S
      obtain rfl := h2.int S
      refine op_rep pins s σ H _ _ v u Q I rx ry ⟨_, _, xs, rfl, rfl, hx, by omega, by omega, ?_, fun p hp => c.fr S hp (r1.rep _)⟩
      rw [sizeLine_eq, r1.length]
      exact Nat.le_trans (Nat.mul_le_mul hm.2.2 (show _ ≤ 1000 by omega)) (by decide)
    · cases e
  · rename_i q
    cases q
    split at e
    · rename_i hm
      cases e
      obtain ⟨p, xs, rfl, hx, r1⟩ := h1.tuple S
      obtain rfl := h2.int S
      have hxn : xs ≠ [] := fun z => hm.2.2.2 (by
        subst z
        cases r1
        rfl)
      rename_i b0
      rcases Int.lt_trichotomy b0 1 with hb | hb | hb
      · refine op_repT0 pins s σ H _ _ v u Q I rx ry ⟨_, _, xs, rfl, rfl, (Sub.of S.sg).sqT hx.sqT, hxn, hm.1, by omega, fun p hp => ?_⟩
        have e0 : b0.toNat = 0 := by omega
        have := c.tup S hp (r1.rep b0.toNat)
        rw [e0] at this
        exact this
      · subst hb
        refine op_repT1 pins s σ H _ _ v u Q I rx ry ⟨_, xs, rfl, rfl, (Sub.of S.sg).sqT hx.sqT, c.im S ?_⟩
        have e1 : ∀ (zs : List PyData), rep (1 : Int).toNat zs = zs := fun zs => by
          show (List.replicate 1 zs).flatten = zs
          simp
        rw [e1]
        exact .tup hx r1
      · exact op_repT pins s σ H _ _ v u Q I rx ry ⟨_, _, xs, rfl, rfl, (Sub.of S.sg).sqT hx.sqT, hxn, by omega, hm.2.1, by rw [r1.length]; exact hm.2.2.1, fun p hp => c.tup S hp (r1.rep _)⟩
    · cases e
  · cases e
theorem so_div : OpR X (binaryOp .FloorDiv) (fun x y => rV X.KW oDiv [x, y]) := by
  intro pins s σ H x y v u Q I rx ry h
  obtain ⟨B, Gb, G, σ1, env, W, d1, k1, d2, k2, d, k, S, h1, h2, ap, e, c⟩ := rV.two h
  unfold oDiv at e
  split at e
  · rename_i q
    cases q
    split at e
    · cases e
      obtain rfl := h1.int S
      obtain rfl := h2.int S
      exact op_fdivN pins s σ H _ _ v u Q I rx ry ⟨_, _, rfl, rfl, by assumption, c.int S⟩
    · cases e
  · cases e
theorem so_mod : OpR X (binaryOp .Mod) (fun x y => rV X.KW oMod [x, y]) := by
  intro pins s σ H x y v u Q I rx ry h
  obtain ⟨B, Gb, G, σ1, env, W, d1, k1, d2, k2, d, k, S, h1, h2, ap, e, c⟩ := rV.two h
  unfold oMod at e
  split at e
  · rename_i q
    cases q
    split at e
    · cases e
      obtain rfl := h1.int S
      obtain rfl := h2.int S
      exact op_modN pins s σ H _ _ v u Q I rx ry ⟨_, _, rfl, rfl, by assumption, c.int S⟩
    · cases e
  · cases e
theorem so_pow : OpR X (binaryOp .Pow) (fun x y => rV X.KW oPow [x, y]) := by
  intro pins s σ H x y v u Q I rx ry h
  obtain ⟨B, Gb, G, σ1, env, W, d1, k1, d2, k2, d, k, S, h1, h2, ap, e, c⟩ := rV.two h
  unfold oPow at e
  split at e
  · rename_i q
    cases q
    split at e
    · cases e
      obtain rfl := h1.int S
      obtain rfl := h2.int S
      exact op_pow pins s σ H _ _ v u Q I rx ry ⟨_, _, rfl, rfl, by unfold CPow; omega, c.int S⟩
    · cases e
  · cases e
theorem so_neg : UnR X (unaryOp .USub) (fun x => rV X.KW oNeg [x]) := by
  intro pins s σ H x v Q I rx h
  obtain ⟨B, Gb, G, σ1, env, W, d1, k1, d, k, S, h1, e, c⟩ := rV.one h
  unfold oNeg at e
  split at e
  · rename_i q
    cases q
    cases e
    obtain rfl := h1.int S
    exact un_neg pins s σ H _ v Q I rx ⟨_, rfl, c.int S⟩
  · cases e
theorem so_lt : OpR X (compareOp .Lt) (fun x y => rV X.KW oLt [x, y]) := by
  intro pins s σ H x y v u Q I rx ry h
  obtain ⟨B, Gb, G, σ1, env, W, d1, k1, d2, k2, d, k, S, h1, h2, ap, e, c⟩ := rV.two h
  unfold oLt at e
  split at e
  · rename_i q
    cases q
    cases e
    obtain rfl := h1.int S
    obtain rfl := h2.int S
    exact op_lt pins s σ H _ _ v u Q I rx ry ⟨_, _, rfl, rfl, c.bool S⟩
  · cases e
theorem so_le : OpR X (compareOp .LtE) (fun x y => rV X.KW oLe [x, y]) := by
  intro pins s σ H x y v u Q I rx ry h
  obtain ⟨B, Gb, G, σ1, env, W, d1, k1, d2, k2, d, k, S, h1, h2, ap, e, c⟩ := rV.two h
  unfold oLe at e
  split at e
  · rename_i q
    cases q
    cases e
    obtain rfl := h1.int S
    obtain rfl := h2.int S
    exact op_le pins s σ H _ _ v u Q I rx ry ⟨_, _, rfl, rfl, c.bool S⟩
  · cases e
theorem so_gt : OpR X (compareOp .Gt) (fun x y => rV X.KW oGt [x, y]) := by
  intro pins s σ H x y v u Q I rx ry h
  obtain ⟨B, Gb, G, σ1, env, W, d1, k1, d2, k2, d, k, S, h1, h2, ap, e, c⟩ := rV.two h
  unfold oGt at e
  split at e
  · rename_i q
    cases q
    cases e
    obtain rfl := h1.int S
    obtain rfl := h2.int S
    exact op_gt pins s σ H _ _ v u Q I rx ry ⟨_, _, rfl, rfl, c.bool S⟩
  · cases e
theorem so_ge : OpR X (compareOp .GtE) (fun x y => rV X.KW oGe [x, y]) := by
  intro pins s σ H x y v u Q I rx ry h
  obtain ⟨B, Gb, G, σ1, env, W, d1, k1, d2, k2, d, k, S, h1, h2, ap, e, c⟩ := rV.two h
  unfold oGe at e
  split at e
  · rename_i q
    cases q
    cases e
    obtain rfl := h1.int S
    obtain rfl := h2.int S
    exact op_ge pins s σ H _ _ v u Q I rx ry ⟨_, _, rfl, rfl, c.bool S⟩
  · cases e
theorem flat_shaped {K : FW} {H : Hp} {v : V} {d : PyData} (h : Rp K H v d) (f : flat d = true) : Dp K H v d ∧ SeqAt.shaped d = true := by
  unfold flat at f
  rw [Bool.and_eq_true, decide_eq_true_eq] at f
  have q := h.dp f.1
  refine ⟨q.1, ?_⟩
  unfold SeqAt.shaped
  rw [q.2, Bool.true_and, decide_eq_true_eq]
  omega
theorem so_eq (hu : X.A.units + 64 < cLine) : OpR X (compareOp .Eq) (fun x y => rV X.KW oEq [x, y]) := by
  intro pins s σ H x y v u Q I rx ry h
  obtain ⟨B, Gb, G, σ1, env, W, d1, k1, d2, k2, d, k, S, h1, h2, ap, e, c⟩ := rV.two h
  simp only [oEq] at e
  split at e
  · rename_i f
    cases e
    rw [Bool.and_eq_true] at f
    have q1 := flat_shaped (h1.rp S) f.1
    have q2 := flat_shaped (h2.rp S) f.2
    exact op_eqD hu pins s σ H x y v u Q I rx ry ⟨_, _, q1.1, q2.1, q1.2, q2.2, c.bool S⟩
  · cases e
theorem so_ne (hu : X.A.units + 64 < cLine) : OpR X (compareOp .NotEq) (fun x y => rV X.KW oNe [x, y]) := by
  intro pins s σ H x y v u Q I rx ry h
  obtain ⟨B, Gb, G, σ1, env, W, d1, k1, d2, k2, d, k, S, h1, h2, ap, e, c⟩ := rV.two h
  simp only [oNe] at e
  split at e
  · rename_i f
    cases e
    rw [Bool.and_eq_true] at f
    have q1 := flat_shaped (h1.rp S) f.1
    have q2 := flat_shaped (h2.rp S) f.2
    exact op_neD hu pins s σ H x y v u Q I rx ry ⟨_, _, q1.1, q2.1, q1.2, q2.2, c.bool S⟩
  · cases e
theorem VOk.isNon {K : FW} {B Gb G H : Hp} {σ : L2.St} {env : SEnv} {W : List Int} {v : V} {d : PyData} {k : Kd} (S : Sta K B Gb G H σ env W) (h : VOk K B G H σ env v d k) : decide (v = .non) = PX.isNon d := by
  have r := h.rp S
  cases r <;> simp [PX.isNon]
theorem so_is : OpR X (compareOp .Is) (fun x y => rV X.KW oIs [x, y]) := by
  intro pins s σ H x y v u Q I rx ry h
  obtain ⟨B, Gb, G, σ1, env, W, d1, k1, d2, k2, d, k, S, h1, h2, ap, e, c⟩ := rV.two h
  unfold oIs at e
  split at e
  · rename_i q
    cases q
    cases e
    obtain rfl := h2.none S
    exact op_isN pins s σ H _ _ v u Q I rx ry ⟨rfl, by rw [h1.isNon S]; exact c.bool S⟩
  · rename_i q
    cases q
    cases e
    obtain rfl := h1.bool S
    obtain rfl := h2.bool S
    exact op_is_bl pins s σ H _ _ v u Q I rx ry ⟨_, _, rfl, rfl, c.bool S⟩
  · cases e
theorem so_isNot : OpR X (compareOp .IsNot) (fun x y => rV X.KW oIsNot [x, y]) := by
  intro pins s σ H x y v u Q I rx ry h
  obtain ⟨B, Gb, G, σ1, env, W, d1, k1, d2, k2, d, k, S, h1, h2, ap, e, c⟩ := rV.two h
  unfold oIsNot at e
  split at e
  · rename_i q
    cases q
    cases e
    obtain rfl := h2.none S
    exact op_notN pins s σ H _ _ v u Q I rx ry ⟨rfl, by rw [h1.isNon S]; exact c.bool S⟩
  · rename_i q
    cases q
    cases e
    obtain rfl := h1.bool S
    obtain rfl := h2.bool S
    exact op_isnot_bl pins s σ H _ _ v u Q I rx ry ⟨_, _, rfl, rfl, c.bool S⟩
  · cases e
end
end PX

namespace PX
open PySem PySem.Spec PyProof.Rows L2

/-! ### what a builtin collects -/
def Coll (X : Cx) (s : Shared) (v : Value) (xs : List V) : Prop := ∀ (A : Around) (E' : Value → Shared → Prop) (Q' : List Value → Shared → Prop), A.handled = none →
  (∀ h' tk us, (∀ b o, s.heap.get? b = some o → h'.get? b = some o) → Vals xs us → Q' us { s with heap := h', toks := tk }) → wpAny (model X.prog X.w) A (collect v) Q' E' s
section
variable {X : Cx} {pins : List (Addr × Obj)} {σ : L2.St} {H : Hp} {s : Shared} {a : Addr} {xs : List V}
theorem coll_list (I : Inv X pins σ H s) (h : SqL X.KW H a xs) : Coll X s (.ref a) xs := by
  intro A E' Q' hh hQ
  obtain ⟨its, r, ⟨o, n, ho, hc, hd, hdt⟩, hz⟩ := I.list h
  refine wpAny_collect_seq a (.inl rfl) ho hc hdt (fun h' hk => ?_) (by rw [List.size_toArray, ← r.length]; exact hz)
  exact hQ h' s.toks _ hk (by simpa using r)
theorem coll_tup (I : Inv X pins σ H s) (h : SqT X.KW H a xs) : Coll X s (.ref a) xs := by
  intro A E' Q' hh hQ
  obtain ⟨its, r, ⟨o, ho, hc, n, hdt⟩, hz⟩ := I.tuple h
  refine wpAny_collect_seq a (.inr rfl) ho hc hdt (fun h' hk => ?_) (by rw [List.size_toArray, ← r.length]; exact hz)
  exact hQ h' s.toks _ hk (by simpa using r)
theorem coll_dK (I : Inv X pins σ H s) {kvs : List (Key × V)} (h : Rd H a (.dK kvs)) : Coll X s (.ref a) (kvs.map fun p => kV p.1) := by
  intro A E' Q' hh hQ
  obtain ⟨z, lo, vs, rel, dd⟩ := dk_rd I.hok h
  obtain ⟨ep, hat⟩ := dd.dictAt
  refine PySem.W.kdu_collect (PySem.W.kdl_dict (knd := mixKind X.prog X.w) (kvs := vs) (ep := ep) lo) hh hat (by rw [← rel.length]; exact z) fun h' tk acc hk hacc => ?_
  refine hQ h' tk _ hk ?_
  have e : (kvs.map fun p => kV p.1) = vs.map fun p => kV p.1 := by
    have := rel.keys
    have h2 := congrArg (List.map kV) this
    rw [List.map_map, List.map_map] at h2
    exact h2
  rw [e]
  refine keys_at (by rw [Array.length_toList, hacc.1]) fun j v ej => ?_
  obtain ⟨k, x, e1, e2⟩ := hacc.2 j v (by rw [← Array.getElem?_toList]; exact ej)
  exact ⟨k, x, e1, e2⟩

/-! ### sorted -/
def sortD (ds : List PyData) : List PyData := ds.mergeSort (PySem.W.dataLe false id)
def alikeB (ds : List PyData) : Bool := ds.all fun d => ds.all fun e => PySem.W.alike d e
def tupNe : PyData → Bool
  | .tuple (_ :: _) => true
  | _ => false
def notTup : PyData → Bool
  | .none => false
  | .tuple _ => false
  | _ => true
def sortB (ds : List PyData) : Bool := ds.all flat && (alikeB ds && (ds.all tupNe || ds.all notTup))
theorem alike_of {ds : List PyData} (h : alikeB ds = true) : PySem.W.AllAlike ds := fun d hd e he => by
  unfold alikeB at h
  rw [List.all_eq_true] at h
  have := h d hd
  rw [List.all_eq_true] at this
  exact this e he
theorem sortable_of {ds : List PyData} (h : (ds.all tupNe || ds.all notTup) = true) : PySem.W.Sortable ds := by
  rw [Bool.or_eq_true, List.all_eq_true, List.all_eq_true] at h
  rcases h with h | h
  · left
    intro d hd
    have := h d hd
    unfold tupNe at this
    split at this
    · exact ⟨_, _, rfl⟩
    · exact absurd this Bool.false_ne_true
  · right
    intro d hd
    have := h d hd
    unfold notTup at this
    split at this
    · exact absurd this Bool.false_ne_true
    · exact absurd this Bool.false_ne_true
    · rename_i h1 h2
      exact ⟨h1, h2⟩
theorem flat_noD {d : PyData} (h : flat d = true) : noD d = true := by
  unfold flat at h
  rw [Bool.and_eq_true] at h
  exact h.1
theorem flat_depth {d : PyData} (h : flat d = true) : d.depth ≤ 60 := by
  unfold flat at h
  rw [Bool.and_eq_true, decide_eq_true_eq] at h
  exact h.2
theorem flat_all {ds : List PyData} (h : ds.all flat = true) : noDs ds = true := by
  induction ds with
  | nil => rfl
  | cons d ds ih =>
    rw [List.all_cons, Bool.and_eq_true] at h
    rw [noDs, flat_noD h.1, ih h.2]
    rfl
theorem RpL.zip {K : FW} {G : Hp} : ∀ {xs : List V} {ds : List PyData}, RpL K G xs ds → ∀ p ∈ xs.zip ds, Rp K G p.1 p.2
  | _, _, .nil, p, hp => by simp at hp
  | _, _, .cons a b, p, hp => by
    rw [List.zip_cons_cons, List.mem_cons] at hp
    rcases hp with rfl | hp
    · exact a
    · exact RpL.zip b p hp
theorem RpL.of_zip {K : FW} {G : Hp} : ∀ (bs : List (V × PyData)), (∀ p ∈ bs, Rp K G p.1 p.2) → RpL K G (bs.map (·.1)) (bs.map (·.2))
  | [], _ => .nil
  | b :: bs, h => .cons (h b List.mem_cons_self) (RpL.of_zip bs fun p hp => h p (List.mem_cons_of_mem _ hp))
theorem each_vals : ∀ {us : List Value} {bs : List (V × PyData)}, PySem.W.EachIs (fun v b => RelV b.1 v) us bs → Vals (bs.map (·.1)) us
  | _, _, .nil => .nil
  | _, _, .cons a b => .cons a (each_vals b)
theorem vals_each : ∀ {us : List Value} {bs : List (V × PyData)}, Vals (bs.map (·.1)) us → PySem.W.EachIs (fun v b => RelV b.1 v) us bs
  | _, [], r => by cases r; exact .nil
  | _, b :: bs, r => by
    rw [List.map_cons] at r
    cases r with
    | cons a t => exact .cons a (vals_each t)
theorem reads_each {h : Heap} : ∀ {us : List Value} {bs : List (V × PyData)} {as : List Addr}, ReadsAll h us (bs.map (·.2)) as → PySem.W.EachIs (fun v b => ∃ as, Reads h v b.2 as) us bs
  | _, [], _, r => by cases r; exact .nil
  | _, b :: bs, _, r => by
    rw [List.map_cons] at r
    cases r with
    | cons a t => exact .cons ⟨_, a⟩ (reads_each t)

theorem sorted_run (I : Inv X pins σ H s) (hc : X.calm = true) (hu : X.A.units + 200 < cLine) {v : Value} {ds : List PyData} {Q : VK} (hx : Coll X s v xs) (hr : RpL X.KW H xs ds) (hb : sortB ds = true) (hl : xs.length ≤ sizeLine)
    (hq : ∀ p ys, H p = none → (∀ K G, RpL K G xs ds → RpL K G ys (sortD ds)) → Q (.ref p) (upd H p (.lst ys))) : wpAny (model X.prog X.w) X.A (call (.builtin "sorted") [v]) (EP X pins σ Q) X.xe s := by
  unfold sortB at hb
  rw [Bool.and_eq_true, Bool.and_eq_true] at hb
  obtain ⟨b1, b2, b3⟩ := hb
  have hnd := flat_all b1
  have hlen : xs.length = ds.length := hr.length
  have m1 : (xs.zip ds).map (·.1) = xs := List.map_fst_zip (by omega)
  have m2 : (xs.zip ds).map (·.2) = ds := List.map_snd_zip (by omega)
  refine Calls.call_function_entry PyProof.Rows.kind_sorted PyProof.Rows.plain_sorted PyProof.Rows.entry_sorted (PyProof.Rows.args_sorted1 _) ?_
  unfold Builtin.«sorted»
  refine wpAny_bind (m := checkCount "sorted" 1 1 _) (wpAny_pure ?_)
  refine wpAny_bind (hx _ _ _ (I.ok.hd hc) fun h' tk us hk hv => ?_)
  have I1 : Inv X pins σ H { s with heap := h', toks := tk } := I.kept hk
  have hul : us.length = xs.length := hv.length.symm
  refine wpAny_bind (wpAny_newList ?_ (by rw [hul]; exact hl))
  have hoL : (h'.push (seqObj "list" us.toArray 0)).get? h'.objs.size = some (seqObj "list" us.toArray 0) := Heap.get?_push_size _ rfl
  show wpAny _ _ _ _ _ { s with heap := h'.push (seqObj "list" us.toArray 0), toks := tk }
  have I2 : Inv X pins σ H { s with heap := h'.push (seqObj "list" us.toArray 0), toks := tk } := I1.kept (t' := tk) fun b o e => Heap.get?_push_of_some _ e
  have I3 : L2.Inv X pins σ H { s with heap := PySem.W.sortingHeap (h'.push (seqObj "list" us.toArray 0)) h'.objs.size us, toks := tk } := I1.kept (t' := tk) fun b o e => by
    have hb : b < h'.objs.size := Heap.lt_size e
    exact PySem.W.sortingHeap_old (Nat.ne_of_lt hb) (Heap.get?_push_of_some _ e)
  obtain ⟨as, hra⟩ := (hr.reads I3 hnd hv).1
  have er : PySem.W.EachIs (fun v (b : V × PyData) => ∃ as, Reads (PySem.W.sortingHeap (h'.push (seqObj "list" us.toArray 0)) h'.objs.size us) v b.2 as) us (xs.zip ds) := reads_each (by rw [m2]; exact hra)
  have ev : PySem.W.EachIs (fun v (b : V × PyData) => RelV b.1 v) us (xs.zip ds) := vals_each (by rw [m1]; exact hv)
  have hal : PySem.W.AllAlike ((xs.zip ds).map (·.2)) := by rw [m2]; exact alike_of b2
  have hso : PySem.W.Sortable ((xs.zip ds).map (·.2)) := by rw [m2]; exact sortable_of b3
  refine wpAny_bind (wpAny_holding (wpAny_call_entry PyProof.Rows.slot_list_sort ⟨_, hoL, rfl⟩ PyProof.Rows.entry_list_sort
    (PySem.W.list_sort_vals (κ := PySem.W.dataKind (PySem.W.sortingHeap (h'.push (seqObj "list" us.toArray 0)) h'.objs.size us) ((xs.zip ds).map (·.2))) hoL
      (PySem.W.SortsAt.data (s := { s with heap := PySem.W.sortingHeap (h'.push (seqObj "list" us.toArray 0)) h'.objs.size us, toks := tk }) (PySem.W.each_map (R := fun v d => ∃ as, Reads (PySem.W.sortingHeap (h'.push (seqObj "list" us.toArray 0)) h'.objs.size us) v d as) (fun b : V × PyData => b.2) er) hal hso (fun d hd => ?_)) (by rw [hul]; exact hl) ⟨.none, rfl, ?_⟩) (PyProof.Rows.args_list_sort _)))
  · rw [m2] at hd
    rw [List.all_eq_true] at b1
    have := flat_depth (b1 d hd)
    show X.A.units + 1 + 1 + d.depth < cLine
    omega
  · have eo := PySem.W.sortVals_data (enc := fun b : V × PyData => b.2) false ev er hal
    generalize hout : PySem.W.sortVals (PySem.W.dataKind (PySem.W.sortingHeap (h'.push (seqObj "list" us.toArray 0)) h'.objs.size us) ((xs.zip ds).map (·.2))) false us us = out at eo ⊢
    have ro := each_vals eo
    obtain ⟨e', he'⟩ := PyProof.Rows.sortedHeap_at (vs := us) (out := out.toArray) hoL
    have hol : ((xs.zip ds).mergeSort (PySem.W.dataLe false fun b => b.2)).length = xs.length := by
      rw [List.length_mergeSort, List.length_zip]
      omega
    refine wpAny_pure ⟨_, rfl, .ref h'.objs.size, upd H h'.objs.size (.lst (((xs.zip ds).mergeSort (PySem.W.dataLe false fun b => b.2)).map (·.1))), I1.laid (t' := tk) (fun b u e => ?_) (Nat.le_refl _)
      (show ObjOk X.prog X.w _ _ _ (.lst _) from ⟨by rw [List.length_map, hol]; exact hl, out, e', ro, he'⟩), rfl, hq _ _ (I1.hok.fresh (Nat.le_refl _)) fun K G hg => ?_⟩
    · have hb : b < h'.objs.size := Heap.lt_size e
      rw [PyProof.Rows.sortedHeap_old (Nat.ne_of_lt hb) (by rw [size_push']; exact Nat.lt_succ_of_lt hb)]
      exact Heap.get?_push_of_some _ e
    · have z := RpL.of_zip (K := K) (G := G) ((xs.zip ds).mergeSort (PySem.W.dataLe false fun b => b.2)) fun p hp => hg.zip p ((List.mergeSort_perm _ _).mem_iff.mp hp)
      have e2 : ((xs.zip ds).mergeSort (PySem.W.dataLe false fun b => b.2)).map (·.2) = sortD ds := by
        unfold sortD
        have e3 := PySem.W.sort_maps (r := PySem.W.dataLe false fun b : V × PyData => b.2) (s := PySem.W.dataLe false id) (fun b : V × PyData => b.2) (l := xs.zip ds) fun _ _ _ _ => rfl
        rw [m2] at e3
        exact e3
      rw [e2] at z
      exact z
end

/-! ### the builtins -/
def keysD (es : List (PyData × PyData)) : List PyData := es.map (·.1)
/-- the dicts with keys that are tuples bear a first entry (None, None) -/
def isT : List (PyData × PyData) → Bool
  | (.none, _) :: _ => true
  | _ => false
def intsOf : List PyData → Option (List Int)
  | [] => some []
  | .int i :: r => (intsOf r).map (i :: ·)
  | _ => none
def boolsOf : List PyData → Option (List Bool)
  | [] => some []
  | .bool i :: r => (boolsOf r).map (i :: ·)
  | _ => none
theorem intsOf_eq : ∀ {ds : List PyData} {ns : List Int}, intsOf ds = some ns → ds = ns.map PyData.int
  | [], _, h => by cases h; rfl
  | d :: r, ns, h => by
    cases d <;> simp only [intsOf, reduceCtorEq, Option.map_eq_some_iff] at h
    obtain ⟨ms, h1, rfl⟩ := h
    rw [intsOf_eq h1]
    rfl
theorem boolsOf_eq : ∀ {ds : List PyData} {ns : List Bool}, boolsOf ds = some ns → ds = ns.map PyData.bool
  | [], _, h => by cases h; rfl
  | d :: r, ns, h => by
    cases d <;> simp only [boolsOf, reduceCtorEq, Option.map_eq_some_iff] at h
    obtain ⟨ms, h1, rfl⟩ := h
    rw [boolsOf_eq h1]
    rfl
def oLen : Op
  | [(.list a, _)] => some (.int a.length, .im)
  | [(.tuple a, _)] => some (.int a.length, .im)
  | [(.dict a, _)] => if isT a then none else some (.int a.length, .im)
  | _ => none
def oSum : Op
  | [(.list a, _)] => (intsOf a).map fun ns => (.int ns.sum, .im)
  | [(.tuple a, _)] => (intsOf a).map fun ns => (.int ns.sum, .im)
  | _ => none
def oAll : Op
  | [(.list a, _)] => (boolsOf a).map fun ns => (.bool (ns.all id), .im)
  | _ => none
def oAny : Op
  | [(.list a, _)] => (boolsOf a).map fun ns => (.bool (ns.any id), .im)
  | _ => none
def oAbs : Op
  | [(.int a, _)] => some (.int (if a < 0 then -a else a), .im)
  | _ => none
def oInt : Op
  | [(.int a, _)] => some (.int a, .im)
  | [(.bool a, _)] => some (.int (if a then 1 else 0), .im)
  | _ => none
def oTuple : Op
  | [(.list a, _)] => some (.tuple a, .im)
  | [(.tuple a, _)] => some (.tuple a, .im)
  | _ => none
def oList : Op
  | [(.list a, _)] => some (.list a, .fr)
  | [(.tuple a, _)] => some (.list a, .fr)
  | [(.dict a, _)] => if isT a then none else some (.list (keysD a), .fr)
  | _ => none
def minOk (ds : List PyData) : Bool := ds.all flat && (alikeB ds && ds.all fun d => !isNon d)
def oMin : Op
  | [(.int i, _), (.int j, _)] => some (.int (if j < i then j else i), .im)
  | [(.list (a :: as), _)] => if minOk (a :: as) then some (PySem.W.minD a as, .im) else none
  | [(.tuple (a :: as), _)] => if minOk (a :: as) then some (PySem.W.minD a as, .im) else none
  | _ => none
def oMax : Op
  | [(.int i, _), (.int j, _)] => some (.int (if j > i then j else i), .im)
  | [(.list (a :: as), _)] => if minOk (a :: as) then some (PySem.W.maxD a as, .im) else none
  | [(.tuple (a :: as), _)] => if minOk (a :: as) then some (PySem.W.maxD a as, .im) else none
  | _ => none
def oSorted : Op
  | [(.list a, _)] => if sortB a then some (.list (sortD a), .fr) else none
  | [(.tuple a, _)] => if sortB a then some (.list (sortD a), .fr) else none
  | [(.dict a, _)] => if isT a then none else if sortB (keysD a) then some (.list (sortD (keysD a)), .fr) else none
  | _ => none
end PX

namespace PX
open PySem PySem.Spec PyProof.Rows L2

theorem kV_rp {K : FW} {G : Hp} {k : Key} (h : keyOk k = true) : Rp K G (kV k) (keyD k) := by
  cases k with
  | inl i => exact .int i
  | inr x => exact .str x h
theorem RpD.keys {K : FW} {G : Hp} : ∀ {kvs : List (Key × V)} {es : List (PyData × PyData)}, RpD K G kvs es → RpL K G (kvs.map fun p => kV p.1) (keysD es)
  | _, _, .nil => .nil
  | _, _, .cons o a b => .cons (kV_rp o) (RpD.keys b)
theorem RpD.notT {K : FW} {G : Hp} {kvs : List (Key × V)} {es : List (PyData × PyData)} (h : RpD K G kvs es) : isT es = false := by
  cases h with
  | nil => rfl
  | @cons k v vs d ds o a b => cases k <;> rfl

section
variable {X : Cx} {K : FW} {B Gb G H : Hp} {σ : L2.St} {env : SEnv} {W : List Int} {v : V} {k : Kd}
theorem VOk.dictD {es : List (PyData × PyData)} (S : Sta K B Gb G H σ env W) (h : VOk K B G H σ env v (.dict es) k) (hn : isT es = false) : ∃ a kvs, v = .ref a ∧ Rd H a (.dK kvs) ∧ RpD K G kvs es := by
  obtain ⟨a, rfl, ⟨kvs, h1, h2⟩ | ⟨a', kvs, fs, rfl, h1, h2⟩⟩ := h.dict S
  · exact ⟨a, kvs, rfl, h1, h2⟩
  · exact absurd hn (by simp [isT])
theorem VOk.dictT {es : List (PyData × PyData)} (S : Sta K B Gb G H σ env W) (h : VOk K B G H σ env v (.dict es) k) (hn : isT es = true) : ∃ a a' kvs fs, v = .ref a ∧ es = (.none, .none) :: fs ∧ Rd H a (HN K.w a' kvs) ∧ RpT K G kvs fs := by
  obtain ⟨a, rfl, ⟨kvs, h1, h2⟩ | ⟨a', kvs, fs, rfl, h1, h2⟩⟩ := h.dict S
  · rw [h2.notT] at hn; exact absurd hn Bool.false_ne_true
  · exact ⟨a, a', kvs, fs, rfl, rfl, h1, h2⟩
theorem vals_one {x : V} {us : List Value} (r : Vals [x] us) : ∃ u, us = [u] ∧ RelV x u := by
  cases r with
  | cons a t => cases t; exact ⟨_, rfl, a⟩
/-- length of what stands in the heap -/
theorem len_list {X : Cx} {pins : List (Addr × Obj)} {σ : L2.St} {H : Hp} {s : Shared} {a : Addr} {xs : List V} (I : L2.Inv X pins σ H s) (h : H a = some (.lst xs)) : xs.length ≤ sizeLine := (I.list (.of h)).choose_spec.2.2

theorem so_len : CallR X (.builtin "len") (rV X.KW oLen) := by
  intro pins s σ H xs us Q I r h
  have h' := h
  obtain ⟨B, Gb, G, σ1, env, W, ds, d, k, S, p, e, c⟩ := h'
  unfold oLen at e
  split at e
  · match xs, p with
    | [x], p =>
      cases e
      obtain ⟨a, ys, rfl, h1, h2⟩ := p.1.list S
      exact call_len_seq pins s σ H _ us Q I r ⟨a, ys, rfl, .inl (.of h1), by rw [h2.length]; exact c.int S⟩
  · match xs, p with
    | [x], p =>
      cases e
      obtain ⟨a, ys, rfl, h1, h2⟩ := p.1.tuple S
      exact call_len_seq pins s σ H _ us Q I r ⟨a, ys, rfl, .inr ((Sub.of S.sg).sqT h1.sqT), by rw [h2.length]; exact c.int S⟩
  · match xs, p with
    | [x], p =>
      split at e
      · cases e
      · rename_i hn
        cases e
        obtain ⟨a, kvs, rfl, h1, h2⟩ := p.1.dictD S (by simpa using hn)
        obtain ⟨u, rfl, ru⟩ := vals_one r
        cases ru
        exact d_len I h1 fun t s' I' => ⟨.int kvs.length, H, I', ⟨t, rfl⟩, by rw [h2.length]; exact c.int S⟩
  · cases e
def rSumT (K : FW) : List V → Hp → VK → Prop := fun vs H Q => ∃ (a : Addr) (ns : List Int), vs = [V.ref a] ∧ SqT K H a (ns.map V.int) ∧ Q (.int ns.sum) H
theorem cr_sumT (hc : X.calm = true) : CallR X (.builtin "sum") (rSumT X.KW) := by
  intro pins s σ H vs us Q I r h
  obtain ⟨a, ns, rfl, hs, q⟩ := h
  obtain ⟨its, rv, hl, _⟩ := I.tuple hs
  rw [Vals.ref1 r]
  have hi := rv.ints
  obtain ⟨xs, e⟩ := hi.allInts.items
  have hn : numsOf (intItems xs).toList = ns := by rw [← e]; exact hi.numsOf
  rw [nums_intItems] at hn
  rw [e] at hl
  refine PySem.W.ktm_sumG (I.ok.hd hc) hl fun h' tk t' hk => ?_
  rw [preSum_eq, List.take_of_length_le (by simp), hn]
  exact ⟨.int _, H, I.kept hk, ⟨_, rfl⟩, q⟩
theorem so_sum (hc : X.calm = true) : CallR X (.builtin "sum") (rV X.KW oSum) := by
  intro pins s σ H xs us Q I r h
  obtain ⟨B, Gb, G, σ1, env, W, ds, d, k, S, p, e, c⟩ := h
  unfold oSum at e
  split at e
  · match xs, p with
    | [x], p =>
      rw [Option.map_eq_some_iff] at e
      obtain ⟨ns, e1, e2⟩ := e
      cases e2
      obtain ⟨a, ys, rfl, h1, h2⟩ := p.1.list S
      rw [intsOf_eq e1] at h2
      have := h2.of_ints
      subst this
      exact cr_sum hc pins s σ H _ us Q I r ⟨a, ns, rfl, .of h1, c.int S⟩
  · match xs, p with
    | [x], p =>
      rw [Option.map_eq_some_iff] at e
      obtain ⟨ns, e1, e2⟩ := e
      cases e2
      obtain ⟨a, ys, rfl, h1, h2⟩ := p.1.tuple S
      rw [intsOf_eq e1] at h2
      have := h2.of_ints
      subst this
      exact cr_sumT hc pins s σ H _ us Q I r ⟨a, ns, rfl, (Sub.of S.sg).sqT h1.sqT, c.int S⟩
  · cases e
theorem so_all (hc : X.calm = true) : CallR X (.builtin "all") (rV X.KW oAll) := by
  intro pins s σ H xs us Q I r h
  obtain ⟨B, Gb, G, σ1, env, W, ds, d, k, S, p, e, c⟩ := h
  unfold oAll at e
  split at e
  · match xs, p with
    | [x], p =>
      rw [Option.map_eq_some_iff] at e
      obtain ⟨ns, e1, e2⟩ := e
      cases e2
      obtain ⟨a, ys, rfl, h1, h2⟩ := p.1.list S
      rw [boolsOf_eq e1] at h2
      have := h2.of_bools
      subst this
      exact cr_all hc pins s σ H _ us Q I r ⟨a, ns, rfl, .of h1, c.bool S⟩
  · cases e
theorem so_any (hc : X.calm = true) : CallR X (.builtin "any") (rV X.KW oAny) := by
  intro pins s σ H xs us Q I r h
  obtain ⟨B, Gb, G, σ1, env, W, ds, d, k, S, p, e, c⟩ := h
  unfold oAny at e
  split at e
  · match xs, p with
    | [x], p =>
      rw [Option.map_eq_some_iff] at e
      obtain ⟨ns, e1, e2⟩ := e
      cases e2
      obtain ⟨a, ys, rfl, h1, h2⟩ := p.1.list S
      rw [boolsOf_eq e1] at h2
      have := h2.of_bools
      subst this
      exact cr_any hc pins s σ H _ us Q I r ⟨a, ns, rfl, .of h1, c.bool S⟩
  · cases e
theorem so_abs : CallR X (.builtin "abs") (rV X.KW oAbs) := by
  intro pins s σ H xs us Q I r h
  obtain ⟨B, Gb, G, σ1, env, W, ds, d, k, S, p, e, c⟩ := h
  unfold oAbs at e
  split at e
  · match xs, p with
    | [x], p =>
      cases e
      obtain rfl := p.1.int S
      exact call_abs pins s σ H _ us Q I r ⟨_, rfl, c.int S⟩
  · cases e
theorem so_int : CallR X (.type "int") (rV X.KW oInt) := by
  intro pins s σ H xs us Q I r h
  obtain ⟨B, Gb, G, σ1, env, W, ds, d, k, S, p, e, c⟩ := h
  unfold oInt at e
  split at e
  · match xs, p with
    | [x], p =>
      cases e
      obtain rfl := p.1.int S
      exact call_int1 pins s σ H _ us Q I r (.inl ⟨_, rfl, c.int S⟩)
  · match xs, p with
    | [x], p =>
      cases e
      obtain rfl := p.1.bool S
      exact call_int1 pins s σ H _ us Q I r (.inr ⟨_, rfl, c.int S⟩)
  · cases e
theorem so_tuple : CallR X (.type "tuple") (rV X.KW oTuple) := by
  intro pins s σ H xs us Q I r h
  obtain ⟨B, Gb, G, σ1, env, W, ds, d, k, S, p, e, c⟩ := h
  unfold oTuple at e
  split at e
  · match xs, p with
    | [x], p =>
      cases e
      obtain ⟨a, ys, rfl, h1, h2⟩ := p.1.list S
      exact call_tuple_of pins s σ H _ us Q I r ⟨a, ys, rfl, .inl ⟨.of h1, fun l hl => c.tup S hl h2⟩⟩
  · match xs, p with
    | [x], p =>
      cases e
      obtain ⟨a, ys, rfl, h1, h2⟩ := p.1.tuple S
      exact call_tuple_of pins s σ H _ us Q I r ⟨a, ys, rfl, .inr ⟨(Sub.of S.sg).sqT h1.sqT, c.im S (.tup h1 h2)⟩⟩
  · cases e
theorem so_list (hc : X.calm = true) : CallR X (.type "list") (rV X.KW oList) := by
  intro pins s σ H xs us Q I r h
  obtain ⟨B, Gb, G, σ1, env, W, ds, d, k, S, p, e, c⟩ := h
  unfold oList at e
  split at e
  · match xs, p with
    | [x], p =>
      cases e
      obtain ⟨a, ys, rfl, h1, h2⟩ := p.1.list S
      exact call_list_of pins s σ H _ us Q I r ⟨a, ys, rfl, .inl (.of h1), fun l hl => c.fr S hl h2⟩
  · match xs, p with
    | [x], p =>
      cases e
      obtain ⟨a, ys, rfl, h1, h2⟩ := p.1.tuple S
      exact call_list_of pins s σ H _ us Q I r ⟨a, ys, rfl, .inr ((Sub.of S.sg).sqT h1.sqT), fun l hl => c.fr S hl h2⟩
  · match xs, p with
    | [x], p =>
      split at e
      · cases e
      · rename_i hn
        cases e
        obtain ⟨a, kvs, rfl, h1, h2⟩ := p.1.dictD S (by simpa using hn)
        exact call_listD hc pins s σ H _ us Q I r ⟨a, kvs, rfl, h1, fun l hl => c.fr S hl h2.keys⟩
  · cases e
theorem so_sorted (hc : X.calm = true) (hu : X.A.units + 200 < cLine) : CallR X (.builtin "sorted") (rV X.KW oSorted) := by
  intro pins s σ H xs us Q I r h
  obtain ⟨B, Gb, G, σ1, env, W, ds, d, k, S, p, e, c⟩ := h
  unfold oSorted at e
  split at e
  · match xs, p with
    | [x], p =>
      split at e
      · rename_i hs
        cases e
        obtain ⟨a, ys, rfl, h1, h2⟩ := p.1.list S
        obtain ⟨u, rfl, ru⟩ := vals_one r
        cases ru
        exact sorted_run I hc hu (coll_list I (.of h1)) (RpL.mono (Sub.of S.sg) h2) hs (len_list I h1) fun p' ys' hp hr => c.fr S hp (hr _ _ h2)
      · cases e
  · match xs, p with
    | [x], p =>
      split at e
      · rename_i hs
        cases e
        obtain ⟨a, ys, rfl, h1, h2⟩ := p.1.tuple S
        obtain ⟨u, rfl, ru⟩ := vals_one r
        cases ru
        have h1' := (Sub.of S.sg).sqT h1.sqT
        exact sorted_run I hc hu (coll_tup I h1') (RpL.mono (Sub.of S.sg) h2) hs (I.tuple h1').choose_spec.2.2 fun p' ys' hp hr => c.fr S hp (hr _ _ h2)
      · cases e
  · match xs, p with
    | [x], p =>
      split at e
      · cases e
      · rename_i hn
        split at e
        · rename_i hs
          cases e
          obtain ⟨a, kvs, rfl, h1, h2⟩ := p.1.dictD S (by simpa using hn)
          obtain ⟨u, rfl, ru⟩ := vals_one r
          cases ru
          exact sorted_run I hc hu (coll_dK I h1) (RpL.mono (Sub.of S.sg) h2.keys) hs (by rw [List.length_map]; exact (dk_rd I.hok h1).1) fun p' ys' hp hr => c.fr S hp (hr _ _ h2.keys)
        · cases e
  · cases e

/-! ### min, max -/
theorem readsAll_len {h : Heap} : ∀ {vs : List Value} {ds : List PyData} {as : List Addr}, ReadsAll h vs ds as → vs.length = ds.length
  | _, _, _, .nil => rfl
  | _, _, _, .cons _ b => congrArg (· + 1) (readsAll_len b)
theorem RpL.at {K : FW} {G : Hp} {xs : List V} {ds : List PyData} (h : RpL K G xs ds) {i : Nat} {x : V} (e : xs[i]? = some x) : ∃ d, d ∈ ds ∧ Rp K G x d := by
  obtain ⟨d, h1, h2⟩ := h.get' e
  exact ⟨d, List.mem_of_getElem? h1, h2⟩
theorem depth_all : ∀ {ds : List PyData}, ds.all flat = true → PyData.depthAll ds ≤ 60
  | [], _ => by simp [PyData.depthAll]
  | d :: ds, h => by
    rw [List.all_cons, Bool.and_eq_true] at h
    have h1 := flat_depth h.1
    have h2 := depth_all h.2
    simp only [PyData.depthAll]
    omega
/-- the item that a builtin hands back is the one with that datum -/
theorem pick_of {pins : List (Addr × Obj)} {s : Shared} {σ : L2.St} {H : Hp} {Q : VK} (I : L2.Inv X pins σ H s) {ys : List V} {its : List Value} {ds : List PyData} {m : PyData} {σ1 : L2.St} (S : Sta X.KW B Gb G H σ1 env W)
    (c : ∀ x, Rp X.KW G x m → Q x H) (h2 : RpL X.KW G ys ds) (r : Vals ys its) (hf : ds.all flat = true) (hm : noD m = true)
    {i : Nat} {u : Value} {h' : Heap} {tk : Nat} {bs : List Addr} (hi : its.toArray[i]? = some u) (hr : Reads h' u m bs) (hk : ∀ b o, s.heap.get? b = some o → h'.get? b = some o) :
    EP X pins σ Q u { s with heap := h', toks := tk } := by
  have I1 : L2.Inv X pins σ H { s with heap := h', toks := tk } := I.kept (t' := tk) hk
  have hi' : its[i]? = some u := by simpa using hi
  have hil : i < its.length := (List.getElem?_eq_some_iff.mp hi').1
  obtain ⟨x, hx⟩ : ∃ x, ys[i]? = some x := by
    have : i < ys.length := by rw [r.length]; exact hil
    exact ⟨_, List.getElem?_eq_getElem this⟩
  obtain ⟨u', e1, ru⟩ := r.get hx
  rw [hi'] at e1
  cases e1
  obtain ⟨d, hd, rd⟩ := h2.at hx
  rw [List.all_eq_true] at hf
  have rr := (Rp.mono (Sub.of S.sg) rd).reads I1 (flat_noD (hf d hd)) ru
  obtain ⟨as, ra⟩ := rr.1
  have e2 : d = m := SeqAt.Reads.unique d m u as bs rr.2 ra hr
  subst e2
  exact ⟨x, H, I1, ru, c x rd⟩
theorem noD_mem : ∀ {ds : List PyData} {m : PyData}, ds.all flat = true → m ∈ ds → noD m = true := fun h hm => by
  rw [List.all_eq_true] at h
  exact flat_noD (h _ hm)
theorem minD_mem : ∀ (as : List PyData) (a : PyData), PySem.W.minD a as ∈ a :: as
  | [], a => by simp [PySem.W.minD]
  | b :: bs, a => by
    have := minD_mem bs (if PySem.W.dataLt b a then b else a)
    unfold PySem.W.minD at *
    rw [List.foldl_cons]
    rcases List.mem_cons.mp this with h | h
    · rw [h]
      split <;> simp
    · exact List.mem_cons_of_mem _ (List.mem_cons_of_mem _ h)
theorem maxD_mem : ∀ (as : List PyData) (a : PyData), PySem.W.maxD a as ∈ a :: as
  | [], a => by simp [PySem.W.maxD]
  | b :: bs, a => by
    have := maxD_mem bs (if PySem.W.dataLt a b then b else a)
    unfold PySem.W.maxD at *
    rw [List.foldl_cons]
    rcases List.mem_cons.mp this with h | h
    · rw [h]
      split <;> simp
    · exact List.mem_cons_of_mem _ (List.mem_cons_of_mem _ h)
theorem minOk_of {ds : List PyData} (h : minOk ds = true) : ds.all flat = true ∧ PySem.W.AlikeAll ds := by
  unfold minOk at h
  rw [Bool.and_eq_true, Bool.and_eq_true] at h
  refine ⟨h.1, alike_of h.2.1, fun x hx e => ?_⟩
  have := h.2.2
  rw [List.all_eq_true] at this
  have := this x hx
  rw [e] at this
  exact absurd this (by simp [PX.isNon])
theorem so_min (hc : X.calm = true) (hu : X.A.units + 200 < cLine) : CallR X (.builtin "min") (rV X.KW oMin) := by
  intro pins s σ H xs us Q I r h
  obtain ⟨B, Gb, G, σ1, env, W, ds, d, k, S, p, e, c⟩ := h
  unfold oMin at e
  split at e
  · match xs, p with
    | [x, y], p =>
      cases e
      obtain rfl := p.1.int S
      obtain rfl := p.2.2.1.int S
      exact call_min2 hc pins s σ H _ us Q I r ⟨_, _, rfl, c.int S⟩
  · match xs, p with
    | [x], p =>
      split at e
      · rename_i hs
        cases e
        obtain ⟨k1, k2⟩ := minOk_of hs
        obtain ⟨a, ys, rfl, h1, h2⟩ := p.1.list S
        obtain ⟨u, rfl, ru⟩ := vals_one r
        cases ru
        obtain ⟨its, rv, hl, _⟩ := I.list (.of h1)
        obtain ⟨as, hra⟩ := ((RpL.mono (Sub.of S.sg) h2).reads I (flat_all k1) rv).1
        refine PySem.W.min_list_data (I.ok.hd hc) hl.isList (by simpa using hra) k2 (by have := depth_all k1; omega) fun i u h' tk bs hi hr hk => ?_
        exact pick_of I S (fun x hx => c.im S hx) h2 rv k1 (noD_mem k1 (minD_mem _ _)) hi hr hk
      · cases e
  · match xs, p with
    | [x], p =>
      split at e
      · rename_i hs
        cases e
        obtain ⟨k1, k2⟩ := minOk_of hs
        obtain ⟨a, ys, rfl, h1, h2⟩ := p.1.tuple S
        obtain ⟨u, rfl, ru⟩ := vals_one r
        cases ru
        obtain ⟨its, rv, ⟨o, ho, hcl, n, hd⟩, _⟩ := I.tuple ((Sub.of S.sg).sqT h1.sqT)
        obtain ⟨as, hra⟩ := ((RpL.mono (Sub.of S.sg) h2).reads I (flat_all k1) rv).1
        refine PySem.W.min_tuple_data (vs := its.toArray) (I.ok.hd hc) ⟨o, ho, hcl, n, hd⟩ (by simpa using hra) k2 (by have := depth_all k1; omega) fun i u h' tk bs hi hr hk => ?_
        exact pick_of I S (fun x hx => c.im S hx) h2 rv k1 (noD_mem k1 (minD_mem _ _)) hi hr hk
      · cases e
  · cases e
theorem so_max (hc : X.calm = true) (hu : X.A.units + 200 < cLine) : CallR X (.builtin "max") (rV X.KW oMax) := by
  intro pins s σ H xs us Q I r h
  obtain ⟨B, Gb, G, σ1, env, W, ds, d, k, S, p, e, c⟩ := h
  unfold oMax at e
  split at e
  · match xs, p with
    | [x, y], p =>
      cases e
      obtain rfl := p.1.int S
      obtain rfl := p.2.2.1.int S
      exact call_max2 hc pins s σ H _ us Q I r ⟨_, _, rfl, c.int S⟩
  · match xs, p with
    | [x], p =>
      split at e
      · rename_i hs
        cases e
        obtain ⟨k1, k2⟩ := minOk_of hs
        obtain ⟨a, ys, rfl, h1, h2⟩ := p.1.list S
        obtain ⟨u, rfl, ru⟩ := vals_one r
        cases ru
        obtain ⟨its, rv, hl, _⟩ := I.list (.of h1)
        obtain ⟨as, hra⟩ := ((RpL.mono (Sub.of S.sg) h2).reads I (flat_all k1) rv).1
        refine PySem.W.max_list_data (I.ok.hd hc) hl.isList (by simpa using hra) k2 (by have := depth_all k1; omega) fun i u h' tk bs hi hr hk => ?_
        exact pick_of I S (fun x hx => c.im S hx) h2 rv k1 (noD_mem k1 (maxD_mem _ _)) hi hr hk
      · cases e
  · match xs, p with
    | [x], p =>
      split at e
      · rename_i hs
        cases e
        obtain ⟨k1, k2⟩ := minOk_of hs
        obtain ⟨a, ys, rfl, h1, h2⟩ := p.1.tuple S
        obtain ⟨u, rfl, ru⟩ := vals_one r
        cases ru
        obtain ⟨its, rv, ⟨o, ho, hcl, n, hd⟩, _⟩ := I.tuple ((Sub.of S.sg).sqT h1.sqT)
        obtain ⟨as, hra⟩ := ((RpL.mono (Sub.of S.sg) h2).reads I (flat_all k1) rv).1
        refine PySem.W.max_tuple_data (vs := its.toArray) (I.ok.hd hc) ⟨o, ho, hcl, n, hd⟩ (by simpa using hra) k2 (by have := depth_all k1; omega) fun i u h' tk bs hi hr hk => ?_
        exact pick_of I S (fun x hx => c.im S hx) h2 rv k1 (noD_mem k1 (maxD_mem _ _)) hi hr hk
      · cases e
  · cases e
end
end PX

namespace PX
open PySem PySem.Spec PyProof.Rows L2
/-! ### keys of any depth: as data -/
mutual
theorem eqv_nk : ∀ (a b : PyData) (k j : NestedKey), nkOf a = some k → nkOf b = some j → PyData.eqv a b = NestedKey.beq k j
  | .tuple xs, b, k, j, h1, h2 => by
    rw [nkOf, Option.map_eq_some_iff] at h1
    obtain ⟨ks, e1, rfl⟩ := h1
    cases b with
    | tuple ys =>
      rw [nkOf, Option.map_eq_some_iff] at h2
      obtain ⟨js, e2, rfl⟩ := h2
      simp only [PyData.eqv, NestedKey.beq]
      exact eqv_nks xs ys ks js e1 e2
    | list _ => cases h2
    | dict _ => cases h2
    | none => cases h2; rfl
    | bool c => cases h2; rfl
    | int c => cases h2; rfl
    | str c => cases h2; rfl
  | .none, b, k, j, h1, h2 => by
    cases h1
    cases b with
    | tuple ys =>
      rw [nkOf, Option.map_eq_some_iff] at h2
      obtain ⟨js, e2, rfl⟩ := h2
      rfl
    | list _ => cases h2
    | dict _ => cases h2
    | none => cases h2; rfl
    | bool c => cases h2; rfl
    | int c => cases h2; rfl
    | str c => cases h2; rfl
  | .bool a, b, k, j, h1, h2 => by
    cases h1
    cases b with
    | tuple ys =>
      rw [nkOf, Option.map_eq_some_iff] at h2
      obtain ⟨js, e2, rfl⟩ := h2
      rfl
    | list _ => cases h2
    | dict _ => cases h2
    | none => cases h2; rfl
    | bool c => cases h2; cases a <;> cases c <;> rfl
    | int c => cases h2; cases a <;> rfl
    | str c => cases h2; rfl
  | .int a, b, k, j, h1, h2 => by
    cases h1
    cases b with
    | tuple ys =>
      rw [nkOf, Option.map_eq_some_iff] at h2
      obtain ⟨js, e2, rfl⟩ := h2
      rfl
    | list _ => cases h2
    | dict _ => cases h2
    | none => cases h2; rfl
    | bool c => cases h2; cases c <;> rfl
    | int c => cases h2; simp [PyData.eqv, NestedKey.beq, Bool.beq_eq_decide_eq]
    | str c => cases h2; rfl
  | .str a, b, k, j, h1, h2 => by
    cases h1
    cases b with
    | tuple ys =>
      rw [nkOf, Option.map_eq_some_iff] at h2
      obtain ⟨js, e2, rfl⟩ := h2
      rfl
    | list _ => cases h2
    | dict _ => cases h2
    | none => cases h2; rfl
    | bool c => cases h2; rfl
    | int c => cases h2; rfl
    | str c => cases h2; simp [PyData.eqv, NestedKey.beq, Bool.beq_eq_decide_eq]
  | .list _, _, _, _, h1, _ => by cases h1
  | .dict _, _, _, _, h1, _ => by cases h1
theorem eqv_nks : ∀ (as bs : List PyData) (ks js : List NestedKey), nksOf as = some ks → nksOf bs = some js → PyData.eqvAll as bs = NestedKey.beqAll ks js
  | [], bs, ks, js, h1, h2 => by
    cases h1
    cases bs with
    | nil => cases h2; rfl
    | cons b bs =>
      rw [nksOf, Option.bind_eq_some_iff] at h2
      obtain ⟨j, _, h2⟩ := h2
      rw [Option.map_eq_some_iff] at h2
      obtain ⟨js, _, rfl⟩ := h2
      rfl
  | a :: as, bs, ks, js, h1, h2 => by
    rw [nksOf, Option.bind_eq_some_iff] at h1
    obtain ⟨k, e1, h1⟩ := h1
    rw [Option.map_eq_some_iff] at h1
    obtain ⟨ks, f1, rfl⟩ := h1
    cases bs with
    | nil => cases h2; rfl
    | cons b bs =>
      rw [nksOf, Option.bind_eq_some_iff] at h2
      obtain ⟨j, e2, h2⟩ := h2
      rw [Option.map_eq_some_iff] at h2
      obtain ⟨js, f2, rfl⟩ := h2
      simp only [PyData.eqvAll, NestedKey.beqAll]
      rw [eqv_nk a b k j e1 e2, eqv_nks as bs ks js f1 f2]
end
theorem nkT_some {d : PyData} {k : NestedKey} (h : nkT d = some k) : nkOf d = some k ∧ k.depth ≤ 8 ∧ ∃ ds, d = .tuple ds := by
  unfold nkT at h
  split at h
  · rename_i ds
    rw [Option.bind_eq_some_iff] at h
    obtain ⟨j, h1, h2⟩ := h
    split at h2
    · cases h2
      exact ⟨h1, by assumption, _, rfl⟩
    · cases h2
  · cases h
theorem eqv_nkT {a b : PyData} {k j : NestedKey} (h1 : nkT a = some k) (h2 : nkT b = some j) : PyData.eqv a b = decide (k = j) := by
  rw [eqv_nk a b k j (nkT_some h1).1 (nkT_some h2).1, NestedKey.decide_eq]

/-! ### rows of such a dict -/
def valN (kvs : List NRow) (k : NestedKey) : Option V := (kvs.find? fun r => decide (r.1 = k)).map fun r => r.2.2
def putN (kvs : List NRow) (k : NestedKey) (b : Addr) (v : V) : List NRow := if (kvs.any fun r => decide (r.1 = k)) = true then kvs.map fun r => if r.1 = k then (r.1, r.2.1, v) else r else kvs ++ [(k, b, v)]
abbrev KN : List NRow → List (NestedKey × Addr × Value) → Prop := Paired fun (p : NRow) (q : NestedKey × Addr × Value) => p.1 = q.1 ∧ p.2.1 = q.2.1 ∧ RelV p.2.2 q.2.2
theorem valN_any (kvs : List NRow) (k : NestedKey) : (kvs.any fun r => decide (r.1 = k)) = (valN kvs k).isSome := by
  unfold valN
  rw [Option.isSome_map, Bool.eq_iff_iff, List.any_eq_true, List.find?_isSome]
theorem KN.val {kvs : List NRow} {xs : List (NestedKey × Addr × Value)} (r : KN kvs xs) (k : NestedKey) : RelO (valN kvs k) ((atKey xs k).map (·.2)) := by
  induction r with
  | nil => exact True.intro
  | @cons p q ps qs h t ih =>
    obtain ⟨h1, _, h2⟩ := h
    by_cases e : p.1 = k
    · have e' : q.1 = k := h1.symm.trans e
      have b : atKey (q :: qs) k = some q.2 := by simp [atKey, List.find?_cons, e']
      have c : valN (p :: ps) k = some p.2.2 := by simp [valN, List.find?_cons, e]
      rw [c, b]; exact h2
    · have e' : ¬ q.1 = k := fun z => e (h1.trans z)
      have b : atKey (q :: qs) k = atKey qs k := by simp [atKey, List.find?_cons, e']
      have c : valN (p :: ps) k = valN ps k := by simp [valN, List.find?_cons, e]
      rw [c, b]; exact ih
theorem KN.repl {kvs : List NRow} {xs : List (NestedKey × Addr × Value)} (r : KN kvs xs) (k : NestedKey) {y : V} {u : Value} (ry : RelV y u) :
    KN (kvs.map fun r => if r.1 = k then (r.1, r.2.1, y) else r) (xs.map (putAt k u)) := by
  induction r with
  | nil => exact .nil
  | @cons p q ps qs h t ih =>
    obtain ⟨h1, h2, h3⟩ := h
    refine .cons ?_ ih
    unfold putAt
    dsimp only
    by_cases e : p.1 = k
    · rw [if_pos e, if_pos (h1.symm.trans e)]; exact ⟨h1, h2, ry⟩
    · rw [if_neg e, if_neg (fun z => e (h1.trans z))]; exact ⟨h1, h2, h3⟩
theorem KN.put {kvs : List NRow} {xs : List (NestedKey × Addr × Value)} (r : KN kvs xs) (k : NestedKey) {b : Addr} {y : V} {u : Value} (ry : RelV y u) :
    KN (putN kvs k b y) (storedH xs k b u) := by
  have e : (kvs.any fun r => decide (r.1 = k)) = (atKey xs k).isSome := by
    rw [valN_any, (r.val k).isSome_eq, Option.isSome_map]
  unfold putN storedH
  rw [e]
  by_cases q : (atKey xs k).isSome = true
  · rw [if_pos q, if_pos q]; exact r.repl k ry
  · rw [if_neg q, if_neg q]; exact Paired.snoc r ⟨rfl, rfl, ry⟩
theorem putN_len (kvs : List NRow) (k : NestedKey) (b : Addr) (v : V) : (putN kvs k b v).length ≤ kvs.length + 1 := by
  unfold putN
  split
  · rw [List.length_map]; omega
  · simp

/-! ### the keys in the heap -/
def KeysIn (K : FW) (H : Hp) (kvs : List NRow) : Prop := ∀ r ∈ kvs, ∃ kd, nkT kd = some r.1 ∧ Rp K H (.ref r.2.1) kd
section
variable {X : Cx} {pins : List (Addr × Obj)} {σ : L2.St} {H : Hp} {s : Shared}
mutual
theorem Rp.nested (I : Inv X pins σ H s) : ∀ {v : V} {d : PyData} {u : Value} {k : NestedKey}, Rp X.KW H v d → nkOf d = some k → RelV v u → NestedIs s.heap k u
  | _, _, _, _, .non, e, r => by
    cases e
    obtain rfl : _ = Value.none := r
    exact .none
  | _, _, _, _, .bl b, e, r => by
    cases e
    obtain rfl : _ = Value.bool b := r
    exact .bool rfl
  | _, _, _, _, .int i, e, r => by
    cases e
    obtain ⟨t, rfl⟩ := r
    exact .int i t
  | _, _, _, _, .str x h, e, r => by
    cases e
    obtain ⟨t, rfl⟩ := r
    exact .text x t
  | _, _, _, _, .lst _ _, e, _ => by cases e
  | _, _, _, _, .dK _ _, e, _ => by cases e
  | _, _, _, _, .dT _ _, e, _ => by cases e
  | _, _, _, _, .tup a b, e, r => by
    rw [nkOf, Option.map_eq_some_iff] at e
    obtain ⟨ks, e, rfl⟩ := e
    obtain rfl : _ = Value.ref _ := r
    obtain ⟨_, its, rv, o, h1, h2, n, h3⟩ := (show ObjOk X.prog X.w H s.heap _ (.tup _) from I.hok _ _ (a.tup rfl))
    exact .tup h1 h2 h3 (by
      have := RpL.nested I b e rv
      simpa using this)
theorem RpL.nested (I : Inv X pins σ H s) : ∀ {v : List V} {d : List PyData} {u : List Value} {ks : List NestedKey}, RpL X.KW H v d → nksOf d = some ks → Vals v u → NestedAll s.heap ks u
  | _, _, _, _, .nil, e, r => by
    cases e
    cases r
    exact .nil
  | _, _, _, _, .cons a b, e, r => by
    rw [nksOf, Option.bind_eq_some_iff] at e
    obtain ⟨k, e1, e⟩ := e
    rw [Option.map_eq_some_iff] at e
    obtain ⟨ks, e2, rfl⟩ := e
    cases r with
    | cons r1 r2 => exact .cons (Rp.nested I a e1 r1) (RpL.nested I b e2 r2)
end
theorem nk_at (I : Inv X pins σ H s) {b : Addr} {kd : PyData} {k : NestedKey} (r : Rp X.KW H (.ref b) kd) (h : nkT kd = some k) : (nestedKind X.prog X.w).is s.heap k b :=
  ⟨Rp.nested I r (nkT_some h).1 rfl, (nkT_some h).2.1⟩
/-- the object's place stands in it -/
theorem dn_addr {P : Program} {w w' : World} {h : Heap} {p a : Addr} {kvs : List NRow} (ok : ObjOk P w H h p (HN w' a kvs)) : a = p := by
  obtain ⟨φ, _, st⟩ := ok
  refine Classical.byContradiction fun hne => ?_
  obtain ⟨_, _, xs, _, o, es, ep, h1, _⟩ := st h ⟨h.objs.setIfInBounds a { cls := .none, data := .freed }, h.life⟩ φ fun o ho => by
    unfold Heap.get? at ho ⊢
    rw [Array.getElem?_setIfInBounds_ne hne]
    exact ho
  unfold Heap.get? at h1
  by_cases hb : a < h.objs.size
  · rw [Array.getElem?_setIfInBounds_self_of_lt hb] at h1
    cases h1
  · rw [Array.getElem?_eq_none (by rw [Array.size_setIfInBounds]; exact Nat.not_lt.mp hb)] at h1
    cases h1
theorem n_at (I : Inv X pins σ H s) {a a' : Addr} {kvs : List NRow} (g : Rd H a (HN X.w a' kvs)) (ki : KeysIn X.KW H kvs) :
    a' = a ∧ kvs.length ≤ sizeLine ∧ (a == sysModules) = false ∧ ∃ xs, KN kvs xs ∧ s.heap.DictOfH (nestedKind X.prog X.w) a xs := by
  have ok : ObjOk X.prog X.w H s.heap a (HN X.w a' kvs) := rd_of I.hok g
  obtain rfl := dn_addr ok
  obtain ⟨⟨z, y, xs, r, o, es, ep, h1, h2, h3, h4, h5⟩, _⟩ := ok
  refine ⟨rfl, z, y, xs, r, o, es, ep, h1, h2, h3, h4, ?_, h5⟩
  have all : ∀ {l : List NRow} {m : List (NestedKey × Addr × Value)}, KN l m → (∀ r ∈ l, ∃ kd, nkT kd = some r.1 ∧ Rp X.KW H (.ref r.2.1) kd) → ∀ x ∈ m, (nestedKind X.prog X.w).is s.heap x.1 x.2.1 := by
    intro l m q
    induction q with
    | nil => intro _ x hx; exact nomatch hx
    | @cons p q ps qs hq t ih =>
      intro hk x hx
      rcases List.mem_cons.mp hx with e | hx
      · subst e
        obtain ⟨kd, e1, e2⟩ := hk p (by simp)
        rw [← hq.1, ← hq.2.1]
        exact nk_at I e2 e1
      · exact ih (fun r hr => hk r (by simp [hr])) x hx
  exact all r ki
/-- what the dict at a holds at the key y -/
def NGet (K : FW) (H : Hp) (a : Addr) (y : V) (o : Option V) : Prop := ∃ (a' : Addr) (kvs : List NRow) (b : Addr) (kd : PyData) (k : NestedKey), y = .ref b ∧ Rd H a (HN K.w a' kvs) ∧ KeysIn K H kvs ∧ Rp K H (.ref b) kd ∧ nkT kd = some k ∧ o = valN kvs k
variable {a : Addr} {y v : V} {u r : Value} {o : Option V} {A : Around} {E : Value → Shared → Prop}
theorem n_room {A : Around} (hu : A.units + 20 < cLine) : (nestedKind X.prog X.w).room A.in1 := by
  show A.in1.units + 8 < cLine
  simp only [Around.in1_units]
  omega
theorem n_getItem {Q : Value → Shared → Prop} (hu : A.units + 20 < cLine) (I : Inv X pins σ H s) (g : NGet X.KW H a y (some v)) (ry : RelV y u) (h : ∀ w' s', Inv X pins σ H s' → RelV v w' → Q w' s') :
    wpAny (model X.prog X.w) A (getItem (.ref a) u) Q E s := by
  obtain ⟨a', kvs, b, kd, k, rfl, e, ki, rb, ek, l⟩ := g
  cases (show u = Value.ref b from ry)
  obtain ⟨_, z, hd, xs, rel, dd⟩ := n_at I e ki
  obtain ⟨w', hw, rw'⟩ := RelO.some_of (v := v) (o := (atKey xs k).map (·.2)) (by rw [l]; exact rel.val k)
  obtain ⟨p, hp, hp2⟩ := Option.map_eq_some_iff.mp hw
  refine wpAny_getItem_heap (n_room hu) (nk_at I rb ek) dd hp ?_
  rw [hp2]
  exact h w' _ (I.tok _) rw'
theorem n_in {Q : Value → Shared → Prop} (hu : A.units + 20 < cLine) (I : Inv X pins σ H s) (g : NGet X.KW H a y o) (ry : RelV y u) (h : ∀ s', Inv X pins σ H s' → Q (.bool o.isSome) s') :
    wpAny (model X.prog X.w) A (compareOp .In u (.ref a)) Q E s := by
  obtain ⟨a', kvs, b, kd, k, rfl, e, ki, rb, ek, l⟩ := g
  cases (show u = Value.ref b from ry)
  obtain ⟨_, z, hd, xs, rel, dd⟩ := n_at I e ki
  refine wpAny_in_heap (n_room hu) (nk_at I rb ek) hd dd ?_
  have q := (rel.val k).isSome_eq
  rw [Option.isSome_map] at q
  rw [← q, ← l]
  exact h _ (I.tok _)
theorem n_notIn {Q : Value → Shared → Prop} (hu : A.units + 20 < cLine) (I : Inv X pins σ H s) (g : NGet X.KW H a y o) (ry : RelV y u) (h : ∀ s', Inv X pins σ H s' → Q (.bool (!o.isSome)) s') :
    wpAny (model X.prog X.w) A (compareOp .NotIn u (.ref a)) Q E s := by
  obtain ⟨a', kvs, b, kd, k, rfl, e, ki, rb, ek, l⟩ := g
  cases (show u = Value.ref b from ry)
  obtain ⟨_, z, hd, xs, rel, dd⟩ := n_at I e ki
  refine wpAny_notIn_heap (n_room hu) (nk_at I rb ek) hd dd ?_
  have q := (rel.val k).isSome_eq
  rw [Option.isSome_map] at q
  rw [← q, ← l]
  exact h _ (I.tok _)
theorem n_get1 {Q : Value → Shared → Prop} (hu : A.units + 20 < cLine) (I : Inv X pins σ H s) (g : NGet X.KW H a y o) (ry : RelV y u) (h : ∀ w' s', Inv X pins σ H s' → RelV (o.getD .non) w' → Q w' s') :
    wpAny (model X.prog X.w) A (call (.builtin "dict.get") [.ref a, u]) Q E s := by
  obtain ⟨a', kvs, b, kd, k, rfl, e, ki, rb, ek, l⟩ := g
  cases (show u = Value.ref b from ry)
  obtain ⟨_, z, hd, xs, rel, dd⟩ := n_at I e ki
  refine call_meetsIn PySem.F.slot_dict_get dd.typeIs PySem.F.entry_dict_get (PySem.F.args_dict_get_2 _ _) (meetsH_dict_get (nestedKind X.prog X.w) a b hd) ⟨n_room hu, k, xs, nk_at I rb ek, dd, h _ _ (I.tok _) ?_⟩
  rw [l]
  exact (rel.val k).getD rfl
/-- the object after a[y] = v is a dict of the new rows -/
theorem dn_new {P : Program} {w : World} {H' : Hp} {h' : Heap} {kvs : List NRow} {xs : List (NestedKey × Addr × Value)} (z : kvs.length ≤ sizeLine) (hd : (a == sysModules) = false) (rel : KN kvs xs) (dd : h'.DictOfH (nestedKind P w) a xs) :
    ObjOk P w H' h' a (HN w a kvs) := by
  obtain ⟨q, es, ep, hq, h2, h3, h4, _, h5⟩ := dd
  refine ⟨⟨z, hd, xs, rel, q, es, ep, hq, h2, h3, h4, h5⟩, ⟨q, hq⟩, fun h1 h2' φ k => ?_⟩
  obtain ⟨z, hd, xs, rel, o, es, ep, g1, g2⟩ := φ
  exact ⟨z, hd, xs, rel, o, es, ep, k _ g1, g2⟩
theorem n_setItem {kvs : List NRow} {a' b : Addr} {kd : PyData} {k : NestedKey} {Q : Unit → Shared → Prop} (hu : A.units + 20 < cLine) (I : Inv X pins σ H s) (e : H a = some (HN X.w a' kvs)) (ki : KeysIn X.KW H kvs) (rb : Rp X.KW H (.ref b) kd) (ek : nkT kd = some k)
    (hl : kvs.length < sizeLine) (rv : RelV v r) (h : ∀ s', Inv X pins σ (upd H a (HN X.w a (putN kvs k b v))) s' → Q () s') :
    wpAny (model X.prog X.w) A (setItem (.ref a) (.ref b) r) Q E s := by
  obtain ⟨_, z, hd, xs, rel, dd⟩ := n_at I (.inl e) ki
  have hz : xs.length ≤ sizeLine := by rw [← Paired.length rel]; exact z
  have hl2 : (putN kvs k b v).length ≤ sizeLine := by have := putN_len kvs k b v; omega
  refine wpAny_setItem_heap (hsz := hz) (n_room hu) (nk_at I rb ek) dd fun h' dd' hs => h _ ?_
  have he : ∃ q, h'.get? a = some q := let ⟨q, _, _, hq, _⟩ := dd'; ⟨q, hq⟩
  exact d_write I (by rw [e]; exact True.intro) hs he (dn_new hl2 hd (rel.put k rv) dd')
end
end PX

namespace PX
open PySem PySem.Spec PyProof.Rows L2

/-! ### dicts as rows of pairs -/
def dget (es : List (PyData × PyData)) (k : PyData) : Option PyData := (es.find? fun e => PyData.eqv e.1 k).map (·.2)
def dput (es : List (PyData × PyData)) (k v : PyData) : List (PyData × PyData) :=
  if (es.any fun e => PyData.eqv e.1 k) = true then es.map fun e => if PyData.eqv e.1 k = true then (e.1, v) else e else es ++ [(k, v)]
def keyOf : PyData → Option Key
  | .int i => some (.inl i)
  | .str s => some (.inr s)
  | _ => none
def keysOf : List PyData → Option (List Key)
  | [] => some []
  | d :: ds => (keyOf d).bind fun k => (keysOf ds).map (k :: ·)
/-- the key's own datum, where the dict can have it -/
def keyFit (es : List (PyData × PyData)) (k : PyData) : Bool :=
  if isT es then (nkT k).isSome else (keyOf k).isSome
/-- the entries proper -/
def ents (es : List (PyData × PyData)) : List (PyData × PyData) := if isT es then es.drop 1 else es
theorem keyOf_eq {d : PyData} {k : Key} (h : keyOf d = some k) : d = keyD k := by
  cases d <;> simp only [keyOf, reduceCtorEq, Option.some.injEq] at h <;> subst h <;> rfl
theorem keysOf_eq : ∀ {ds : List PyData} {ks : List Key}, keysOf ds = some ks → ds = ks.map keyD
  | [], _, h => by cases h; rfl
  | d :: ds, ks, h => by
    rw [keysOf, Option.bind_eq_some_iff] at h
    obtain ⟨k, h1, h2⟩ := h
    rw [Option.map_eq_some_iff] at h2
    obtain ⟨r, h2, rfl⟩ := h2
    rw [keyOf_eq h1, keysOf_eq h2]
    rfl
theorem eqv_key (k j : Key) : PyData.eqv (keyD k) (keyD j) = decide (k = j) := by
  cases k <;> cases j <;> simp [keyD, PyData.eqv, Bool.beq_eq_decide_eq]
theorem eqv_keysL : ∀ ks js : List Key, PyData.eqvAll (ks.map keyD) (js.map keyD) = decide (ks = js)
  | [], [] => by simp [PyData.eqvAll]
  | [], _ :: _ => by simp [PyData.eqvAll]
  | _ :: _, [] => by simp [PyData.eqvAll]
  | k :: ks, j :: js => by
    simp only [List.map_cons, PyData.eqvAll, eqv_key, eqv_keysL ks js]
    by_cases h1 : k = j <;> by_cases h2 : ks = js <;> simp [h1, h2]
theorem eqv_keys (ks js : List Key) : PyData.eqv (keyTD ks) (keyTD js) = decide (ks = js) := by
  unfold keyTD
  simp only [PyData.eqv]
  exact eqv_keysL ks js
theorem RpL.of_keys {K : FW} {G : Hp} : ∀ {v : List V} {ks : List Key}, RpL K G v (ks.map keyD) → v = ks.map kV ∧ ks.all keyOk = true
  | _, [], h => by cases h; exact ⟨rfl, rfl⟩
  | _, k :: ks, h => by
    rw [List.map_cons] at h
    cases h with
    | cons a b =>
      obtain ⟨e, o⟩ := RpL.of_keys b
      subst e
      cases k with
      | inl i => cases a; exact ⟨rfl, by rw [List.all_cons, o]; rfl⟩
      | inr s => cases a with | str _ h => exact ⟨rfl, by rw [List.all_cons, o, Bool.and_true]; exact h⟩
def OptR (K : FW) (G : Hp) : Option V → Option PyData → Prop
  | some v, some d => Rp K G v d
  | none, none => True
  | _, _ => False
section
variable {K : FW} {G : Hp}
theorem RpD.get (j : Key) : ∀ {kvs : List (Key × V)} {es : List (PyData × PyData)}, RpD K G kvs es → OptR K G (valV kvs j) (dget es (keyD j))
  | _, _, .nil => trivial
  | _, _, @RpD.cons _ _ k v vs d ds o a b => by
    unfold dget valV
    rw [List.find?_cons, List.find?_cons, eqv_key]
    by_cases h : k = j
    · rw [decide_eq_true h]; exact a
    · rw [decide_eq_false h]; exact RpD.get j b
theorem RpT.get {j : NestedKey} {kj : PyData} (hj : nkT kj = some j) : ∀ {kvs : List NRow} {es : List (PyData × PyData)}, RpT K G kvs es → OptR K G (valN kvs j) (dget es kj)
  | _, _, .nil => trivial
  | _, _, @RpT.cons _ _ k b v vs kd d ds o c a r => by
    unfold dget valN
    rw [List.find?_cons, List.find?_cons, eqv_nkT o hj]
    by_cases h : k = j
    · rw [decide_eq_true h]; exact a
    · rw [decide_eq_false h]; exact RpT.get hj r
theorem RpT.keysIn : ∀ {kvs : List NRow} {es : List (PyData × PyData)}, RpT K G kvs es → KeysIn K G kvs
  | _, _, .nil => fun _ h => by cases h
  | _, _, @RpT.cons _ _ k b v vs kd d ds o c a r => fun q hq => by
    rcases List.mem_cons.mp hq with rfl | hq
    · exact ⟨kd, o, c⟩
    · exact RpT.keysIn r q hq
theorem RpD.any (j : Key) : ∀ {kvs : List (Key × V)} {es : List (PyData × PyData)}, RpD K G kvs es → (kvs.any fun kv => decide (kv.1 = j)) = es.any fun e => PyData.eqv e.1 (keyD j)
  | _, _, .nil => rfl
  | _, _, @RpD.cons _ _ k v vs d ds o a b => by
    rw [List.any_cons, List.any_cons, eqv_key, RpD.any j b]
theorem RpD.repl {j : Key} {x : V} {d' : PyData} (rx : Rp K G x d') : ∀ {kvs : List (Key × V)} {es : List (PyData × PyData)}, RpD K G kvs es →
    RpD K G (kvs.map fun kv => if kv.1 = j then (kv.1, x) else kv) (es.map fun e => if PyData.eqv e.1 (keyD j) = true then (e.1, d') else e)
  | _, _, .nil => .nil
  | _, _, @RpD.cons _ _ k v vs d ds o a b => by
    rw [List.map_cons, List.map_cons, eqv_key]
    by_cases h : k = j
    · rw [if_pos h, decide_eq_true h, if_pos rfl]; exact .cons o rx (RpD.repl rx b)
    · rw [if_neg h, decide_eq_false h, if_neg Bool.false_ne_true]; exact .cons o a (RpD.repl rx b)
theorem RpD.app : ∀ {k1 k2 : List (Key × V)} {e1 e2 : List (PyData × PyData)}, RpD K G k1 e1 → RpD K G k2 e2 → RpD K G (k1 ++ k2) (e1 ++ e2)
  | _, _, _, _, .nil, h => h
  | _, _, _, _, .cons o a b, h => .cons o a (RpD.app b h)
theorem RpD.put {j : Key} {x : V} {d' : PyData} (ok : keyOk j = true) (rx : Rp K G x d') {kvs : List (Key × V)} {es : List (PyData × PyData)} (h : RpD K G kvs es) : RpD K G (putK kvs j x) (dput es (keyD j) d') := by
  unfold putK dput
  rw [h.any j]
  split
  · exact h.repl rx
  · exact h.app (.cons ok rx .nil)
theorem RpT.any {j : NestedKey} {kj : PyData} (hj : nkT kj = some j) : ∀ {kvs : List NRow} {es : List (PyData × PyData)}, RpT K G kvs es → (kvs.any fun kv => decide (kv.1 = j)) = es.any fun e => PyData.eqv e.1 kj
  | _, _, .nil => rfl
  | _, _, @RpT.cons _ _ k b v vs kd d ds o c a r => by
    rw [List.any_cons, List.any_cons, eqv_nkT o hj, RpT.any hj r]
theorem RpT.repl {j : NestedKey} {kj : PyData} (hj : nkT kj = some j) {x : V} {d' : PyData} (rx : Rp K G x d') : ∀ {kvs : List NRow} {es : List (PyData × PyData)}, RpT K G kvs es →
    RpT K G (kvs.map fun kv => if kv.1 = j then (kv.1, kv.2.1, x) else kv) (es.map fun e => if PyData.eqv e.1 kj = true then (e.1, d') else e)
  | _, _, .nil => .nil
  | _, _, @RpT.cons _ _ k b v vs kd d ds o c a r => by
    rw [List.map_cons, List.map_cons, eqv_nkT o hj]
    by_cases h : k = j
    · rw [if_pos h, decide_eq_true h, if_pos rfl]; exact .cons o c rx (RpT.repl hj rx r)
    · rw [if_neg h, decide_eq_false h, if_neg Bool.false_ne_true]; exact .cons o c a (RpT.repl hj rx r)
theorem RpT.app : ∀ {k1 k2 : List NRow} {e1 e2 : List (PyData × PyData)}, RpT K G k1 e1 → RpT K G k2 e2 → RpT K G (k1 ++ k2) (e1 ++ e2)
  | _, _, _, _, .nil, h => h
  | _, _, _, _, .cons o c a b, h => .cons o c a (RpT.app b h)
theorem RpT.put {j : NestedKey} {kj : PyData} (hj : nkT kj = some j) {b : Addr} {x : V} {d' : PyData} (rb : Rp K G (.ref b) kj) (rx : Rp K G x d') {kvs : List NRow} {es : List (PyData × PyData)} (h : RpT K G kvs es) : RpT K G (putN kvs j b x) (dput es kj d') := by
  unfold putN dput
  rw [h.any hj]
  split
  · exact h.repl hj rx
  · exact h.app (.cons hj rb rx .nil)
end

section
variable {X : Cx} {K : FW} {B Gb G H : Hp} {σ : L2.St} {env : SEnv} {W : List Int} {v x y : V} {k k1 k2 : Kd}
theorem RpT.isT {kvs : List NRow} {es : List (PyData × PyData)} (_ : RpT K G kvs es) : PX.isT ((.none, .none) :: es) = true := rfl
/-- what a dict holds at a key -/
theorem dget_of {es : List (PyData × PyData)} {kd : PyData} (S : Sta K B Gb G H σ env W) (hx : VOk K B G H σ env x (.dict es) k1) (hy : VOk K B G H σ env y kd k2) (hf : keyFit es kd = true) (ht' : PX.isT es = false) :
    ∃ a o, x = .ref a ∧ DGet H a y o ∧ OptR K G o (dget (ents es) kd) := by
  unfold keyFit at hf
  rw [if_neg (by rw [ht']; exact Bool.false_ne_true)] at hf
  obtain ⟨a, kvs, rfl, h1, h2⟩ := hx.dictD S ht'
  obtain ⟨j, hj⟩ := Option.isSome_iff_exists.mp hf
  have e := keyOf_eq hj
  subst e
  have hy' : y = kV j := by
    cases j with
    | inl i => exact hy.int S
    | inr s => exact hy.str S
  refine ⟨a, _, rfl, .inl ⟨kvs, j, h1, hy', rfl⟩, ?_⟩
  have : ents es = es := by simp [ents, ht']
  rw [this]
  exact h2.get j
theorem nget_of {es : List (PyData × PyData)} {kd : PyData} (S : Sta K B Gb G H σ env W) (hx : VOk K B G H σ env x (.dict es) k1) (hy : VOk K B G H σ env y kd k2) (hf : keyFit es kd = true) (ht : PX.isT es = true) :
    ∃ a o, x = .ref a ∧ NGet K H a y o ∧ OptR K G o (dget (ents es) kd) := by
  unfold keyFit at hf
  rw [if_pos ht] at hf
  obtain ⟨a, a', kvs, fs, rfl, rfl, h1, h2⟩ := hx.dictT S ht
  obtain ⟨j, hj⟩ := Option.isSome_iff_exists.mp hf
  obtain ⟨_, _, ds, rfl⟩ := nkT_some hj
  have ry := hy.rp S
  obtain ⟨b, xs, rfl, _⟩ := hy.tuple S
  have : ents ((PyData.none, PyData.none) :: fs) = fs := by simp [ents, PX.isT]
  rw [this]
  exact ⟨a, _, rfl, ⟨a', kvs, b, _, j, rfl, h1, fun r hr => (h2.keysIn r hr).elim fun d z => ⟨d, z.1, Rp.mono (Sub.of S.sg) z.2⟩, ry, hj, rfl⟩, h2.get hj⟩
theorem dgn_of {es : List (PyData × PyData)} {kd : PyData} (S : Sta K B Gb G H σ env W) (hx : VOk K B G H σ env x (.dict es) k1) (hy : VOk K B G H σ env y kd k2) (hf : keyFit es kd = true) :
    ∃ a o, x = .ref a ∧ (DGet H a y o ∨ NGet K H a y o) ∧ OptR K G o (dget (ents es) kd) := by
  by_cases ht : PX.isT es = true
  · obtain ⟨a, o, e, g, r⟩ := nget_of S hx hy hf ht
    exact ⟨a, o, e, .inr g, r⟩
  · obtain ⟨a, o, e, g, r⟩ := dget_of S hx hy hf (by simpa using ht)
    exact ⟨a, o, e, .inl g, r⟩
theorem OptR.isSome {o : Option V} {p : Option PyData} (h : OptR K G o p) : o.isSome = p.isSome := by
  cases o <;> cases p <;> first | rfl | exact h.elim

/-! ### in, not in -/
def oIn : Op
  | [(x, _), (.list ds, _)] => if flat x && ds.all flat then some (.bool (ds.any fun z => PyData.eqv z x), .im) else none
  | [(x, _), (.tuple ds, _)] => if flat x && ds.all flat then some (.bool (ds.any fun z => PyData.eqv z x), .im) else none
  | [(x, _), (.dict es, _)] => if keyFit es x then some (.bool (dget (ents es) x).isSome, .im) else none
  | _ => none
def oNotIn : Op
  | [(x, _), (.list ds, _)] => if flat x && ds.all flat then some (.bool (!ds.any fun z => PyData.eqv z x), .im) else none
  | [(x, _), (.tuple ds, _)] => if flat x && ds.all flat then some (.bool (!ds.any fun z => PyData.eqv z x), .im) else none
  | [(x, _), (.dict es, _)] => if keyFit es x then some (.bool (!(dget (ents es) x).isSome), .im) else none
  | _ => none
theorem so_in (hu : X.A.units + 200 < cLine) : OpR X (compareOp .In) (fun x y => rV X.KW oIn [x, y]) := by
  intro pins s σ H x y v u Q I rx ry h
  obtain ⟨B, Gb, G, σ1, env, W, d1, k1, d2, k2, d, k, S, h1, h2, ap, e, c⟩ := rV.two h
  unfold oIn at e
  split at e
  · rename_i q
    cases q
    split at e
    · rename_i f
      cases e
      rw [Bool.and_eq_true] at f
      obtain ⟨⟨as, r1⟩, l1⟩ := (h1.rp S).reads I (flat_noD f.1) rx
      have h2' := h2.rp S
      obtain ⟨⟨bs, r2⟩, l2⟩ := h2'.reads I (by simpa only [noD] using flat_all f.2) ry
      exact SeqAt.in_list_reads r2 r1 (by simpa only [PyData.canLay0] using l2) l1 (by have := flat_depth f.1; omega) ⟨.bl _, H, I, rfl, c.bool S⟩
    · cases e
  · rename_i q
    cases q
    split at e
    · rename_i f
      cases e
      rw [Bool.and_eq_true] at f
      obtain ⟨⟨as, r1⟩, l1⟩ := (h1.rp S).reads I (flat_noD f.1) rx
      have h2' := h2.rp S
      obtain ⟨⟨bs, r2⟩, l2⟩ := h2'.reads I (by simpa only [noD] using flat_all f.2) ry
      exact SeqAt.in_tuple_reads r2 r1 (by simpa only [PyData.canLay0] using l2) l1 (by have := flat_depth f.1; omega) ⟨.bl _, H, I, rfl, c.bool S⟩
    · cases e
  · rename_i q
    cases q
    split at e
    · rename_i f
      cases e
      obtain ⟨a, o, rfl, g, r⟩ := dgn_of S h2 h1 f
      cases ry
      rcases g with g | g
      · exact d_in (by omega) I g rx fun s' I' => ⟨.bl o.isSome, H, I', rfl, by rw [r.isSome]; exact c.bool S⟩
      · exact n_in (by omega) I g rx fun s' I' => ⟨.bl o.isSome, H, I', rfl, by rw [r.isSome]; exact c.bool S⟩
    · cases e
  · cases e
theorem so_notIn (hu : X.A.units + 200 < cLine) : OpR X (compareOp .NotIn) (fun x y => rV X.KW oNotIn [x, y]) := by
  intro pins s σ H x y v u Q I rx ry h
  obtain ⟨B, Gb, G, σ1, env, W, d1, k1, d2, k2, d, k, S, h1, h2, ap, e, c⟩ := rV.two h
  unfold oNotIn at e
  split at e
  · rename_i q
    cases q
    split at e
    · rename_i f
      cases e
      rw [Bool.and_eq_true] at f
      obtain ⟨⟨as, r1⟩, l1⟩ := (h1.rp S).reads I (flat_noD f.1) rx
      have h2' := h2.rp S
      obtain ⟨⟨bs, r2⟩, l2⟩ := h2'.reads I (by simpa only [noD] using flat_all f.2) ry
      exact SeqAt.notIn_list_reads r2 r1 (by simpa only [PyData.canLay0] using l2) l1 (by have := flat_depth f.1; omega) ⟨.bl _, H, I, rfl, c.bool S⟩
    · cases e
  · rename_i q
    cases q
    split at e
    · rename_i f
      cases e
      rw [Bool.and_eq_true] at f
      obtain ⟨⟨as, r1⟩, l1⟩ := (h1.rp S).reads I (flat_noD f.1) rx
      have h2' := h2.rp S
      obtain ⟨⟨bs, r2⟩, l2⟩ := h2'.reads I (by simpa only [noD] using flat_all f.2) ry
      exact SeqAt.notIn_tuple_reads r2 r1 (by simpa only [PyData.canLay0] using l2) l1 (by have := flat_depth f.1; omega) ⟨.bl _, H, I, rfl, c.bool S⟩
    · cases e
  · rename_i q
    cases q
    split at e
    · rename_i f
      cases e
      obtain ⟨a, o, rfl, g, r⟩ := dgn_of S h2 h1 f
      cases ry
      rcases g with g | g
      · exact d_notIn (by omega) I g rx fun s' I' => ⟨.bl (!o.isSome), H, I', rfl, by rw [r.isSome]; exact c.bool S⟩
      · exact n_notIn (by omega) I g rx fun s' I' => ⟨.bl (!o.isSome), H, I', rfl, by rw [r.isSome]; exact c.bool S⟩
    · cases e
  · cases e
end
end PX

namespace PX
open PySem PySem.Spec PyProof.Rows L2

/-! ### a tuple from behind -/
section
variable {prog : Program} {w : World} {A : Around} {E : Value → Shared → Prop} {s : Shared}
theorem sliceApplied_back {sl : Addr} {vl vu vs : Value} {n : Nat} {Q : Int × Int × Nat → Shared → Prop} (hs : s.heap.IsSliceOf sl vl vu vs) (pl : IsPart vl none) (pu : IsPart vu none) (ps : IsPart vs (some (-1)))
    (h : Q ((n : Int) - 1, -1, n) s) : wpAny (model prog w) A (Builtin.Slice.sliceApplied (.ref sl) (pure (n : Int))) Q E s := by
  obtain ⟨os, hos, hcs, hds⟩ := id hs
  unfold Builtin.Slice.sliceApplied Builtin.Slice.sliceFields
  refine wpAny_bind (wpAny_bind (wpAny_field hos hds (x := vl) rfl (wpAny_bind (wpAny_field hos hds (x := vu) rfl (wpAny_bind (wpAny_field hos hds (x := vs) rfl (wpAny_pure ?_)))))))
  refine wpAny_bind (HT.slicePart_ ps ?_)
  show wpAny _ _ (if ((-1 : Int) == 0) = true then _ else _) _ _ s
  rw [if_neg (by decide)]
  refine wpAny_bind (HT.slicePart_ pl (wpAny_bind (HT.slicePart_ pu (wpAny_bind (wpAny_pure ?_)))))
  have e1 : Builtin.Slice.sliceAdjust none none (-1) (n : Int) = ((n : Int) - 1, -1) := by
    unfold Builtin.Slice.sliceAdjust
    simp
  have e2 : Builtin.Slice.slicePlaces ((n : Int) - 1) (-1) (-1) = n := by
    unfold Builtin.Slice.slicePlaces
    simp only [show ¬ ((-1 : Int) > 0) by decide, if_false, Int.neg_neg, Int.ediv_one]
    split <;> omega
  show wpAny _ _ (match Builtin.Slice.sliceAdjust none none (-1) (n : Int) with | (lo, hi) => pure (lo, (-1 : Int), Builtin.Slice.slicePlaces lo hi (-1))) _ _ s
  rw [e1]
  show wpAny _ _ (pure ((n : Int) - 1, (-1 : Int), Builtin.Slice.slicePlaces ((n : Int) - 1) (-1) (-1))) _ _ s
  rw [e2]
  exact wpAny_pure h
theorem fm_congr {α β : Type} {f g : α → Option β} : ∀ {l : List α}, (∀ a ∈ l, f a = g a) → l.filterMap f = l.filterMap g
  | [], _ => rfl
  | a :: l, h => by
    rw [List.filterMap_cons, List.filterMap_cons, h a List.mem_cons_self, fm_congr fun b hb => h b (List.mem_cons_of_mem _ hb)]
theorem pick_back (xs : Array Value) : ((List.range xs.size).filterMap fun (m : Nat) => xs[((xs.size : Int) - 1 + (m : Int) * (-1)).toNat]?) = xs.toList.reverse := by
  have e : ∀ m ∈ List.range xs.size, xs[((xs.size : Int) - 1 + (m : Int) * (-1)).toNat]? = xs[xs.size - 1 - m]? := fun m hm => by
    have : m < xs.size := List.mem_range.mp hm
    have : ((xs.size : Int) - 1 + (m : Int) * (-1)).toNat = xs.size - 1 - m := by omega
    rw [this]
  rw [fm_congr e]
  have h := PySem.W.krv_range xs.size
  have h2 : ((List.range xs.size).map fun k => xs.size - 1 - k).filterMap (fun m => xs[m]?) = xs.toList.reverse := by
    rw [h, List.filterMap_reverse, PySem.W.krv_all]
  rw [List.filterMap_map] at h2
  exact h2
theorem getItem_tuple_back {t sl : Addr} {items : Array Value} {vl vu vs : Value} {Q : Value → Shared → Prop} (ht : IsTup s.heap t items) (hs : s.heap.IsSliceOf sl vl vu vs) (pl : IsPart vl none) (pu : IsPart vu none) (ps : IsPart vs (some (-1)))
    (h : Q (.ref s.heap.objs.size) { s with heap := s.heap.push { cls := .type "tuple", data := .seq items.toList.reverse.toArray } }) (hsz : items.size ≤ sizeLine) : wpAny (model prog w) A (getItem (.ref t) (.ref sl)) Q E s := by
  obtain ⟨os, hos, hcs, hds⟩ := id hs
  have hTs : s.TypeIs (.ref sl) "slice" := ⟨os, hos, hcs⟩
  have hok : sizeOk (.seq items.toList.reverse.toArray) := by
    show items.toList.reverse.toArray.size ≤ sizeLine
    simpa using hsz
  unfold getItem
  try with_reducible refine wpAny_holding ?_
  first | refine wpAny_bind (wpAny_pure ?_) | skip
  refine wpAny_bind (wpAny_sequenceKey ht.typeIs (by decide) ?_)
  refine wpAny_bind (wpAny_callSpecial?_slot (name := Str.ofString "__getitem__") ht.typeIs PyProof.Rows.slot_tuple_getitem
    (wpAny_call_entry PyProof.Rows.slot_tuple_getitem ht.typeIs PyProof.Rows.entry_tuple_getitem ?_ (PyProof.Rows.args_tuple_getitem _ _)))
  show wpAny _ _ (Builtin.Tuple.tupleItemsOf (.ref t) >>= _) _ _ s
  refine wpAny_bind (tupleItemsOf_ ht ?_)
  refine wpAny_bind (wpAny_typeOf hTs ?_)
  rw [if_pos (by decide)]
  refine wpAny_bind (sliceApplied_back hs pl pu ps ?_)
  have hno : ¬ ((((items.size : Int) - 1) == 0 && (-1 : Int) == 1 && items.size == items.size) = true) := by
    rw [show ((-1 : Int) == 1) = false by decide, Bool.and_false, Bool.false_and]
    exact Bool.false_ne_true
  show wpAny _ _ (if (((items.size : Int) - 1) == 0 && (-1 : Int) == 1 && items.size == items.size) = true then _ else _) _ _ s
  rw [if_neg hno, pick_back]
  first
    | exact wpAny_bind (m := Builtin.Tuple.tupleExact _) (wpAny_newObj_type (wpAny_pure ⟨_, rfl, wpAny_pure h⟩) hok)
    | exact wpAny_bind (m := Builtin.Tuple.tupleExact _) (wpAny_newObj_type (wpAny_bind (wpAny_pure (wpAny_pure ⟨_, rfl, wpAny_pure h⟩))) hok)
    | exact wpAny_bind (wpAny_bind (m := Builtin.Tuple.tupleExact _) (wpAny_newObj_type (wpAny_pure (wpAny_pure ⟨_, rfl, wpAny_pure h⟩)) hok))
    | exact wpAny_bind (wpAny_bind (m := Builtin.Tuple.tupleExact _) (wpAny_newObj_type (wpAny_pure ⟨_, rfl, wpAny_pure h⟩) hok))
end
section
variable {X : Cx} {e : Expr} {te : TE} {k : Nat} {p1 p2 p3 pos : Pos}
def tBack (K : FW) (te : TE) : TE := fun σ H Q => te σ H fun x H1 => (∃ a xs, x = .ref a ∧ SqL K H1 a xs ∧ ∀ p, H1 p = none → Q (.ref p) (upd H1 p (.lst xs.reverse))) ∨
  ∃ a xs, x = .ref a ∧ SqT K H1 a xs ∧ ∀ p, H1 p = none → Q (.ref p) (upd H1 p (.tup xs.reverse))
theorem pe_back (he : PE X e te) : PE X (.Subscript e (.Slice none none (some (.UnaryOp .USub (.Constant (.int 1) k p1) p2)) p3) pos) (tBack X.KW te) := by
  refine ⟨fun pins s σ H Q I h => ?_⟩
  refine Subscript_ (thn (he.run pins s σ H _ I h) fun v s1 ⟨x, H1, I1, r1, q1⟩ => ?_)
  have hst : PO X (some (.UnaryOp .USub (.Constant (.int 1) k p1) p2)) (tPart (tUn (rU fun i => .int (-i)) (tC (.int 1)))) := po_some (pe_un un_neg pe_int)
  refine wpAny_Slice (thn (po_none.run pins s1 σ H1 (fun o H2 => o = none ∧ H2 = H1) I1 ⟨rfl, rfl⟩) fun vl s2 ⟨l, H2, I2, pl, el, e2⟩ => ?_)
  subst el e2
  refine thn (po_none.run pins s2 σ H2 (fun o H3 => o = none ∧ H3 = H2) I2 ⟨rfl, rfl⟩) fun vu s3 ⟨u, H3, I3, pu, eu, e3⟩ => ?_
  subst eu e3
  refine thn (hst.run pins s3 σ H3 (fun o H4 => o = some (-1) ∧ H4 = H3) I3 ⟨1, rfl, -1, rfl, rfl, rfl⟩) fun vs s4 ⟨o, H4, I4, ps, eo, e4⟩ => ?_
  subst eo e4
  have I5 : L2.Inv X pins σ H4 { s4 with heap := s4.heap.push { cls := .type "slice", data := .fields #[vl, vu, vs] } } := I4.kept (t' := s4.toks) fun b o q => Heap.get?_push_of_some _ q
  rcases q1 with ⟨a, xs, ex, hx, q⟩ | ⟨a, xs, ex, hx, q⟩
  · subst ex
    cases r1
    obtain ⟨its, r, ht, hz⟩ := I5.list hx
    have hlen := r.length
    show wpAny (model X.prog X.w) X.A (subscriptTail e (.Slice none none (some (.UnaryOp .USub (.Constant (.int 1) k p1) p2)) p3) (.ref a) (.ref s4.heap.objs.size)) (EP X pins σ Q) X.xe { s4 with heap := s4.heap.push { cls := .type "slice", data := .fields #[vl, vu, vs] } }
    refine tail_any (ops := [.ref a, .ref s4.heap.objs.size]) ht.isList.typeIs (PySem.slot_list_getitem.lookup) ?_ (by with_unfolding_all rfl)
    refine wpAny_getItem_list_slice ht.isList (Heap.IsSliceOf.new _ vl vu vs) pl pu ps (by decide) ?_ (by rw [List.size_toArray]; omega)
    rw [PySem.W.krv_pick]
    refine ⟨.ref _, _, I5.laid (t' := s4.toks) (o := .lst xs.reverse) (fun b o q => Heap.get?_push_of_some _ q) (Nat.le_refl _) ?_, rfl, q _ (I5.hok.fresh (Nat.le_refl _))⟩
    exact ⟨by rw [List.length_reverse]; exact hz, _, 0, r.reverse, Heap.get?_push_size _ rfl⟩
  · subst ex
    cases r1
    obtain ⟨its, r, ht, hz⟩ := I5.tuple hx
    have hlen := r.length
    show wpAny (model X.prog X.w) X.A (subscriptTail e (.Slice none none (some (.UnaryOp .USub (.Constant (.int 1) k p1) p2)) p3) (.ref a) (.ref s4.heap.objs.size)) (EP X pins σ Q) X.xe { s4 with heap := s4.heap.push { cls := .type "slice", data := .fields #[vl, vu, vs] } }
    refine tail_any (ops := [.ref a, .ref s4.heap.objs.size]) ht.typeIs (PyProof.Rows.slot_tuple_getitem.lookup) ?_ (by with_unfolding_all rfl)
    refine getItem_tuple_back ht (Heap.IsSliceOf.new _ vl vu vs) pl pu ps ?_ (by rw [List.size_toArray]; omega)
    refine ⟨.ref _, _, I5.laid (t' := s4.toks) (o := .tup xs.reverse) (fun b o q => Heap.get?_push_of_some _ q) (Nat.le_refl _) ?_, rfl, q _ (I5.hok.fresh (Nat.le_refl _))⟩
    exact ⟨by rw [List.length_reverse]; exact hz, its.reverse, r.reverse, IsTup.new _ _⟩
end
end PX

namespace PX
open PySem PySem.Spec PyProof.Rows L2

/-! ### expressions -/
def cCall (op : Op) (fs : List Ex) : Ex := fun env W => (cArgs fs env W).bind fun q => (op q.1).map fun r => (r.1, r.2, q.2)
def cVar (i : Nat) : Ex := fun env W => match env[i]? with
  | some (.pl d) => some (d, .im, W)
  | some (.ow d) => some (d, .pk i, W)
  | some (.lk _ _ d) => some (d, .pk i, W)
  | _ => none
def cK (d : PyData) : Ex := fun _ W => some (d, .im, W)
section
variable {op : Op} {f g h : Ex} {env : SEnv} {W W' : List Int} {d : PyData} {k : Kd}
theorem cCall_one (e : cCall op [f] env W = some (d, k, W')) : ∃ d1 k1, f env W = some (d1, k1, W') ∧ op [(d1, k1)] = some (d, k) := by
  unfold cCall at e
  rw [Option.bind_eq_some_iff] at e
  obtain ⟨⟨ds, W1⟩, e1, e2⟩ := e
  simp only [cArgs, Option.bind_eq_some_iff, Option.map_eq_some_iff] at e1 e2
  obtain ⟨⟨d1, k1, W2⟩, e3, q, e8, e5⟩ := e1
  cases e8
  cases e5
  obtain ⟨r, e6, e7⟩ := e2
  cases e7
  exact ⟨d1, k1, e3, e6⟩
theorem cCall_two (e : cCall op [f, g] env W = some (d, k, W')) : ∃ d1 k1 W1 d2 k2, f env W = some (d1, k1, W1) ∧ g env W1 = some (d2, k2, W') ∧ op [(d1, k1), (d2, k2)] = some (d, k) := by
  unfold cCall at e
  rw [Option.bind_eq_some_iff] at e
  obtain ⟨⟨ds, W1⟩, e1, e2⟩ := e
  simp only [cArgs, Option.bind_eq_some_iff, Option.map_eq_some_iff] at e1 e2
  obtain ⟨⟨d1, k1, W2⟩, e3, q, ⟨⟨d2, k2, W3⟩, e4, q2, e9, e8⟩, e5⟩ := e1
  cases e9
  cases e8
  cases e5
  obtain ⟨r, e6, e7⟩ := e2
  cases e7
  exact ⟨d1, k1, W2, d2, k2, e3, e4, e6⟩
theorem cCall_three (e : cCall op [f, g, h] env W = some (d, k, W')) : ∃ d1 k1 W1 d2 k2 W2 d3 k3, f env W = some (d1, k1, W1) ∧ g env W1 = some (d2, k2, W2) ∧ h env W2 = some (d3, k3, W') ∧ op [(d1, k1), (d2, k2), (d3, k3)] = some (d, k) := by
  unfold cCall at e
  rw [Option.bind_eq_some_iff] at e
  obtain ⟨⟨ds, W1⟩, e1, e2⟩ := e
  simp only [cArgs, Option.bind_eq_some_iff, Option.map_eq_some_iff] at e1 e2
  obtain ⟨⟨d1, k1, W2⟩, e3, q, ⟨⟨d2, k2, W3⟩, e4, q2, ⟨⟨d3, k3, W4⟩, e9, q3, e11, e10⟩, e8⟩, e5⟩ := e1
  cases e11
  cases e10
  cases e8
  cases e5
  obtain ⟨r, e6, e7⟩ := e2
  cases e7
  exact ⟨d1, k1, W2, d2, k2, W3, d3, k3, e3, e4, e9, e6⟩
end

section
variable {X : Cx} {a b c e : Expr} {es : List Expr} {f g h : Ex} {fs : List Ex} {op : Op} {pos : Pos} {x : Str} {p : Pos}
theorem px_var (i : Nat) {x : Str} {pos : Pos} (hN : X.N[i]? = some x := by rfl) (hv : Vis X.env.scope x := by first | exact Or.inl rfl | exact Or.inr (Or.inl rfl) | exact Or.inr (Or.inr rfl)) (hd : (x == ("__debug__" : Str)) = false := by decide)
    (hcd : (x == ("__classdict__" : Str)) = false := by decide) : PX X (.Name x pos) (cVar i) :=
  PE.imp (pe_var hN hv hd hcd) fun σ H Q q => by
    obtain ⟨B, Gb, G, env, W, d, k, W', S, e, c⟩ := q
    unfold cVar at e
    split at e
    · rename_i d' he
      cases e
      obtain ⟨v, h1, h2⟩ := S.pl i _ he
      exact ⟨v, h1, c v G H (Same.refl _) S h2⟩
    · rename_i d' he
      cases e
      obtain ⟨p, o, h1, _⟩ := S.ow i _ he
      exact ⟨_, h1, c _ G H (Same.refl _) S ⟨h1, .inl he⟩⟩
    · rename_i od o d' he
      cases e
      obtain ⟨p, h1, _⟩ := S.lk i _ _ _ he
      exact ⟨_, h1, c _ G H (Same.refl _) S ⟨h1, .inr ⟨_, _, he⟩⟩⟩
    · cases e
theorem px_c {v : V} {d : PyData} (h : PE X e (tC v)) (hr : ∀ G, Rp X.KW G v d) : PX X e (cK d) := PE.imp h fun σ H Q q => by
  obtain ⟨B, Gb, G, env, W, d, k, W', S, e, c⟩ := q
  cases e
  exact c v G H (Same.refl _) S (hr G)
theorem px_int {i : Int} {j : Nat} {pos : Pos} : PX X (.Constant (.int i) j pos) (cK (.int i)) := px_c pe_int fun _ => .int i
theorem px_bool {i : Bool} {j : Nat} {pos : Pos} : PX X (.Constant (.bool i) j pos) (cK (.bool i)) := px_c pe_bl fun _ => .bl i
theorem px_none {j : Nat} {pos : Pos} : PX X (.Constant .none j pos) (cK .none) := px_c pe_non fun _ => .non
theorem px_str {x : Str} {j : Nat} {pos : Pos} (h : PyData.strOk x = true := by decide +kernel) : PX X (.Constant (.str x) j pos) (cK (.str x)) := px_c pe_str fun _ => .str x h
theorem px_bin {o : Operator} (ho : OpR X (binaryOp o) (fun x y => rV X.KW op [x, y])) (ha : PX X a f) (hb : PX X b g) : PX X (.BinOp a o b pos) (cCall op [f, g]) :=
  PE.imp (pe_op ho ha hb) fun σ H Q q => by
    obtain ⟨B, Gb, G, env, W, d, k, W', S, e, c⟩ := q
    obtain ⟨d1, k1, W1, d2, k2, e1, e2, e3⟩ := cCall_two e
    refine ⟨B, Gb, G, env, W, d1, k1, W1, S, e1, fun v1 G1 H1 s1 S1 h1 => step2 S1 h1 e2 fun v2 G2 H2 s2 S2 h1' h2' ne => ?_⟩
    exact ⟨B, Gb, G2, σ, env, W', [(d1, k1), (d2, k2)], d, k, S2, ⟨h1', fun e q hq eq => by simp at hq; subst hq; exact ne e eq, h2', (fun _ q hq => by simp at hq), trivial⟩, e3, c.sub (s1.trans s2)⟩
theorem px_cmp {o : CmpOp} (ho : OpR X (compareOp o) (fun x y => rV X.KW op [x, y])) (ha : PX X a f) (hb : PX X b g) (hm : behindInMarks o b = false) : PX X (.Compare a [o] [b] pos) (cCall op [f, g]) :=
  PE.imp (pe_cmpR ho ha hb hm) fun σ H Q q => by
    obtain ⟨B, Gb, G, env, W, d, k, W', S, e, c⟩ := q
    obtain ⟨d1, k1, W1, d2, k2, e1, e2, e3⟩ := cCall_two e
    refine ⟨B, Gb, G, env, W, d1, k1, W1, S, e1, fun v1 G1 H1 s1 S1 h1 => step2 S1 h1 e2 fun v2 G2 H2 s2 S2 h1' h2' ne => ?_⟩
    exact ⟨B, Gb, G2, σ, env, W', [(d1, k1), (d2, k2)], d, k, S2, ⟨h1', fun e q hq eq => by simp at hq; subst hq; exact ne e eq, h2', (fun _ q hq => by simp at hq), trivial⟩, e3, c.sub (s1.trans s2)⟩
theorem px_un {o : UnaryOp} (ho : UnR X (unaryOp o) (fun x => rV X.KW op [x])) (ha : PX X a f) : PX X (.UnaryOp o a pos) (cCall op [f]) :=
  PE.imp (pe_un ho ha) fun σ H Q q => by
    obtain ⟨B, Gb, G, env, W, d, k, W', S, e, c⟩ := q
    obtain ⟨d1, k1, e1, e3⟩ := cCall_one e
    refine ⟨B, Gb, G, env, W, d1, k1, W', S, e1, fun v1 G1 H1 s1 S1 h1 => ?_⟩
    exact ⟨B, Gb, G1, σ, env, W', [(d1, k1)], d, k, S1, ⟨h1, (fun _ q hq => by simp at hq), trivial⟩, e3, c.sub s1⟩
theorem tA_call {t : TE} {r : List V → Hp → VK → Prop} (hr : ∀ vs H Q, rV X.KW op vs H Q → r vs H Q) (ht : ∀ σ H Q, tA X.KW fs σ H (fun vs H1 => r vs H1 Q) → t σ H Q) : ∀ σ H Q, tE X.KW (cCall op fs) σ H Q → t σ H Q := fun σ H Q q => by
  obtain ⟨B, Gb, G, env, W, d, k, W', S, e, c⟩ := q
  unfold cCall at e
  rw [Option.bind_eq_some_iff] at e
  obtain ⟨⟨ds, W1⟩, e1, e2⟩ := e
  rw [Option.map_eq_some_iff] at e2
  obtain ⟨⟨d', k'⟩, e3, e4⟩ := e2
  cases e4
  exact ht σ H Q ⟨B, Gb, G, env, W, ds, W1, S, e1, fun vs G1 H1 s1 S1 p1 => hr _ _ _ ⟨B, Gb, G1, σ, env, W1, ds, _, _, S1, p1, e3, c.sub s1⟩⟩
theorem px_callB {id : String} (hc : CallR X (.builtin id) (rV X.KW op)) (hg : Gl X x) (hm : X.mg x = none) (hv : bootBuiltins x = some (.builtin id)) (ha : PXs X (e :: es) fs) (hn : x ≠ "__name__" := by decide) (hdb : (x == ("__debug__" : Str)) = false := by decide)
    (he : starEach (e :: es) X.env = (false, eval e X.env) :: starEach es X.env := by rfl) (hpl : (backTo pos (starEach es X.env)).any (·.1) = false := by rfl) : PX X (.Call (.Name x p) (e :: es) [] pos) (cCall op fs) :=
  PE.imp (pe_callB hc hg hm hv ha hn hdb he hpl) (tA_call (fun _ _ _ h => h) fun _ _ _ h => h)
theorem px_callTy {T : String} (hc : CallR X (.type T) (rV X.KW op)) (hg : Gl X x) (hm : X.mg x = none) (hv : bootBuiltins x = some (.type T)) (ha : PXs X (e :: es) fs) (hn : x ≠ "__name__" := by decide) (hdb : (x == ("__debug__" : Str)) = false := by decide)
    (he : starEach (e :: es) X.env = (false, eval e X.env) :: starEach es X.env := by rfl) (hpl : (backTo pos (starEach es X.env)).any (·.1) = false := by rfl) : PX X (.Call (.Name x p) (e :: es) [] pos) (cCall op fs) :=
  PE.imp (pe_callTy hc hg hm hv ha hn hdb he hpl) (tA_call (fun _ _ _ h => h) fun _ _ _ h => h)

/-! ### displays -/
def oTup : Op := fun ds => if ds.all (fun t => esc t.2) && decide (ds.length ≤ 1000) then some (.tuple (ds.map (·.1)), .im) else none
def oLst : Op := fun ds => if ds.all (fun t => esc t.2) && decide (ds.length ≤ 1000) then some (.list (ds.map (·.1)), .fr) else none
theorem Pend.length {K : FW} {B G H : Hp} {σ : L2.St} {env : SEnv} : ∀ {vs : List V} {ds : List Dk}, Pend K B G H σ env vs ds → vs.length = ds.length
  | [], [], _ => rfl
  | _ :: _, _ :: _, h => congrArg (· + 1) (Pend.length h.2.2)
  | [], _ :: _, h => h.elim
  | _ :: _, [], h => h.elim
theorem px_tup {k : Nat} (ha : PXs X es fs) : PX X (.Tuple es k pos) (cCall oTup fs) := by
  refine PE.imp (pe_tup ha) (tA_call (r := fun xs H1 Q => xs.length ≤ sizeLine ∧ ∀ p, H1 p = none → Q (.ref p) (upd H1 p (.tup xs))) (fun vs H Q h => ?_) fun _ _ _ h => h)
  obtain ⟨B, Gb, G, σ, env, W, ds, d, k, S, p, e, c⟩ := h
  unfold oTup at e
  split at e
  · rename_i hs
    cases e
    rw [Bool.and_eq_true, decide_eq_true_eq] at hs
    obtain ⟨G1, s1, S1, r⟩ := freezeL S p hs.1
    refine ⟨?_, fun q hq => (c.sub s1).tup S1 hq r⟩
    rw [p.length, sizeLine_eq]
    omega
  · cases e
theorem px_lst (ha : PXs X es fs) : PX X (.List es pos) (cCall oLst fs) := by
  refine PE.imp (pe_lst ha) (tA_call (r := fun xs H1 Q => xs.length ≤ sizeLine ∧ ∀ p, H1 p = none → Q (.ref p) (upd H1 p (.lst xs))) (fun vs H Q h => ?_) fun _ _ _ h => h)
  obtain ⟨B, Gb, G, σ, env, W, ds, d, k, S, p, e, c⟩ := h
  unfold oLst at e
  split at e
  · rename_i hs
    cases e
    rw [Bool.and_eq_true, decide_eq_true_eq] at hs
    obtain ⟨G1, s1, S1, r⟩ := freezeL S p hs.1
    refine ⟨?_, fun q hq => (c.sub s1).fr S1 hq r⟩
    rw [p.length, sizeLine_eq]
    omega
  · cases e

/-! ### a call of a def of the text -/
/-- the promise: from data to a datum -/
def spF (K : FW) (n : Nat) (F : List PyData → Option PyData) : Sp := fun vs H Q _ => vs.length = n ∧ ∃ G ds d, Same G H ∧ RpL K G vs ds ∧ F ds = some d ∧
  ∀ v G1 H1, Same H H1 → Same G G1 → Same G1 H1 → (∀ a o, H a = some o → G1 a ≠ none → G a ≠ none ∨ ∃ xs, o = .tup xs) → Rp K G1 v d → Q v H1
def cFn (F : List PyData → Option PyData) (fs : List Ex) : Ex := fun env W => (cArgs fs env W).bind fun q => if q.1.all (fun t => esc t.2) then (F (q.1.map (·.1))).map fun d => (d, .im, q.2) else none
/-- the state behind a call that keeps all that stood -/
theorem Sta.after {K : FW} {B Gb G H G1 H1 : Hp} {σ : L2.St} {env : SEnv} {W : List Int} (S : Sta K B Gb G H σ env W) (h : Same H H1) (g : Same G G1) (s1 : Same G1 H1)
    (hn : ∀ a o, H a = some o → G1 a ≠ none → G a ≠ none ∨ ∃ xs, o = .tup xs) : Sta K B Gb G1 H1 σ env W := by
  have free : ∀ p o, H p = some o → (∀ xs, o ≠ .tup xs) → G p = none → G1 p = none := fun p o e ht hg => by
    cases q : G1 p with
    | none => rfl
    | some x =>
      rcases hn p o e (by rw [q]; simp) with z | ⟨xs, z⟩
      · exact absurd hg z
      · exact absurd z (ht xs)
  exact {
    sg := s1
    sb := S.sb.trans h
    sgb := S.sgb.trans g
    gb := fun a o e n => by
      rcases hn a o (S.sb _ _ e) n with z | z
      · exact S.gb a o e z
      · exact .inr z
    len := S.len
    pl := fun i d e => by
      obtain ⟨v, h1, h2⟩ := S.pl i d e
      exact ⟨v, h1, Rp.mono (Sub.of g) h2⟩
    ow := fun i d e => by
      obtain ⟨p, o, h1, h2, h3, h4, h5⟩ := S.ow i d e
      exact ⟨p, o, h1, free p o h4 h5.notTup h2, h3, h _ _ h4, h5.mono (Sub.of g)⟩
    lk := fun i od o d e => by
      obtain ⟨p, h1, h2, h3, h4, h5, h6⟩ := S.lk i od o d e
      exact ⟨p, h1, free p _ h4 (fun _ z => nomatch z) h2, h3, h _ _ h4, h5.mono (Sub.of g), h6⟩
    wd := fun i e => by
      obtain ⟨p, l, ns, k, h1, h2, h3, h4, h5, h6⟩ := S.wd i e
      exact ⟨p, l, ns, k, h1, free p _ h4 (fun _ z => nomatch z) h2, h3, h _ _ h4, g _ _ h5, h6⟩
    sc := fun i ns e => by
      obtain ⟨p, h1, h2⟩ := S.sc i ns e
      exact ⟨p, h1, g.seq h2⟩
    one := S.one
    sep := S.sep }
theorem px_fn {k n : Nat} {F : List PyData → Option PyData} {fa : Addr} {fd : FuncData} {ps : List Str} (hF : FnOk X.prog X.w X.KW X.mg X.base CX0 k fa fd ps (spF X.KW n F)) (hr : Room k X.A) (hg : Gl X x) (hm : X.mg x = some (.ref fa))
    (hk : PySem.W.keepIn X.KW (.ref fa) = true) (hb : Binds X.KW fd ps []) (ha : PXs X (e :: es) fs) (hn : (e :: es).length = n) (hdb : (x == ("__debug__" : Str)) = false := by decide)
    (he : starEach (e :: es) X.env = (false, eval e X.env) :: starEach es X.env := by rfl) (hpl : (backTo pos (starEach es X.env)).any (·.1) = false := by rfl) (hl : fs.length = n := by rfl) : PX X (.Call (.Name x p) (e :: es) [] pos) (cFn F fs) := by
  refine PE.imp (pe_call (E := E0) hF hr hg hm hk hb .nil pass0 ha hdb he hpl) fun σ H Q q => ?_
  obtain ⟨B, Gb, G, env, W, d, k, W', S, e, c⟩ := q
  unfold cFn at e
  rw [Option.bind_eq_some_iff] at e
  obtain ⟨⟨ds, W1⟩, e1, e2⟩ := e
  dsimp only at e2
  split at e2
  · rename_i hs
    rw [Option.map_eq_some_iff] at e2
    obtain ⟨d', e3, e4⟩ := e2
    cases e4
    refine ⟨B, Gb, G, env, W, ds, _, S, e1, fun vs G1 H1 s1 S1 p1 => ?_⟩
    obtain ⟨G2, s2, S2, r2⟩ := freezeL S1 p1 hs
    have hlen : ∀ (fs : List Ex) (env : SEnv) (W : List Int) (ds : List Dk) (W1 : List Int), cArgs fs env W = some (ds, W1) → ds.length = fs.length := by
      intro fs
      induction fs with
      | nil => intro env W ds W1 h; cases h; rfl
      | cons f fs ih =>
        intro env W ds W1 h
        rw [cArgs, Option.bind_eq_some_iff] at h
        obtain ⟨r, _, h⟩ := h
        rw [Option.map_eq_some_iff] at h
        obtain ⟨q, h1, h2⟩ := h
        cases h2
        rw [List.length_cons, List.length_cons, ih _ _ _ _ h1]
    rw [List.append_nil]
    refine ⟨by rw [p1.length, hlen _ _ _ _ _ e1, hl], G2, ds.map (·.1), _, S2.sg, r2, e3, fun v G3 H3 t1 t2 t3 t4 t5 => ?_⟩
    exact c v G3 H3 ((s1.trans s2).trans t2) (S2.after t1 t2 t3 t4) t5
  · cases e2
end
end PX

namespace PX
open PySem PySem.Spec PyProof.Rows L2

/-! ### tests -/
abbrev Ct := SEnv → List Int → Option (Bool × List Int)
def tT (K : FW) (f : Ct) : TT := fun σ H Q => ∃ B Gb G env W b W', Sta K B Gb G H σ env W ∧ f env W = some (b, W') ∧ ∀ G' H', Same G G' → Sta K B Gb G' H' σ env W' → Q b H'
def PTX (X : Cx) (e : Expr) (f : Ct) : Prop := PT X e (tT X.KW f)
def PWX (X : Cx) (e : Expr) (f : Ct) : Prop := PW X e (tT X.KW f)
def bOf (f : Ex) : Ct := fun env W => match f env W with
  | some (.bool b, _, W') => some (b, W')
  | _ => none
def kAnd (f g : Ct) : Ct := fun env W => (f env W).bind fun r => if r.1 then g env r.2 else some (false, r.2)
def kOr (f g : Ct) : Ct := fun env W => (f env W).bind fun r => if r.1 then some (true, r.2) else g env r.2
def kNot (f : Ct) : Ct := fun env W => (f env W).map fun r => (!r.1, r.2)
def cAnd (f g : Ex) : Ex := fun env W => match f env W with
  | some (.bool b, _, W') => if b then g env W' else some (.bool false, .im, W')
  | _ => none
def cOr (f g : Ex) : Ex := fun env W => match f env W with
  | some (.bool b, _, W') => if b then some (.bool true, .im, W') else g env W'
  | _ => none
def cIf (t : Ct) (f g : Ex) : Ex := fun env W => (t env W).bind fun r => if r.1 then f env r.2 else g env r.2
def cNot (f : Ex) : Ex := fun env W => match f env W with
  | some (.bool b, _, W') => some (.bool (!b), .im, W')
  | _ => none
theorem PW.imp {X : Cx} {e : Expr} {t t' : TT} (h : PW X e t) (i : ∀ σ H Q, t' σ H Q → t σ H Q) : PW X e t' := ⟨fun w pins s σ H Q I q => h.run w pins s σ H Q I (i _ _ _ q)⟩
section
variable {X : Cx} {a b c e : Expr} {rest es : List Expr} {f g h : Ex} {ft gt ht : Ct} {op op' : Op} {pos : Pos}
theorem bOf_some {env : SEnv} {W : List Int} {b : Bool} {W' : List Int} (e : bOf f env W = some (b, W')) : ∃ k, f env W = some (.bool b, k, W') := by
  unfold bOf at e
  split at e
  · rename_i q
    cases e
    exact ⟨_, q⟩
  · cases e
theorem ptx_val (h : PX X e f) (he : ∀ whole, isTrue e X.env whole = (do let v ← whole; standAt e.pos; holding [v] (truthy v)) := by intro _; rfl) : PTX X e (bOf f) :=
  PT.imp (pt_val h he) fun σ H Q q => by
    obtain ⟨B, Gb, G, env, W, b, W', S, e, c⟩ := q
    obtain ⟨k, e1⟩ := bOf_some e
    exact ⟨B, Gb, G, env, W, _, k, W', S, e1, fun v G1 H1 s1 S1 h1 => ⟨b, h1.bool S1, c G1 H1 s1 S1⟩⟩
theorem ptx_not (h : PTX X a ft) : PTX X (.UnaryOp .Not a pos) (kNot ft) := PT.imp (pt_not h) fun σ H Q q => by
  obtain ⟨B, Gb, G, env, W, b, W', S, e, c⟩ := q
  unfold kNot at e
  rw [Option.map_eq_some_iff] at e
  obtain ⟨⟨b1, W1⟩, e1, e2⟩ := e
  cases e2
  exact ⟨B, Gb, G, env, W, b1, _, S, e1, c⟩
theorem pwx_and1 (h : PTX X a ft) : PWX X (.BoolOp .And [a] pos) ft := pw_and1 h
theorem pwx_or1 (h : PTX X a ft) : PWX X (.BoolOp .Or [a] pos) ft := pw_or1 h
theorem pwx_and (ha : PTX X a ft) (hb : PWX X (.BoolOp .And (b :: rest) pos) gt) : PWX X (.BoolOp .And (a :: b :: rest) pos) (kAnd ft gt) := PW.imp (pw_and ha hb) fun σ H Q q => by
  obtain ⟨B, Gb, G, env, W, b, W', S, e, c⟩ := q
  unfold kAnd at e
  rw [Option.bind_eq_some_iff] at e
  obtain ⟨⟨b1, W1⟩, e1, e2⟩ := e
  refine ⟨B, Gb, G, env, W, b1, W1, S, e1, fun G1 H1 s1 S1 => ?_⟩
  dsimp only at e2
  split at e2
  · rename_i hb1
    rw [if_pos hb1]
    exact ⟨B, Gb, G1, env, W1, b, W', S1, e2, fun G2 H2 s2 S2 => c G2 H2 (s1.trans s2) S2⟩
  · rename_i hb1
    rw [if_neg hb1]
    cases e2
    exact c G1 H1 s1 S1
theorem pwx_or (ha : PTX X a ft) (hb : PWX X (.BoolOp .Or (b :: rest) pos) gt) : PWX X (.BoolOp .Or (a :: b :: rest) pos) (kOr ft gt) := PW.imp (pw_or ha hb) fun σ H Q q => by
  obtain ⟨B, Gb, G, env, W, b, W', S, e, c⟩ := q
  unfold kOr at e
  rw [Option.bind_eq_some_iff] at e
  obtain ⟨⟨b1, W1⟩, e1, e2⟩ := e
  refine ⟨B, Gb, G, env, W, b1, W1, S, e1, fun G1 H1 s1 S1 => ?_⟩
  dsimp only at e2
  split at e2
  · rename_i hb1
    rw [if_pos hb1]
    cases e2
    exact c G1 H1 s1 S1
  · rename_i hb1
    rw [if_neg hb1]
    exact ⟨B, Gb, G1, env, W1, b, W', S1, e2, fun G2 H2 s2 S2 => c G2 H2 (s1.trans s2) S2⟩
theorem PWX.pt (h : PWX X e ft) : PTX X e ft := PW.pt h
theorem px_one {o : BoolOp} (h : PX X a f) : PX X (.BoolOp o [a] pos) f := pe_one h
theorem px_and (ha : PX X a f) (hb : PX X (.BoolOp .And (b :: rest) pos) g) : PX X (.BoolOp .And (a :: b :: rest) pos) (cAnd f g) := PE.imp (pe_and ha hb) fun σ H Q q => by
  obtain ⟨B, Gb, G, env, W, d, k, W', S, e, c⟩ := q
  unfold cAnd at e
  split at e
  · rename_i b1 k1 W1 e1
    refine ⟨B, Gb, G, env, W, _, _, _, S, e1, fun v G1 H1 s1 S1 h1 => ⟨b1, h1.bool S1, ?_⟩⟩
    split at e
    · rename_i hb1
      rw [if_pos hb1]
      exact ⟨B, Gb, G1, env, _, d, k, W', S1, e, c.sub s1⟩
    · rename_i hb1
      rw [if_neg hb1]
      cases e
      exact (c.sub s1).bool S1
  · cases e
theorem px_or (ha : PX X a f) (hb : PX X (.BoolOp .Or (b :: rest) pos) g) : PX X (.BoolOp .Or (a :: b :: rest) pos) (cOr f g) := PE.imp (pe_or ha hb) fun σ H Q q => by
  obtain ⟨B, Gb, G, env, W, d, k, W', S, e, c⟩ := q
  unfold cOr at e
  split at e
  · rename_i b1 k1 W1 e1
    refine ⟨B, Gb, G, env, W, _, _, _, S, e1, fun v G1 H1 s1 S1 h1 => ⟨b1, h1.bool S1, ?_⟩⟩
    split at e
    · rename_i hb1
      rw [if_pos hb1]
      cases e
      exact (c.sub s1).bool S1
    · rename_i hb1
      rw [if_neg hb1]
      exact ⟨B, Gb, G1, env, _, d, k, W', S1, e, c.sub s1⟩
  · cases e
theorem px_not (ha : PX X a f) : PX X (.UnaryOp .Not a pos) (cNot f) := PE.imp (pe_not ha) fun σ H Q q => by
  obtain ⟨B, Gb, G, env, W, d, k, W', S, e, c⟩ := q
  unfold cNot at e
  split at e
  · rename_i b1 k1 W1 e1
    cases e
    exact ⟨B, Gb, G, env, W, _, _, _, S, e1, fun v G1 H1 s1 S1 h1 => ⟨b1, h1.bool S1, (c.sub s1).bool S1⟩⟩
  · cases e
theorem px_if (hc : PTX X c ft) (ha : PX X a f) (hb : PX X b g) : PX X (.IfExp c a b pos) (cIf ft f g) := PE.imp (pe_ifExp hc ha hb) fun σ H Q q => by
  obtain ⟨B, Gb, G, env, W, d, k, W', S, e, c⟩ := q
  unfold cIf at e
  rw [Option.bind_eq_some_iff] at e
  obtain ⟨⟨b1, W1⟩, e1, e2⟩ := e
  refine ⟨B, Gb, G, env, W, b1, W1, S, e1, fun G1 H1 s1 S1 => ?_⟩
  dsimp only at e2
  split at e2
  · rename_i hb1
    rw [if_pos hb1]
    exact ⟨B, Gb, G1, env, W1, d, k, W', S1, e2, c.sub s1⟩
  · rename_i hb1
    rw [if_neg hb1]
    exact ⟨B, Gb, G1, env, W1, d, k, W', S1, e2, c.sub s1⟩
/-- a < b < c -/
def cChain (op op' : Op) (f g h : Ex) : Ex := fun env W => (f env W).bind fun r => (g env r.2.2).bind fun q => match q.2.1 with
  | .im => (match op [(r.1, r.2.1), (q.1, .im)] with
    | some (.bool b, .im) => if b then (h env q.2.2).bind fun t => (op' [(q.1, .im), (t.1, t.2.1)]).map fun z => (z.1, z.2, t.2.2) else some (.bool false, .im, q.2.2)
    | _ => none)
  | _ => none
theorem chain_of : ∀ σ H Q, tE X.KW (cChain op op' f g h) σ H Q → tChain (fun x y => rV X.KW op [x, y]) (fun x y => rV X.KW op' [x, y]) (tE X.KW f) (tE X.KW g) (tE X.KW h) σ H Q := fun σ H Q q => by
  obtain ⟨B, Gb, G, env, W, d, k, W', S, e, c⟩ := q
  unfold cChain at e
  rw [Option.bind_eq_some_iff] at e
  obtain ⟨⟨d1, k1, W1⟩, e1, e⟩ := e
  rw [Option.bind_eq_some_iff] at e
  obtain ⟨⟨d2, k2, W2⟩, e2, e⟩ := e
  dsimp only at e e2
  split at e
  · split at e
    · rename_i b1 e3
      refine ⟨B, Gb, G, env, W, d1, k1, W1, S, e1, fun v1 G1 H1 s1 S1 h1 => step2 S1 h1 e2 fun v2 G2 H2 s2 S2 h1' h2' ne => ?_⟩
      refine ⟨B, Gb, G2, σ, env, W2, [(d1, k1), (d2, .im)], _, _, S2, ⟨h1', fun e q hq eq => by simp at hq; subst hq; exact ne e eq, h2', (fun _ q hq => by simp at hq), trivial⟩, e3, fun v3 G3 H3 s3 S3 h3 => ⟨b1, h3.bool S3, ?_⟩⟩
      have h2'' : VOk X.KW B G3 H3 σ env v2 d2 .im := Rp.mono (Sub.of s3) h2'
      split at e
      · rename_i hb1
        rw [if_pos hb1]
        rw [Option.bind_eq_some_iff] at e
        obtain ⟨⟨d3, k3, W3⟩, e4, e⟩ := e
        rw [Option.map_eq_some_iff] at e
        obtain ⟨⟨d4, k4⟩, e5, e6⟩ := e
        cases e6
        refine step2 S3 h2'' e4 fun v4 G4 H4 s4 S4 h2''' h4 ne => ?_
        exact ⟨B, Gb, G4, σ, env, W3, [(d2, .im), (d3, k3)], _, _, S4, ⟨h2''', (fun e => nomatch e), h4, (fun _ q hq => by simp at hq), trivial⟩, e5, c.sub (((s1.trans s2).trans s3).trans s4)⟩
      · rename_i hb1
        rw [if_neg hb1]
        cases e
        exact (c.sub ((s1.trans s2).trans s3)).bool S3
    · cases e
  · cases e
theorem px_chain {o o' : CmpOp} (ho : OpR X (compareOp o) (fun x y => rV X.KW op [x, y])) (ho' : OpR X (compareOp o') (fun x y => rV X.KW op' [x, y])) (ha : PX X a f) (hb : PX X b g) (hc : PX X c h)
    (hm : lastMarks [o, o'] [b, c] = false := by with_unfolding_all rfl) : PX X (.Compare a [o, o'] [b, c] pos) (cChain op op' f g h) := PE.imp (pe_chain ho ho' ha hb hc hm) chain_of
theorem ptx_chain {o o' : CmpOp} (ho : OpR X (compareOp o) (fun x y => rV X.KW op [x, y])) (ho' : OpR X (compareOp o') (fun x y => rV X.KW op' [x, y])) (ha : PX X a f) (hb : PX X b g) (hc : PX X c h)
    (hm : lastMarks [o, o'] [b, c] = false := by with_unfolding_all rfl) : PTX X (.Compare a [o, o'] [b, c] pos) (bOf (cChain op op' f g h)) := PT.imp (pt_chain ho ho' ha hb hc hm) fun σ H Q q => by
  obtain ⟨B, Gb, G, env, W, b, W', S, e, c⟩ := q
  obtain ⟨k, e1⟩ := bOf_some e
  refine chain_of σ H _ ⟨B, Gb, G, env, W, _, k, W', S, e1, fun v G1 H1 s1 S1 h1 => ?_⟩
  exact ⟨b, h1.bool S1, c G1 H1 s1 S1⟩
end
end PX

namespace PX
open PySem PySem.Spec PyProof.Rows L2
/-! ### d[k], d.get(k), d.get(k, x), d[k] = v for dicts of either sort -/
section
variable {X : Cx} {pins : List (Addr × Obj)} {σ : L2.St} {H : Hp} {s : Shared} {a : Addr} {y v d : V} {u r : Value} {o : Option V} {A : Around} {E : Value → Shared → Prop}
theorem n_get2 {Q : Value → Shared → Prop} (hu : A.units + 20 < cLine) (I : Inv X pins σ H s) (g : NGet X.KW H a y o) (ry : RelV y u) (rd : RelV d r) (h : ∀ w' s', Inv X pins σ H s' → RelV (o.getD d) w' → Q w' s') :
    wpAny (model X.prog X.w) A (call (.builtin "dict.get") [.ref a, u, r]) Q E s := by
  obtain ⟨a', kvs, b, kd, k, rfl, e, ki, rb, ek, l⟩ := g
  cases (show u = Value.ref b from ry)
  obtain ⟨_, z, hd, xs, rel, dd⟩ := n_at I e ki
  refine call_meetsIn PySem.F.slot_dict_get dd.typeIs PySem.F.entry_dict_get (PySem.F.args_dict_get_3 _ _ _) (meetsH_dict_get_default (nestedKind X.prog X.w) a b hd r) ⟨n_room hu, k, xs, nk_at I rb ek, dd, h _ _ (I.tok _) ?_⟩
  rw [l]
  exact (rel.val k).getD rd
def IsG (K : FW) (H : Hp) (a : Addr) : Prop := IsD H a ∨ ∃ a' kvs, Rd H a (HN K.w a' kvs) ∧ KeysIn K H kvs
theorem isG_at (I : Inv X pins σ H s) (d : IsG X.KW H a) : s.TypeIs (.ref a) "dict" ∧ (∀ b, Value.ref a = .ref b → ∃ ob, s.heap.get? b = some ob ∧ ob.dict = none) ∧ (a == sysModules) = false := by
  rcases d with d | ⟨a', kvs, e, ki⟩
  · exact isD_at I d
  · obtain ⟨_, _, hd, xs, _, dd⟩ := n_at I e ki
    refine ⟨dd.typeIs, fun b q => ?_, hd⟩
    cases q
    obtain ⟨ob, _, _, h1, h2, _⟩ := dd
    exact ⟨ob, h1, h2.2.1⟩
def NPut (K : FW) (H : Hp) (a : Addr) (y v : V) (H' : Hp) : Prop := ∃ (a' : Addr) (kvs : List NRow) (b : Addr) (kd : PyData) (k : NestedKey), H a = some (HN K.w a' kvs) ∧ KeysIn K H kvs ∧ y = .ref b ∧ Rp K H (.ref b) kd ∧ nkT kd = some k ∧ kvs.length < sizeLine ∧ H' = upd H a (HN K.w a (putN kvs k b v))
end
section
variable {X : Cx} {o i e f value : Expr} {pos pos' tpos apos cpos : Pos} {td ty tv tx : TE}
def tGGet (K : FW) (td ty : TE) : TE := fun σ H Q => td σ H fun x H1 => ty σ H1 fun y H2 => ∃ a v, x = .ref a ∧ (DGet H2 a y (some v) ∨ NGet K H2 a y (some v)) ∧ Q v H2
theorem pe_gget (hu : X.A.units + 20 < cLine) (ho : PE X o td) (hi : PE X i ty) (hs : NoSl i) : PE X (.Subscript o i pos) (tGGet X.KW td ty) := by
  refine ⟨fun pins s σ H Q I h => ?_⟩
  refine subD_of PySem.F.slot_dict_getitem.lookup hs (thn (ho.run pins s σ H _ I h) fun u s1 ⟨x, H1, I1, rx, q1⟩ => thn (hi.run pins s1 σ H1 _ I1 q1) fun iv s2 ⟨y, H2, I2, ry, a, v, ex, g, q2⟩ => ?_)
  subst ex
  obtain rfl : u = Value.ref a := rx
  rcases g with g | g
  · exact ⟨dict_typeIs I2 g, d_getItem (by omega) I2 g ry fun w' s3 I3 rw' => ⟨v, H2, I3, rw', q2⟩⟩
  · refine ⟨?_, n_getItem hu I2 g ry fun w' s3 I3 rw' => ⟨v, H2, I3, rw', q2⟩⟩
    obtain ⟨a', kvs, b, kd, k, _, e, ki, _⟩ := g
    exact (isG_at I2 (.inr ⟨a', kvs, e, ki⟩)).1
def tGGet1 (K : FW) (td ty : TE) : TE := fun σ H Q => td σ H fun x H1 => ∃ a, x = .ref a ∧ IsG K H1 a ∧ ty σ H1 fun y H2 => ∃ o, (DGet H2 a y o ∨ NGet K H2 a y o) ∧ Q (o.getD .non) H2
theorem pe_gget1 (hu : X.A.units + 20 < cLine) (ho : PE X o td) (he : PE X e ty) (m : M1 X o "get" apos e cpos) : PE X (.Call (.Attribute o "get" apos) [e] [] cpos) (tGGet1 X.KW td ty) := by
  refine ⟨fun pins s σ H Q I h => ?_⟩
  refine wpAny_Call_method m.base m.few m.line PySem.F.plainAttrs_dict PySem.F.slot_dict_get PySem.F.type_dict_get (thn (ho.run pins s σ H _ I h) fun u s1 ⟨x, H1, I1, rx, a, ex, d, q1⟩ => ?_)
  subst ex
  obtain rfl : u = Value.ref a := rx
  obtain ⟨t1, t2, _⟩ := isG_at I1 d
  refine ⟨t1, t2, ?_⟩
  rw [m.trees]
  refine Calls.callWith_builtin rfl (Calls.evalArgs_plain (Calls.spliced_cons (thn (he.run pins s1 σ H1 _ I1 q1) fun iv s2 ⟨y, H2, I2, ry, ov, g, q2⟩ => Calls.spliced_nil ?_)))
  rcases g with g | g
  · exact d_get1 (by omega) I2 g ry fun w' s3 I3 rw' => ⟨_, H2, I3, rw', q2⟩
  · exact n_get1 hu I2 g ry fun w' s3 I3 rw' => ⟨_, H2, I3, rw', q2⟩
def tGGet2 (K : FW) (td ty tx : TE) : TE := fun σ H Q => td σ H fun x H1 => ∃ a, x = .ref a ∧ IsG K H1 a ∧ ty σ H1 fun y H2 => tx σ H2 fun z H3 => ∃ o, (DGet H3 a y o ∨ NGet K H3 a y o) ∧ Q (o.getD z) H3
theorem pe_gget2 (hu : X.A.units + 20 < cLine) (ho : PE X o td) (he : PE X e ty) (hf : PE X f tx) (m : M2 X o "get" apos e f cpos) : PE X (.Call (.Attribute o "get" apos) [e, f] [] cpos) (tGGet2 X.KW td ty tx) := by
  refine ⟨fun pins s σ H Q I h => ?_⟩
  refine wpAny_Call_method m.base m.few m.line PySem.F.plainAttrs_dict PySem.F.slot_dict_get PySem.F.type_dict_get (thn (ho.run pins s σ H _ I h) fun u s1 ⟨x, H1, I1, rx, a, ex, d, q1⟩ => ?_)
  subst ex
  obtain rfl : u = Value.ref a := rx
  obtain ⟨t1, t2, _⟩ := isG_at I1 d
  refine ⟨t1, t2, ?_⟩
  rw [m.trees]
  refine Calls.callWith_builtin rfl (Calls.evalArgs_plain (Calls.spliced_cons (thn (he.run pins s1 σ H1 _ I1 q1) fun iv s2 ⟨y, H2, I2, ry, q2⟩ =>
    Calls.spliced_cons (thn (hf.run pins s2 σ H2 _ I2 q2) fun fv s3 ⟨z, H3, I3, rz, ov, g, q3⟩ => Calls.spliced_nil ?_))))
  rcases g with g | g
  · exact d_get2 (by omega) I3 g ry rz fun w' s4 I4 rw' => ⟨_, H3, I4, rw', q3⟩
  · exact n_get2 hu I3 g ry rz fun w' s4 I4 rw' => ⟨_, H3, I4, rw', q3⟩
def sGPut (K : FW) (td ty tv : TE) : TS := fun D σ H => tv σ H fun v H1 => td σ H1 fun x H2 => ty σ H2 fun y H3 => ∃ a H4, x = .ref a ∧ (DPut H3 a y v H4 ∨ NPut K H3 a y v H4) ∧ D.nx σ H4
theorem ps_gput (hu : X.A.units + 20 < cLine) (ho : PE X o td) (hi : PE X i ty) (hv : PE X value tv) (hs : swapsWith value (some (.Subscript o i pos')) pos.line X.env = pure false) :
    PS X (.Assign [.Subscript o i pos'] value pos) (sGPut X.KW td ty tv) := by
  refine ⟨fun pins s σ H D I h => ?_⟩
  refine wpAny_Assign_Subscript (thn (hv.run pins s σ H _ I h) fun r s1 ⟨v, H1, I1, rv, q1⟩ => thn (ho.run pins s1 σ H1 _ I1 q1) fun u s2 ⟨x, H2, I2, rx, q2⟩ => thn (hi.run pins s2 σ H2 _ I2 q2) fun iv s3 ⟨y, H3, I3, ry, a, H4, ex, g, q3⟩ => ?_) hs
  subst ex
  obtain rfl : u = Value.ref a := rx
  rcases g with g | ⟨a', kvs, b, kd, k, e, ki, rfl, rb, ek, hl, rfl⟩
  · exact d_setItem (by omega) I3 g ry rv fun s4 I4 => ⟨σ, H4, I4, q3⟩
  · cases (show iv = Value.ref b from ry)
    exact n_setItem hu I3 e ki rb ek hl rv fun s4 I4 => ⟨σ, _, I4, q3⟩
end
end PX

namespace PX
open PySem PySem.Spec PyProof.Rows L2

section
variable {X : Cx} {a b c e o : Expr} {rest es : List Expr} {f g h : Ex} {op : Op} {pos : Pos}
theorem ptx_cmp {o : CmpOp} (ho : OpR X (compareOp o) (fun x y => rV X.KW op [x, y])) (ha : PX X a f) (hb : PX X b g) (hm : behindInMarks o b = false) : PTX X (.Compare a [o] [b] pos) (bOf (cCall op [f, g])) :=
  PT.imp (pt_cmpR ho ha hb hm) fun σ H Q q => by
    obtain ⟨B, Gb, G, env, W, b, W', S, e, c⟩ := q
    obtain ⟨k, e1⟩ := bOf_some e
    obtain ⟨d1, k1, W1, d2, k2, e1, e2, e3⟩ := cCall_two e1
    refine ⟨B, Gb, G, env, W, d1, k1, W1, S, e1, fun v1 G1 H1 s1 S1 h1 => step2 S1 h1 e2 fun v2 G2 H2 s2 S2 h1' h2' ne => ?_⟩
    exact ⟨B, Gb, G2, σ, env, W', [(d1, k1), (d2, k2)], _, k, S2, ⟨h1', fun e q hq eq => by simp at hq; subst hq; exact ne e eq, h2', (fun _ q hq => by simp at hq), trivial⟩, e3, fun v3 G3 H3 s3 S3 h3 => ⟨b, h3.bool S3, c G3 H3 ((s1.trans s2).trans s3) S3⟩⟩

theorem step3 {K : FW} {B Gb G H : Hp} {σ : L2.St} {env : SEnv} {W W2 W3 : List Int} {v : V} {d d2 d3 : PyData} {k k2 k3 : Kd} {P : V → V → Hp → Prop} (S : Sta K B Gb G H σ env W) (h1 : VOk K B G H σ env v d k) (hg : g env W = some (d2, k2, W2)) (hh : h env W2 = some (d3, k3, W3))
    (hP : ∀ v2 v3 G' H', Same G G' → Sta K B Gb G' H' σ env W3 → VOk K B G' H' σ env v d k → VOk K B G' H' σ env v2 d2 k2 → VOk K B G' H' σ env v3 d3 k3 → P v2 v3 H') : tE K g σ H (fun y H2 => tE K h σ H2 (fun z H3 => P y z H3)) :=
  ⟨prot H v k B, Gb, G, env, W, d2, k2, W2, S.prot h1, hg, fun v2 G2 H2 s2 S2 h2 => step2 S2 h2 hh fun v3 G3 H3 s3 S3 h2' h3 ne =>
    hP v2 v3 G3 H3 (s2.trans s3) (S3.unprot (prot_same h1)) (VOk.kept S h1 (s2.trans s3) S3) (VOk.base (prot_same h1) h2') (VOk.base (prot_same h1) h3)⟩

/-! ### subscripts -/
def oIx : Op
  | [(.list ds, _), (.int i, _)] => (atI ds i).map fun d => (d, .im)
  | [(.tuple ds, _), (.int i, _)] => (atI ds i).map fun d => (d, .im)
  | [(.dict es, _), (k, _)] => if keyFit es k then (dget (ents es) k).map fun d => (d, .im) else none
  | _ => none
theorem RpL.atI {K : FW} {G : Hp} {xs : List V} {ds : List PyData} (r : RpL K G xs ds) {i : Int} {d : PyData} (h : L2.atI ds i = some d) : ∃ v, L2.atI xs i = some v ∧ Rp K G v d := by
  unfold L2.atI at *
  rw [Option.bind_eq_some_iff] at h
  obtain ⟨j, h1, h2⟩ := h
  obtain ⟨v, h3, h4⟩ := r.get h2
  exact ⟨v, by rw [r.length, h1]; exact h3, h4⟩
theorem px_ix (hu : X.A.units + 200 < cLine) (ha : PX X a f) (hb : PX X b g) (hs : PlainIx b := by intro _ _; rfl) : PX X (.Subscript a b pos) (cCall oIx [f, g]) := by
  refine ⟨fun pins s σ H Q I q => ?_⟩
  obtain ⟨B, Gb, G, env, W, d, k, W', S, e, c⟩ := q
  obtain ⟨d1, k1, W1, d2, k2, e1, e2, e3⟩ := cCall_two e
  unfold oIx at e3
  split at e3
  · rename_i q
    cases q
    rw [Option.map_eq_some_iff] at e3
    obtain ⟨d', e3, e4⟩ := e3
    cases e4
    refine (pe_ix ix_list ha hb hs).run pins s σ H Q I ⟨B, Gb, G, env, W, _, _, W1, S, e1, fun v1 G1 H1 s1 S1 h1 => step2 S1 h1 e2 fun v2 G2 H2 s2 S2 h1' h2' ne => ?_⟩
    obtain ⟨p, xs, rfl, hx, rx⟩ := h1'.list S2
    obtain rfl := h2'.int S2
    obtain ⟨v, hv, rv⟩ := rx.atI e3
    exact ⟨p, xs, _, v, rfl, rfl, .of hx, hv, (c.sub (s1.trans s2)).im S2 rv⟩
  · rename_i q
    cases q
    rw [Option.map_eq_some_iff] at e3
    obtain ⟨d', e3, e4⟩ := e3
    cases e4
    refine (pe_ix ix_tup ha hb hs).run pins s σ H Q I ⟨B, Gb, G, env, W, _, _, W1, S, e1, fun v1 G1 H1 s1 S1 h1 => step2 S1 h1 e2 fun v2 G2 H2 s2 S2 h1' h2' ne => ?_⟩
    obtain ⟨p, xs, rfl, hx, rx⟩ := h1'.tuple S2
    obtain rfl := h2'.int S2
    obtain ⟨v, hv, rv⟩ := rx.atI e3
    exact ⟨p, xs, _, v, rfl, rfl, (Sub.of S2.sg).sqT hx.sqT, hv, (c.sub (s1.trans s2)).im S2 rv⟩
  · rename_i q
    cases q
    split at e3
    · rename_i hf
      rw [Option.map_eq_some_iff] at e3
      obtain ⟨d', e3, e4⟩ := e3
      cases e4
      refine (pe_gget (by omega) ha hb hs).run pins s σ H Q I ⟨B, Gb, G, env, W, _, _, W1, S, e1, fun v1 G1 H1 s1 S1 h1 => step2 S1 h1 e2 fun v2 G2 H2 s2 S2 h1' h2' ne => ?_⟩
      obtain ⟨a, ov, rfl, hg, r⟩ := dgn_of S2 h1' h2' hf
      rw [e3] at r
      cases ov with
      | none => exact r.elim
      | some v => exact ⟨a, v, rfl, hg, (c.sub (s1.trans s2)).im S2 r⟩
    · cases e3
  · cases e3

/-! ### slices -/
def cutD (ds : List PyData) (lo hi : Option Int) : List PyData := (ds.drop (HT.sIx ds.length 0 lo)).take (HT.sIx ds.length ds.length hi - HT.sIx ds.length 0 lo)
def part (o : Option Ex) (env : SEnv) (W : List Int) : Option (Option Int × List Int) := match o with
  | none => some (none, W)
  | some f => match f env W with
    | some (.int i, _, W') => some (some i, W')
    | _ => none
def oSl (d : PyData) (lo hi : Option Int) : Option Dk := match d with
  | .list ds => some (.list (cutD ds lo hi), .fr)
  | .tuple ds => some (.tuple (cutD ds lo hi), .im)
  | _ => none
def cSlice (f : Ex) (lo hi : Option Ex) : Ex := fun env W => (f env W).bind fun r => (part lo env r.2.2).bind fun l => (part hi env l.2).bind fun u => (oSl r.1 l.1 u.1).map fun z => (z.1, z.2, u.2)
def tP (K : FW) (f : Option Ex) : TO := fun σ H Q => ∃ B Gb G env W i W', Sta K B Gb G H σ env W ∧ part f env W = some (i, W') ∧ ∀ G' H', Same G G' → Sta K B Gb G' H' σ env W' → Q i H'
def POX (X : Cx) (e : Option Expr) (f : Option Ex) : Prop := PO X e (tP X.KW f)
theorem PO.imp {e : Option Expr} {t t' : TO} (h : PO X e t) (i : ∀ σ H Q, t' σ H Q → t σ H Q) : PO X e t' := ⟨fun pins s σ H Q I q => h.run pins s σ H Q I (i _ _ _ q)⟩
theorem pox_none : POX X none none := PO.imp po_none fun σ H Q q => by
  obtain ⟨B, Gb, G, env, W, i, W', S, e, c⟩ := q
  cases e
  exact c G H (Same.refl _) S
theorem pox_some (h : PX X e f) : POX X (some e) (some f) := PO.imp (po_some h) fun σ H Q q => by
  obtain ⟨B, Gb, G, env, W, i, W', S, e, c⟩ := q
  unfold part at e
  dsimp only at e
  split at e
  · rename_i i1 k1 W1 e1
    cases e
    exact ⟨B, Gb, G, env, W, _, _, _, S, e1, fun v G1 H1 s1 S1 h1 => ⟨i1, h1.int S1, c G1 H1 s1 S1⟩⟩
  · cases e
theorem cutV_eq (xs : List V) (lo hi : Option Int) (n : Nat) (h : xs.length = n) : cutV xs lo hi = (xs.drop (HT.sIx n 0 lo)).take (HT.sIx n n hi - HT.sIx n 0 lo) := by
  subst h
  rfl
theorem RpL.cut {K : FW} {G : Hp} {xs : List V} {ds : List PyData} (r : RpL K G xs ds) (lo hi : Option Int) : RpL K G (cutV xs lo hi) (cutD ds lo hi) := by
  rw [cutV_eq xs lo hi _ r.length]
  exact (r.drop _).take _
theorem cut_whole {ds : List PyData} {lo hi : Option Int} (h : HT.sIx ds.length 0 lo = 0 ∧ HT.sIx ds.length ds.length hi = ds.length) : cutD ds lo hi = ds := by
  unfold cutD
  rw [h.1, h.2, List.drop_zero, Nat.sub_zero, List.take_length]
theorem part_kept {K : FW} {B Gb G H : Hp} {σ : L2.St} {env : SEnv} {W W' : List Int} {v : V} {d : PyData} {k : Kd} {o : Option Ex} {i : Option Int} {P : Option Int → Hp → Prop} (S : Sta K B Gb G H σ env W) (h : VOk K B G H σ env v d k)
    (e : part o env W = some (i, W')) (hP : ∀ G' H', Same G G' → Sta K B Gb G' H' σ env W' → VOk K B G' H' σ env v d k → P i H') : tP K o σ H P :=
  ⟨prot H v k B, Gb, G, env, W, i, W', S.prot h, e, fun G' H' sg S' => hP G' H' sg (S'.unprot (prot_same h)) (VOk.kept S h sg S')⟩
theorem px_slice {lo hi : Option Expr} {fl fh : Option Ex} {p2 : Pos} (ha : PX X a f) (hl : POX X lo fl) (hh : POX X hi fh) : PX X (.Subscript a (.Slice lo hi none p2) pos) (cSlice f fl fh) :=
  PE.imp (pe_slice (SlR.or sl_list sl_tupA) ha hl hh) fun σ H Q q => by
    obtain ⟨B, Gb, G, env, W, d, k, W', S, e, c⟩ := q
    unfold cSlice at e
    rw [Option.bind_eq_some_iff] at e
    obtain ⟨⟨d1, k1, W1⟩, e1, e⟩ := e
    rw [Option.bind_eq_some_iff] at e
    obtain ⟨⟨l, W2⟩, e2, e⟩ := e
    rw [Option.bind_eq_some_iff] at e
    obtain ⟨⟨u, W3⟩, e3, e⟩ := e
    rw [Option.map_eq_some_iff] at e
    obtain ⟨⟨d4, k4⟩, e4, e5⟩ := e
    cases e5
    refine ⟨B, Gb, G, env, W, d1, k1, W1, S, e1, fun v1 G1 H1 s1 S1 h1 => part_kept S1 h1 e2 fun G2 H2 s2 S2 h2 => part_kept S2 h2 e3 fun G3 H3 s3 S3 h3 => ?_⟩
    dsimp only at e4
    unfold oSl at e4
    split at e4
    · cases e4
      obtain ⟨p, xs, rfl, hx, rx⟩ := h3.list S3
      exact .inl ⟨p, xs, rfl, .of hx, fun q hq => (c.sub ((s1.trans s2).trans s3)).fr S3 hq (rx.cut _ _)⟩
    · cases e4
      obtain ⟨p, xs, rfl, hx, rx⟩ := h3.tuple S3
      refine .inr ⟨p, xs, rfl, (Sub.of S3.sg).sqT hx.sqT, fun hw => ?_, fun _ q hq => (c.sub ((s1.trans s2).trans s3)).tup S3 hq (rx.cut _ _)⟩
      rw [rx.length] at hw
      have c' := c.sub ((s1.trans s2).trans s3)
      rw [cut_whole hw] at c'
      exact c'.im S3 (.tup hx rx)
    · cases e4
def oBack : Op
  | [(.list ds, _)] => some (.list ds.reverse, .fr)
  | [(.tuple ds, _)] => some (.tuple ds.reverse, .im)
  | _ => none
theorem px_back {k : Nat} {p1 p2 p3 : Pos} (ha : PX X a f) : PX X (.Subscript a (.Slice none none (some (.UnaryOp .USub (.Constant (.int 1) k p1) p2)) p3) pos) (cCall oBack [f]) :=
  PE.imp (pe_back ha) fun σ H Q q => by
    obtain ⟨B, Gb, G, env, W, d, k, W', S, e, c⟩ := q
    obtain ⟨d1, k1, e1, e2⟩ := cCall_one e
    refine ⟨B, Gb, G, env, W, d1, k1, W', S, e1, fun v1 G1 H1 s1 S1 h1 => ?_⟩
    unfold oBack at e2
    split at e2
    · rename_i q
      cases q
      cases e2
      obtain ⟨p, xs, rfl, hx, rx⟩ := h1.list S1
      exact .inl ⟨p, xs, rfl, .of hx, fun q hq => (c.sub s1).fr S1 hq rx.reverse⟩
    · rename_i q
      cases q
      cases e2
      obtain ⟨p, xs, rfl, hx, rx⟩ := h1.tuple S1
      exact .inr ⟨p, xs, rfl, (Sub.of S1.sg).sqT hx.sqT, fun q hq => (c.sub s1).tup S1 hq rx.reverse⟩
    · cases e2
/-! ### d.get -/
def oGet1 : Op
  | [(.dict es, _), (k, _)] => if keyFit es k then some ((dget (ents es) k).getD .none, .im) else none
  | _ => none
def oGet2 : Op
  | [(.dict es, _), (k, _), (x, kx)] => if keyFit es k then (match dget (ents es) k with | some d => some (d, .im) | none => some (x, kx)) else none
  | _ => none
theorem px_get1 (hu : X.A.units + 200 < cLine) {apos cpos : Pos} (ha : PX X a f) (hb : PX X b g) (m : M1 X a "get" apos b cpos := by exact ⟨rfl, rfl, rfl, rfl⟩) : PX X (.Call (.Attribute a "get" apos) [b] [] cpos) (cCall oGet1 [f, g]) :=
  PE.imp (pe_gget1 (by omega) ha hb m) fun σ H Q q => by
    obtain ⟨B, Gb, G, env, W, d, k, W', S, e, c⟩ := q
    obtain ⟨d1, k1, W1, d2, k2, e1, e2, e3⟩ := cCall_two e
    unfold oGet1 at e3
    split at e3
    · rename_i q
      cases q
      split at e3
      · rename_i hf
        cases e3
        refine ⟨B, Gb, G, env, W, _, _, W1, S, e1, fun v1 G1 H1 s1 S1 h1 => ?_⟩
        obtain ⟨x, ex, hd⟩ := h1.dict S1
        refine ⟨x, ex, hd.elim (fun ⟨kvs, z, _⟩ => .inl (.inl ⟨kvs, z⟩)) (fun ⟨a', kvs, _, _, z, r⟩ => .inr ⟨a', kvs, z, fun q hq => (r.keysIn q hq).elim fun d z => ⟨d, z.1, Rp.mono (Sub.of S1.sg) z.2⟩⟩), step2 S1 h1 e2 fun v2 G2 H2 s2 S2 h1' h2' ne => ?_⟩
        obtain ⟨y, ov, ey, hg, r⟩ := dgn_of S2 h1' h2' hf
        rw [ex] at ey
        cases ey
        refine ⟨ov, hg, (c.sub (s1.trans s2)).im S2 ?_⟩
        generalize dget (ents _) _ = od at r ⊢
        cases ov <;> cases od <;> first | exact r.elim | exact .non | exact r
      · cases e3
    · cases e3
theorem px_get2 (hu : X.A.units + 200 < cLine) {apos cpos : Pos} (ha : PX X a f) (hb : PX X b g) (hc : PX X c h) (m : M2 X a "get" apos b c cpos := by exact ⟨rfl, rfl, rfl, rfl⟩) : PX X (.Call (.Attribute a "get" apos) [b, c] [] cpos) (cCall oGet2 [f, g, h]) :=
  PE.imp (pe_gget2 (by omega) ha hb hc m) fun σ H Q q => by
    obtain ⟨B, Gb, G, env, W, d, k, W', S, e, c⟩ := q
    obtain ⟨d1, k1, W1, d2, k2, W2, d3, k3, e1, e2, e3, e4⟩ := cCall_three e
    unfold oGet2 at e4
    split at e4
    · rename_i q
      cases q
      split at e4
      · rename_i hf
        refine ⟨B, Gb, G, env, W, _, _, W1, S, e1, fun v1 G1 H1 s1 S1 h1 => ?_⟩
        obtain ⟨x, ex, hd⟩ := h1.dict S1
        refine ⟨x, ex, hd.elim (fun ⟨kvs, z, _⟩ => .inl (.inl ⟨kvs, z⟩)) (fun ⟨a', kvs, _, _, z, r⟩ => .inr ⟨a', kvs, z, fun q hq => (r.keysIn q hq).elim fun d z => ⟨d, z.1, Rp.mono (Sub.of S1.sg) z.2⟩⟩), step3 S1 h1 e2 e3 fun v2 v3 G2 H2 s2 S2 h1' h2' h3' => ?_⟩
        obtain ⟨y, ov, ey, hg, r⟩ := dgn_of S2 h1' h2' hf
        rw [ex] at ey
        cases ey
        refine ⟨ov, hg, ?_⟩
        have c' := c.sub (s1.trans s2)
        cases hd : dget (ents _) _ with
        | none =>
          rw [hd] at r e4
          cases e4
          cases ov with
          | none => exact c' v3 G2 H2 (Same.refl _) S2 h3'
          | some v => exact r.elim
        | some d' =>
          rw [hd] at r e4
          cases e4
          cases ov with
          | none => exact r.elim
          | some v => exact c'.im S2 r
      · cases e4
    · cases e4
end
end PX

namespace PX
open PySem PySem.Spec PyProof.Rows L2

/-! ### changes of the slots -/
def SlFit (K : FW) (B G H : Hp) (v : V) : Sl → Prop
  | .no => True
  | .pl d => Rp K G v d
  | .ow d => ∃ p o, v = .ref p ∧ G p = none ∧ B p = none ∧ H p = some o ∧ RpO K G o d
  | _ => False
section
variable {K : FW} {B Gb G H : Hp} {σ : L2.St} {env : SEnv} {W : List Int} {v : V} {d : PyData}
theorem get_set {α : Type} {l : List α} {i j : Nat} {a b : α} (h : (l.set i a)[j]? = some b) : (j = i ∧ b = a) ∨ (j ≠ i ∧ l[j]? = some b) := by
  by_cases e : j = i
  · subst e
    by_cases hl : j < l.length
    · rw [List.getElem?_set_self hl] at h
      cases h
      exact .inl ⟨rfl, rfl⟩
    · rw [List.getElem?_eq_none (by simpa using hl)] at h
      cases h
  · rw [List.getElem?_set_ne (Ne.symm e)] at h
    exact .inr ⟨e, h⟩
theorem Own.set {i j : Nat} {s : Sl} {p : Addr} (hl : env.length = σ.length) (h : Own (env.set i s) (σ.set i (some v)) j p) : (j = i ∧ s.own = true ∧ v = .ref p) ∨ (j ≠ i ∧ Own env σ j p) := by
  obtain ⟨⟨t, e, o⟩, q⟩ := h
  rcases get_set e with ⟨rfl, rfl⟩ | ⟨ne, e⟩
  · rcases get_set q with ⟨_, q⟩ | ⟨z, _⟩
    · cases q; exact .inl ⟨rfl, o, rfl⟩
    · exact absurd rfl z
  · rcases get_set q with ⟨z, _⟩ | ⟨_, q⟩
    · exact absurd z ne
    · exact .inr ⟨ne, ⟨t, e, o⟩, q⟩
theorem set_at {α : Type} {l : List α} {i : Nat} {a : α} {n : Nat} (h : i < n) (hl : l.length = n) : (l.set i a)[i]? = some a := List.getElem?_set_self (by omega)
theorem Sta.setSl (S : Sta K B Gb G H σ env W) (i : Nat) (s : Sl) (v : V) (hs : SlFit K B G H v s) (hsep : s.own = true → ∀ p, v = .ref p → ∀ j, j ≠ i → ¬ Own env σ j p) :
    Sta K B Gb G H (σ.set i (some v)) (env.set i s) W := by
  have lt_of : ∀ {t : Sl}, (env.set i s)[i]? = some t → i < σ.length := fun {t} e => by
    have := (List.getElem?_eq_some_iff.mp e).1
    rw [List.length_set, S.len] at this
    exact this
  have up : ∀ {j : Nat} {x : Option V}, j ≠ i → σ[j]? = some x → (σ.set i (some v))[j]? = some x := fun ne e => by rw [List.getElem?_set_ne (Ne.symm ne)]; exact e
  exact {
    sg := S.sg
    sb := S.sb
    sgb := S.sgb
    gb := S.gb
    len := by rw [List.length_set, List.length_set]; exact S.len
    pl := fun j d e => by
      rcases get_set e with ⟨rfl, rfl⟩ | ⟨ne, e⟩
      · exact ⟨v, List.getElem?_set_self (lt_of e), hs⟩
      · obtain ⟨x, h1, h2⟩ := S.pl j d e
        exact ⟨x, up ne h1, h2⟩
    ow := fun j d e => by
      rcases get_set e with ⟨rfl, rfl⟩ | ⟨ne, e⟩
      · obtain ⟨p, o, rfl, h1, h2, h3, h4⟩ := hs
        exact ⟨p, o, List.getElem?_set_self (lt_of e), h1, h2, h3, h4⟩
      · obtain ⟨p, o, h0, h1⟩ := S.ow j d e
        exact ⟨p, o, up ne h0, h1⟩
    lk := fun j od o d e => by
      rcases get_set e with ⟨rfl, rfl⟩ | ⟨ne, e⟩
      · exact hs.elim
      · obtain ⟨p, h0, h1⟩ := S.lk j od o d e
        exact ⟨p, up ne h0, h1⟩
    wd := fun j e => by
      rcases get_set e with ⟨rfl, rfl⟩ | ⟨ne, e⟩
      · exact hs.elim
      · obtain ⟨p, l, ns, k, h0, h1⟩ := S.wd j e
        exact ⟨p, l, ns, k, up ne h0, h1⟩
    sc := fun j ns e => by
      rcases get_set e with ⟨rfl, rfl⟩ | ⟨ne, e⟩
      · exact hs.elim
      · obtain ⟨p, h0, h1⟩ := S.sc j ns e
        exact ⟨p, up ne h0, h1⟩
    one := fun j k e1 e2 => by
      rcases get_set e1 with ⟨rfl, z⟩ | ⟨_, e1⟩
      · subst z; exact hs.elim
      · rcases get_set e2 with ⟨rfl, z⟩ | ⟨_, e2⟩
        · subst z; exact hs.elim
        · exact S.one j k e1 e2
    sep := fun j k p h1 h2 => by
      rcases h1.set S.len with ⟨e0, o1, e1⟩ | ⟨n1, h1'⟩
      · rcases h2.set S.len with ⟨e0', _, _⟩ | ⟨n2, h2'⟩
        · rw [e0, e0']
        · subst e0
          exact absurd h2' (hsep o1 p e1 k n2)
      · rcases h2.set S.len with ⟨e0, o2, e2⟩ | ⟨n2, h2'⟩
        · subst e0
          exact absurd h1' (hsep o2 p e2 j n1)
        · exact S.sep j k p h1' h2' }
/-- a slot forgotten -/
theorem Own.wiped {i j : Nat} {s : Sl} {p : Addr} (hs : s.own = false) (h : Own (env.set i s) σ j p) : Own env σ j p := by
  obtain ⟨⟨t, e, o⟩, q⟩ := h
  rcases get_set e with ⟨rfl, rfl⟩ | ⟨ne, e⟩
  · rw [hs] at o; exact absurd o Bool.false_ne_true
  · exact ⟨⟨t, e, o⟩, q⟩
theorem Sta.wipe1 (S : Sta K B Gb G H σ env W) (i : Nat) : Sta K B Gb G H σ (env.set i .no) W where
  sg := S.sg
  sb := S.sb
  sgb := S.sgb
  gb := S.gb
  len := by rw [List.length_set]; exact S.len
  pl := fun j d e => by
    rcases get_set e with ⟨_, z⟩ | ⟨ne, e⟩
    · cases z
    · exact S.pl j d e
  ow := fun j d e => by
    rcases get_set e with ⟨_, z⟩ | ⟨ne, e⟩
    · cases z
    · exact S.ow j d e
  lk := fun j od o d e => by
    rcases get_set e with ⟨_, z⟩ | ⟨ne, e⟩
    · cases z
    · exact S.lk j od o d e
  wd := fun j e => by
    rcases get_set e with ⟨_, z⟩ | ⟨ne, e⟩
    · cases z
    · exact S.wd j e
  sc := fun j ns e => by
    rcases get_set e with ⟨_, z⟩ | ⟨ne, e⟩
    · cases z
    · exact S.sc j ns e
  one := fun j k e1 e2 => by
    rcases get_set e1 with ⟨_, z⟩ | ⟨_, e1⟩
    · cases z
    · rcases get_set e2 with ⟨_, z⟩ | ⟨_, e2⟩
      · cases z
      · exact S.one j k e1 e2
  sep := fun j k p h1 h2 => S.sep j k p (h1.wiped rfl) (h2.wiped rfl)
def wipeE (env : SEnv) : List Nat → SEnv
  | [] => env
  | i :: is => wipeE (env.set i .no) is
theorem Sta.wipeE : ∀ (is : List Nat) {env : SEnv}, Sta K B Gb G H σ env W → Sta K B Gb G H σ (PX.wipeE env is) W
  | [], _, S => S
  | i :: is, _, S => Sta.wipeE is (S.wipe1 i)
/-- an owned thing is changed no more -/
theorem Sta.freezeSl (S : Sta K B Gb G H σ env W) {i : Nat} (e : env[i]? = some (.ow d)) : ∃ G' v, Same G G' ∧ Sta K B Gb G' H σ (env.set i (.pl d)) W ∧ σ[i]? = some (some v) ∧ Rp K G' v d := by
  obtain ⟨p, o, h1, h2, h3, h4, h5⟩ := S.ow i d e
  have S1 := S.wipe1 i
  have no : ∀ j, ¬ Own (env.set i .no) σ j p := fun j ho => by
    have h := ho.wiped rfl
    have : j = i := S.sep j i p h ⟨⟨_, e, rfl⟩, h1⟩
    subst this
    obtain ⟨⟨t, e', o'⟩, _⟩ := ho
    rcases get_set e' with ⟨_, z⟩ | ⟨ne, _⟩
    · cases z; exact absurd o' Bool.false_ne_true
    · exact ne rfl
  have S2 := S1.freeze h4 h2 (.inl h3) no
  have r : Rp K (upd G p o) (.ref p) d := (h5.mono (Sub.of (same_upd h2))).rp upd_same
  refine ⟨upd G p o, .ref p, same_upd h2, ?_, h1, r⟩
  have hl : i < σ.length := (List.getElem?_eq_some_iff.mp h1).1
  have S3 := S2.setSl i (.pl d) (.ref p) r (fun z => absurd z Bool.false_ne_true)
  have e1 : σ.set i (some (.ref p)) = σ := by
    refine List.ext_getElem? fun j => ?_
    by_cases ne : j = i
    · subst ne; rw [List.getElem?_set_self hl, h1]
    · rw [List.getElem?_set_ne (Ne.symm ne)]
  rw [e1, List.set_set] at S3
  exact S3
/-- an owned thing is changed -/
theorem Sta.change (S : Sta K B Gb G H σ env W) {i : Nat} {p : Addr} {o : HO} {d' : PyData} (e : env[i]? = some (.ow d)) (hp : σ[i]? = some (some (V.ref p))) (r : RpO K G o d') :
    Sta K B Gb G (upd H p o) σ (env.set i (.ow d')) W := by
  obtain ⟨p', o', h1, h2, h3, h4, h5⟩ := S.ow i d e
  rw [hp] at h1
  cases h1
  have me : Own env σ i p := ⟨⟨_, e, rfl⟩, hp⟩
  have keep : ∀ (X : Hp), X p = none → Same X H → Same X (upd H p o) := fun X hx s a u q => by
    rw [upd_ne (ne_of_none q hx)]
    exact s _ _ q
  have ow' : ∀ {j q}, Own (env.set i (.ow d')) σ j q → Own env σ j q := fun {j q} ⟨⟨t, e1, o1⟩, q1⟩ => by
    rcases get_set e1 with ⟨rfl, rfl⟩ | ⟨ne, e1⟩
    · exact ⟨⟨_, e, rfl⟩, q1⟩
    · exact ⟨⟨t, e1, o1⟩, q1⟩
  have other : ∀ {j q}, j ≠ i → Own env σ j q → q ≠ p := fun ne h z => ne (S.sep _ i p (z ▸ h) me)
  exact {
    sg := keep G h2 S.sg
    sb := keep B h3 S.sb
    sgb := S.sgb
    gb := S.gb
    len := by rw [List.length_set]; exact S.len
    pl := fun j d e => by
      rcases get_set e with ⟨_, z⟩ | ⟨ne, e⟩
      · cases z
      · exact S.pl j d e
    ow := fun j d e' => by
      rcases get_set e' with ⟨rfl, z⟩ | ⟨ne, e'⟩
      · cases z
        exact ⟨p, o, hp, h2, h3, upd_same, r⟩
      · obtain ⟨q, u, a1, a2, a3, a4, a5⟩ := S.ow j d e'
        exact ⟨q, u, a1, a2, a3, by rw [upd_ne (other ne ⟨⟨_, e', rfl⟩, a1⟩)]; exact a4, a5⟩
    lk := fun j od o d e' => by
      rcases get_set e' with ⟨rfl, z⟩ | ⟨ne, e'⟩
      · cases z
      · obtain ⟨q, a1, a2, a3, a4, a5⟩ := S.lk j od o d e'
        exact ⟨q, a1, a2, a3, by rw [upd_ne (other ne ⟨⟨_, e', rfl⟩, a1⟩)]; exact a4, a5⟩
    wd := fun j e' => by
      rcases get_set e' with ⟨rfl, z⟩ | ⟨ne, e'⟩
      · cases z
      · obtain ⟨q, l, ns, k, a1, a2, a3, a4, a5⟩ := S.wd j e'
        exact ⟨q, l, ns, k, a1, a2, a3, by rw [upd_ne (other ne ⟨⟨_, e', rfl⟩, a1⟩)]; exact a4, a5⟩
    sc := fun j ns e => by
      rcases get_set e with ⟨_, z⟩ | ⟨ne, e⟩
      · cases z
      · exact S.sc j ns e
    one := fun j k e1 e2 => by
      rcases get_set e1 with ⟨_, z⟩ | ⟨_, e1⟩
      · cases z
      · rcases get_set e2 with ⟨_, z⟩ | ⟨_, e2⟩
        · cases z
        · exact S.one j k e1 e2
    sep := fun j k q h1 h2 => S.sep j k q (ow' h1) (ow' h2) }
end

/-! ### statements -/
inductive Ou where
  | nx (env : SEnv) (W : List Int) | rt (d : PyData) (W : List Int) | bk (env : SEnv) (W : List Int) | ct (env : SEnv) (W : List Int)
abbrev Sx := SEnv → List Int → Option Ou
/-- a value handed back -/
structure Fin (K : FW) (B Gb G H : Hp) (v : V) (d : PyData) : Prop where
  sg : Same G H
  sb : Same B H
  sgb : Same Gb G
  gb : ∀ a o, B a = some o → G a ≠ none → Gb a ≠ none ∨ ∃ xs, o = .tup xs
  rp : Rp K G v d
def Nx (K : FW) (B Gb G : Hp) (env : SEnv) (W : List Int) (P : L2.St → Hp → Prop) : Prop := ∀ σ G' H', Same G G' → Sta K B Gb G' H' σ env W → P σ H'
def post (K : FW) (B Gb G : Hp) (D : Ends) : Ou → Prop
  | .nx env W => Nx K B Gb G env W D.nx
  | .bk env W => Nx K B Gb G env W D.bk
  | .ct env W => Nx K B Gb G env W D.ct
  | .rt d _ => ∀ v G' H', Same G G' → Fin K B Gb G' H' v d → D.rt v H'
def tS (K : FW) (g : Sx) : TS := fun D σ H => ∃ B Gb G env W o, Sta K B Gb G H σ env W ∧ g env W = some o ∧ post K B Gb G D o
def PSX (X : Cx) (st : Stmt) (g : Sx) : Prop := PS X st (tS X.KW g)
def PSsX (X : Cx) (st : List Stmt) (g : Sx) : Prop := PSs X st (tS X.KW g)
theorem Nx.sub {K : FW} {B Gb G G1 : Hp} {env : SEnv} {W : List Int} {P : L2.St → Hp → Prop} (h : Nx K B Gb G env W P) (s : Same G G1) : Nx K B Gb G1 env W P := fun σ G' H' s' S => h σ G' H' (s.trans s') S
theorem post.sub {K : FW} {B Gb G G1 : Hp} {D : Ends} {o : Ou} (h : post K B Gb G D o) (s : Same G G1) : post K B Gb G1 D o := by
  cases o with
  | nx env W => exact Nx.sub h s
  | bk env W => exact Nx.sub h s
  | ct env W => exact Nx.sub h s
  | rt d W => exact fun v G' H' s' f => h v G' H' (s.trans s') f
def sNil : Sx := fun env W => some (.nx env W)
def sSeq (f g : Sx) : Sx := fun env W => match f env W with
  | some (.nx e' W') => g e' W'
  | r => r
def sIf (t : Ct) (f g : Sx) : Sx := fun env W => (t env W).bind fun r => if r.1 then f env r.2 else g env r.2
def sRet (f : Ex) : Sx := fun env W => (f env W).map fun r => .rt r.1 r.2.2
def sRetN : Sx := fun env W => some (.rt .none W)
def sBk : Sx := fun env W => some (.bk env W)
def sWipe (is : List Nat) (g : Sx) : Sx := fun env W => g (wipeE env is) W
/-- the slot's thing is changed no more -/
def sFrz (i : Nat) (g : Sx) : Sx := fun env W => match env[i]? with
  | some (.ow d) => g (env.set i (.pl d)) W
  | _ => g env W
/-- x = e -/
def sSet (i : Nat) (own : Bool) (f : Ex) : Sx := fun env W => (f env W).bind fun r => match r.2.1 with
  | .fr => some (.nx (env.set i (if own then .ow r.1 else .pl r.1)) r.2.2)
  | .im => some (.nx (env.set i (.pl r.1)) r.2.2)
  | .pk j => match env[j]? with
    | some (.ow _) => some (.nx ((env.set j (.pl r.1)).set i (.pl r.1)) r.2.2)
    | _ => none
section
variable {X : Cx} {st : Stmt} {rest : List Stmt} {e a b c : Expr} {f : Ex} {g h : Sx} {t : Ct} {pos : Pos}
theorem pssx_nil : PSsX X [] sNil := PSs.imp pss_nil fun D σ H q => by
  obtain ⟨B, Gb, G, env, W, o, S, e, p⟩ := q
  cases e
  exact p σ G H (Same.refl _) S
theorem pssx_cons (h1 : PSX X st g) (h2 : PSsX X rest h) : PSsX X (st :: rest) (sSeq g h) := PSs.imp (pss_cons h1 h2) fun D σ H q => by
  obtain ⟨B, Gb, G, env, W, o, S, e, p⟩ := q
  unfold sSeq at e
  split at e
  · rename_i e' W' e1
    refine ⟨B, Gb, G, env, W, _, S, e1, fun σ1 G1 H1 s1 S1 => ?_⟩
    exact ⟨B, Gb, G1, e', W', o, S1, e, p.sub s1⟩
  · rename_i r hn
    cases o with
    | nx env' W' => exact absurd e (hn env' W')
    | bk env' W' => exact ⟨B, Gb, G, env, W, _, S, e, p⟩
    | ct env' W' => exact ⟨B, Gb, G, env, W, _, S, e, p⟩
    | rt d W' => exact ⟨B, Gb, G, env, W, _, S, e, p⟩
theorem pssx_one (h1 : PSX X st g) : PSsX X [st] g := PSs.imp (pss_one h1) fun D σ H q => q
theorem pssx_wipe (is : List Nat) (h1 : PSsX X rest g) : PSsX X rest (sWipe is g) := PSs.imp h1 fun D σ H q => by
  obtain ⟨B, Gb, G, env, W, o, S, e, p⟩ := q
  exact ⟨B, Gb, G, _, W, o, Sta.wipeE is S, e, p⟩
theorem pssx_frz (i : Nat) (h1 : PSsX X rest g) : PSsX X rest (sFrz i g) := PSs.imp h1 fun D σ H q => by
  obtain ⟨B, Gb, G, env, W, o, S, e, p⟩ := q
  unfold sFrz at e
  split at e
  · rename_i d ed
    obtain ⟨G1, v, s1, S1, _⟩ := S.freezeSl ed
    exact ⟨B, Gb, G1, _, W, o, S1, e, p.sub s1⟩
  · exact ⟨B, Gb, G, _, W, o, S, e, p⟩
theorem psx_if {u v : List Stmt} (hc : PTX X c t) (ha : PSsX X u g) (hb : PSsX X v h) : PSX X (.If c u v pos) (sIf t g h) := PS.imp (ps_if hc ha hb) fun D σ H q => by
  obtain ⟨B, Gb, G, env, W, o, S, e, p⟩ := q
  unfold sIf at e
  rw [Option.bind_eq_some_iff] at e
  obtain ⟨⟨b1, W1⟩, e1, e2⟩ := e
  refine ⟨B, Gb, G, env, W, b1, W1, S, e1, fun G1 H1 s1 S1 => ?_⟩
  dsimp only at e2
  split at e2
  · rename_i hb1
    rw [if_pos hb1]
    exact ⟨B, Gb, G1, env, W1, o, S1, e2, p.sub s1⟩
  · rename_i hb1
    rw [if_neg hb1]
    exact ⟨B, Gb, G1, env, W1, o, S1, e2, p.sub s1⟩
theorem Sta.fin {K : FW} {B Gb G H : Hp} {σ : L2.St} {env : SEnv} {W : List Int} {v : V} {d : PyData} {k : Kd} (S : Sta K B Gb G H σ env W) (h : VOk K B G H σ env v d k) (hk : ∀ i, k = .pk i → ∃ d, env[i]? = some (.ow d)) : ∃ G', Same G G' ∧ Fin K B Gb G' H v d := by
  cases k with
  | im => exact ⟨G, Same.refl _, ⟨S.sg, S.sb, S.sgb, S.gb, h⟩⟩
  | fr =>
    obtain ⟨G1, s1, S1, r, _⟩ := freeze1 S h rfl
    exact ⟨G1, s1, ⟨S1.sg, S1.sb, S1.sgb, S1.gb, r⟩⟩
  | pk i =>
    obtain ⟨d', e⟩ := hk i rfl
    obtain ⟨h1, h2⟩ := h
    have e2 : d' = d := by
      rcases h2 with h2 | ⟨_, _, h2⟩
      · rw [e] at h2; cases h2; rfl
      · rw [e] at h2; cases h2
    subst e2
    obtain ⟨G1, v', s1, S1, hv, r⟩ := S.freezeSl e
    rw [h1] at hv
    cases hv
    exact ⟨G1, s1, ⟨S1.sg, S1.sb, S1.sgb, S1.gb, r⟩⟩
def sRetK (f : Ex) : Sx := fun env W => (f env W).bind fun r => match r.2.1 with
  | .pk i => (match env[i]? with | some (.ow _) => some (.rt r.1 r.2.2) | _ => none)
  | _ => some (.rt r.1 r.2.2)
theorem psx_ret (h : PX X e f) : PSX X (.Return (some e) pos) (sRetK f) := PS.imp (ps_ret h) fun D σ H q => by
  obtain ⟨B, Gb, G, env, W, o, S, e, p⟩ := q
  unfold sRetK at e
  rw [Option.bind_eq_some_iff] at e
  obtain ⟨⟨d, k, W1⟩, e1, e2⟩ := e
  dsimp only at e2
  refine ⟨B, Gb, G, env, W, d, k, W1, S, e1, fun v G1 H1 s1 S1 h1 => ?_⟩
  have fin : (∀ i, k = .pk i → ∃ d, env[i]? = some (.ow d)) → o = .rt d W1 → D.rt v H1 := fun hk eo => by
    subst eo
    obtain ⟨G2, s2, F⟩ := S1.fin h1 hk
    exact p v G2 H1 (s1.trans s2) F
  split at e2
  · rename_i i
    split at e2
    · rename_i d' ed
      cases e2
      exact fin (fun j ej => by cases ej; exact ⟨_, ed⟩) rfl
    · cases e2
  · rename_i hn
    cases e2
    exact fin (fun j ej => absurd ej (hn j)) rfl
theorem psx_retN : PSX X (.Return none pos) sRetN := PS.imp ps_retN fun D σ H q => by
  obtain ⟨B, Gb, G, env, W, o, S, e, p⟩ := q
  cases e
  exact p .non G H (Same.refl _) ⟨S.sg, S.sb, S.sgb, S.gb, .non⟩
theorem psx_bk : PSX X (.Break pos) sBk := PS.imp ps_break fun D σ H q => by
  obtain ⟨B, Gb, G, env, W, o, S, e, p⟩ := q
  cases e
  exact p σ G H (Same.refl _) S
theorem psx_set {i : Nat} {own : Bool} {x : Str} {pos' : Pos} (hN : X.N.Nodup) (he : PX X e f) (hi : X.N[i]? = some x := by rfl) (hx : Loc X.env.scope x := by first | exact .inl rfl | exact .inr rfl) (hs : swapsWith e (some (.Name x pos')) pos.line X.env = pure false := by rfl)
    (hf : X.fn x = true ∨ X.env.scope.names.lookup x = some .local := by first | exact .inl rfl | exact .inr rfl) : PSX X (.Assign [.Name x pos'] e pos) (sSet i own f) := PS.imp (ps_set hN hi hx he hs hf) fun D σ H q => by
  obtain ⟨B, Gb, G, env, W, o, S, e, p⟩ := q
  unfold sSet at e
  rw [Option.bind_eq_some_iff] at e
  obtain ⟨⟨d, k, W1⟩, e1, e2⟩ := e
  dsimp only at e2
  refine ⟨B, Gb, G, env, W, d, k, W1, S, e1, fun v G1 H1 s1 S1 h1 => ?_⟩
  show D.nx (σ.set i (some v)) H1
  split at e2
  · cases e2
    cases own with
    | true =>
      obtain ⟨q, o, rfl, a1, a2, a3, a4, a5⟩ := h1
      exact p _ G1 H1 s1 (S1.setSl i (.ow d) (.ref q) ⟨q, o, rfl, a1, a2, a3, a4⟩ fun _ q' e' j _ => by cases e'; exact a5 j)
    | false =>
      obtain ⟨G2, s2, S2, r, _⟩ := freeze1 S1 h1 rfl
      exact p _ G2 H1 (s1.trans s2) (S2.setSl i (.pl d) v r fun z => absurd z Bool.false_ne_true)
  · cases e2
    exact p _ G1 H1 s1 (S1.setSl i (.pl d) v h1 fun z => absurd z Bool.false_ne_true)
  · rename_i j
    split at e2
    · rename_i d' ed
      cases e2
      obtain ⟨h1, h2⟩ := h1
      have e2 : d' = d := by
        rcases h2 with h2 | ⟨_, _, h2⟩
        · rw [ed] at h2; cases h2; rfl
        · rw [ed] at h2; cases h2
      subst e2
      obtain ⟨G2, v', s2, S2, hv, r⟩ := S1.freezeSl ed
      rw [h1] at hv
      cases hv
      exact p _ G2 H1 (s1.trans s2) (S2.setSl i (.pl d') v r fun z => absurd z Bool.false_ne_true)
    · cases e2
end
end PX

namespace PX
open PySem PySem.Spec PyProof.Rows L2

/-! ### targets -/
abbrev Tg := PyData → SEnv → Option SEnv
/-- the slots outside vs stay -/
def tG (K : FW) (t : Tg) (vs : List Nat) : TG := fun v σ H Q => ∃ B Gb G env W d env', Sta K B Gb G H σ env W ∧ Rp K G v d ∧ t d env = some env' ∧ ∀ σ', wipe σ' vs = wipe σ vs → Sta K B Gb G H σ' env' W → Q σ' H
def tGs (K : FW) (t : List PyData → SEnv → Option SEnv) (vs : List Nat) : TGs := fun xs σ H Q => ∃ B Gb G env W ds env', Sta K B Gb G H σ env W ∧ RpL K G xs ds ∧ t ds env = some env' ∧ ∀ σ', wipe σ' vs = wipe σ vs → Sta K B Gb G H σ' env' W → Q σ' H
theorem wipeE_at (env : SEnv) : ∀ (vs : List Nat) (j : Nat), (wipeE env vs)[j]? = if j ∈ vs then env[j]?.map (fun _ => Sl.no) else env[j]?
  | [], j => by simp [wipeE]
  | v :: vs, j => by
    rw [wipeE, wipeE_at (env.set v .no) vs j, List.getElem?_set]
    by_cases h : v = j
    · subst h
      by_cases hl : v < env.length
      · simp [hl]
      · simp [hl]
    · have h2 : ¬ j = v := fun e => h e.symm
      simp [h, h2]
theorem wipeE_set {env : SEnv} {i : Nat} {s : Sl} {vs : List Nat} (h : i ∈ vs) : wipeE (env.set i s) vs = wipeE env vs := by
  refine List.ext_getElem? fun j => ?_
  rw [wipeE_at, wipeE_at]
  by_cases hj : j ∈ vs
  · rw [if_pos hj, if_pos hj, List.getElem?_set]
    by_cases e : i = j
    · subst e
      by_cases hl : i < env.length
      · simp [hl]
      · simp [hl]
    · simp [e]
  · rw [if_neg hj, if_neg hj, List.getElem?_set_ne (fun e : i = j => hj (e ▸ h))]
theorem wipe_at (σ : L2.St) : ∀ (vs : List Nat) (j : Nat), (wipe σ vs)[j]? = if j ∈ vs then σ[j]?.map (fun _ => none) else σ[j]?
  | [], j => by simp [wipe]
  | v :: vs, j => by
    rw [wipe, List.getElem?_set, wipe_length, wipe_at σ vs j]
    by_cases h : v = j
    · subst h
      by_cases hl : v < σ.length
      · simp [hl]
      · simp [hl]
    · have h2 : ¬ j = v := fun e => h e.symm
      simp [h, h2]
theorem wipe_set {σ : L2.St} {i : Nat} {s : Option V} {vs : List Nat} (h : i ∈ vs) : wipe (σ.set i s) vs = wipe σ vs := by
  refine List.ext_getElem? fun j => ?_
  rw [wipe_at, wipe_at]
  by_cases hj : j ∈ vs
  · rw [if_pos hj, if_pos hj, List.getElem?_set]
    by_cases e : i = j
    · subst e
      by_cases hl : i < σ.length
      · simp [hl]
      · simp [hl]
    · simp [e]
  · rw [if_neg hj, if_neg hj, List.getElem?_set_ne (fun e : i = j => hj (e ▸ h))]
structure PGX (X : Cx) (e : Expr) (t : Tg) (vs : List Nat) : Prop where
  pg : PG X e (tG X.KW t vs)
  ok : ∀ d env env', t d env = some env' → wipeE env' vs = wipeE env vs
structure PGsX (X : Cx) (es : List Expr) (t : List PyData → SEnv → Option SEnv) (vs : List Nat) : Prop where
  pg : PGs X es (tGs X.KW t vs)
  ok : ∀ d env env', t d env = some env' → wipeE env' vs = wipeE env vs
def gN (i : Nat) : Tg := fun d env => some (env.set i (.pl d))
def gsNil : List PyData → SEnv → Option SEnv
  | [], env => some env
  | _, _ => none
def gsCons (t : Tg) (u : List PyData → SEnv → Option SEnv) : List PyData → SEnv → Option SEnv
  | d :: ds, env => (t d env).bind fun e => u ds e
  | _, _ => none
def gT (n : Nat) (u : List PyData → SEnv → Option SEnv) : Tg := fun d env => match d with
  | .tuple ds => if ds.length = n then u ds env else none
  | _ => none
theorem PG.imp {X : Cx} {e : Expr} {t t' : TG} (h : PG X e t) (i : ∀ v σ H Q, t' v σ H Q → t v σ H Q) : PG X e t' := ⟨fun pins s σ H v u Q I r q => h.run pins s σ H v u Q I r (i _ _ _ _ q)⟩
theorem PGs.imp {X : Cx} {e : List Expr} {t t' : TGs} (h : PGs X e t) (i : ∀ v σ H Q, t' v σ H Q → t v σ H Q) : PGs X e t' := ⟨fun pins s σ H v u Q I r q => h.run pins s σ H v u Q I r (i _ _ _ _ q)⟩
section
variable {X : Cx} {e a b c : Expr} {es : List Expr} {t : Tg} {u : List PyData → SEnv → Option SEnv} {pos : Pos} {f g h : Ex}
theorem pgx_name (i : Nat) {x : Str} {pos : Pos} {vs : List Nat} (hN : X.N.Nodup) (hi : X.N[i]? = some x := by rfl) (hx : Loc X.env.scope x := by first | exact .inl rfl | exact .inr rfl) (hf : X.fn x = true ∨ X.env.scope.names.lookup x = some .local := by first | exact .inl rfl | exact .inr rfl) (hv : i ∈ vs := by decide) : PGX X (.Name x pos) (gN i) vs where
  pg := PG.imp (pg_name hN hi hx hf) fun v σ H Q q => by
    obtain ⟨B, Gb, G, env, W, d, env', S, r, e, c⟩ := q
    cases e
    exact c _ (wipe_set hv) (S.setSl i (.pl d) v r fun z => absurd z Bool.false_ne_true)
  ok := fun d env env' e => by
    cases e
    exact wipeE_set hv
theorem pgsx_nil {vs : List Nat} : PGsX X [] gsNil vs where
  pg := PGs.imp pgs_nil fun xs σ H Q q => by
    obtain ⟨B, Gb, G, env, W, ds, env', S, r, e, c⟩ := q
    cases r with
    | nil =>
      cases e
      exact ⟨rfl, c σ rfl S⟩
    | cons a b => cases e
  ok := fun d env env' e => by
    cases d with
    | nil => cases e; rfl
    | cons a b => cases e
theorem pgsx_cons {vs : List Nat} (h1 : PGX X e t vs) (h2 : PGsX X es u vs) (hs : (assignEach (e :: es) X.env).map (·.2) = assign e X.env :: (assignEach es X.env).map (·.2) := by rfl) : PGsX X (e :: es) (gsCons t u) vs where
  pg := PGs.imp (pgs_cons h1.pg h2.pg hs) fun xs σ H Q q => by
    obtain ⟨B, Gb, G, env, W, ds, env', S, r, e, c⟩ := q
    cases r with
    | nil => cases e
    | cons a b =>
      rw [gsCons, Option.bind_eq_some_iff] at e
      obtain ⟨e1, e2, e3⟩ := e
      exact ⟨_, _, rfl, B, Gb, G, env, W, _, e1, S, a, e2, fun σ1 w1 S1 => ⟨B, Gb, G, e1, W, _, env', S1, b, e3, fun σ2 w2 S2 => c σ2 (w2.trans w1) S2⟩⟩
  ok := fun d env env' e => by
    cases d with
    | nil => cases e
    | cons a b =>
      rw [gsCons, Option.bind_eq_some_iff] at e
      obtain ⟨e1, e2, e3⟩ := e
      exact (h2.ok _ _ _ e3).trans (h1.ok _ _ _ e2)
theorem pgx_tup {k n : Nat} {vs : List Nat} (hc : X.calm = true) (h : PGsX X es u vs) (hn : (assignEach es X.env).length = n := by rfl) (hst : (assignEach es X.env).findIdx? (·.1) = none := by rfl) : PGX X (.Tuple es k pos) (gT n u) vs where
  pg := PG.imp (pg_tup hc h.pg hn hst) fun v σ H Q q => by
    obtain ⟨B, Gb, G, env, W, d, env', S, r, e, c⟩ := q
    unfold gT at e
    split at e
    · split at e
      · rename_i hl
        cases r with
        | tup a b => exact ⟨_, _, rfl, (Sub.of S.sg).sqT a.sqT, b.length.trans hl, B, Gb, G, env, W, _, env', S, b, e, c⟩
      · cases e
    · cases e
  ok := fun d env env' e => by
    unfold gT at e
    split at e
    · split at e
      · exact h.ok _ _ _ e
      · cases e
    · cases e
/-- target = e, e a datum that is no thing of this def's own -/
def sAsg (f : Ex) (t : Tg) : Sx := fun env W => (f env W).bind fun r => match r.2.1 with
  | .pk _ => none
  | _ => (t r.1 env).map fun e => .nx e r.2.2
theorem psx_asg {vs : List Nat} (he : PX X e f) (hg : PGX X a t vs) (hs : swapsWithSole [a] e pos.line X.env = pure false := by rfl) (hw : swappedStores [a] e X.env = pure none := by rfl)
    (h1 : (assignEach [a] X.env).map (·.2) = [assign a X.env] := by rfl) : PSX X (.Assign [a] e pos) (sAsg f t) := PS.imp (ps_asg he hg.pg hs hw h1) fun D σ H q => by
  obtain ⟨B, Gb, G, env, W, o, S, e, p⟩ := q
  unfold sAsg at e
  rw [Option.bind_eq_some_iff] at e
  obtain ⟨⟨d, k, W1⟩, e1, e2⟩ := e
  dsimp only at e2
  have fin : esc k = true → (t d env).map (fun e => Ou.nx e W1) = some o → tE X.KW f σ H (fun x H1 => tG X.KW t vs x σ H1 D.nx) := fun hk e3 => by
    rw [Option.map_eq_some_iff] at e3
    obtain ⟨env', e4, e5⟩ := e3
    cases e5
    refine ⟨B, Gb, G, env, W, d, k, W1, S, e1, fun v G1 H1 s1 S1 h1 => ?_⟩
    obtain ⟨G2, s2, S2, r, _⟩ := freeze1 S1 h1 hk
    exact ⟨B, Gb, G2, env, W1, d, env', S2, r, e4, fun σ' _ S3 => p σ' G2 H1 (s1.trans s2) S3⟩
  split at e2
  · cases e2
  · rename_i hn
    refine fin ?_ e2
    cases k with
    | pk i => exact absurd rfl (hn i)
    | im => rfl
    | fr => rfl
/-- a, b = e, f: two names -/
def slOf (own : Bool) (d : PyData) : Kd → Option Sl
  | .im => some (.pl d)
  | .fr => some (if own then .ow d else .pl d)
  | .pk _ => none
def sPar (i : Nat) (oi : Bool) (j : Nat) (oj : Bool) (f g : Ex) : Sx := fun env W => (f env W).bind fun r => (g env r.2.2).bind fun q => (slOf oi r.1 r.2.1).bind fun s => (slOf oj q.1 q.2.1).map fun z =>
  .nx ((env.set i s).set j z) q.2.2
theorem slOf_fit {K : FW} {B Gb G H : Hp} {σ : L2.St} {env : SEnv} {W : List Int} {v : V} {d : PyData} {k : Kd} {own : Bool} {s : Sl} (S : Sta K B Gb G H σ env W) (h : VOk K B G H σ env v d k) (e : slOf own d k = some s) :
    ∃ G', Same G G' ∧ Sta K B Gb G' H σ env W ∧ SlFit K B G' H v s ∧ (s.own = true → ∀ p, v = .ref p → ∀ j, ¬ Own env σ j p) ∧ (∀ v' d' k', VOk K B G H σ env v' d' k' → (k = .fr → k' = .fr → v' ≠ v) → VOk K B G' H σ env v' d' k') ∧ (s.own = true → k = .fr) := by
  cases k with
  | im => cases e; exact ⟨G, Same.refl _, S, h, fun z => absurd z Bool.false_ne_true, fun _ _ _ h _ => h, fun z => absurd z Bool.false_ne_true⟩
  | pk i => cases e
  | fr =>
    cases own with
    | true =>
      cases e
      obtain ⟨p, o, rfl, a1, a2, a3, a4, a5⟩ := h
      exact ⟨G, Same.refl _, S, ⟨p, o, rfl, a1, a2, a3, a4⟩, fun _ q e j => by cases e; exact a5 j, fun _ _ _ h _ => h, fun _ => rfl⟩
    | false =>
      cases e
      obtain ⟨G1, s1, S1, r, f1⟩ := freeze1 S h rfl
      exact ⟨G1, s1, S1, r, fun z => absurd z Bool.false_ne_true, f1, fun z => absurd z Bool.false_ne_true⟩
theorem SlFit.mono {K : FW} {B G G' H : Hp} {v : V} {s : Sl} (h : SlFit K B G H v s) (g : Same G G') (hn : ∀ p, v = .ref p → s.own = true → G' p = none) : SlFit K B G' H v s := by
  cases s with
  | no => trivial
  | pl d => exact Rp.mono (Sub.of g) h
  | ow d =>
    obtain ⟨p, o, rfl, h1, h2, h3, h4⟩ := h
    exact ⟨p, o, rfl, hn p rfl rfl, h2, h3, h4.mono (Sub.of g)⟩
  | lk od o d => exact (show False from h).elim
  | wd => exact h
  | sc ns => exact h
theorem psx_par {i j : Nat} {oi oj : Bool} {x y : Str} {px py pt : Pos} {kt k2 : Nat} {pt2 : Pos} (hc : X.calm = true) (hN : X.N.Nodup) (ha : PX X a f) (hb : PX X b g) (hij : i ≠ j := by decide) (hi : X.N[i]? = some x := by rfl) (hj : X.N[j]? = some y := by rfl)
    (hx : X.env.scope.names.lookup x = some .local := by rfl) (hy : X.env.scope.names.lookup y = some .local := by rfl) (hs2 : starEach [a, b] X.env = (false, eval a X.env) :: starEach [b] X.env := by rfl) (hs1 : starEach [b] X.env = (false, eval b X.env) :: starEach [] X.env := by rfl)
    (hw : swappedStores [.Tuple [.Name x px, .Name y py] kt pt] (.Tuple [a, b] k2 pt2) X.env = pure (some [x, y]) := by rfl) (hss : swapsWithSole [.Tuple [.Name x px, .Name y py] kt pt] (.Tuple [a, b] k2 pt2) pos.line X.env = pure false := by rfl) :
    PSX X (.Assign [.Tuple [.Name x px, .Name y py] kt pt] (.Tuple [a, b] k2 pt2) pos) (sPar i oi j oj f g) := PS.imp (ps_par hc hN hi hj hij hx hy (pxs_cons ha (pxs_cons hb pxs_nil hs1) hs2) hw hss) fun D σ H q => by
  obtain ⟨B, Gb, G, env, W, o, S, e, p⟩ := q
  unfold sPar at e
  rw [Option.bind_eq_some_iff] at e
  obtain ⟨⟨d1, k1, W1⟩, e1, e⟩ := e
  rw [Option.bind_eq_some_iff] at e
  obtain ⟨⟨d2, k2, W2⟩, e2, e⟩ := e
  rw [Option.bind_eq_some_iff] at e
  obtain ⟨s1, e3, e⟩ := e
  rw [Option.map_eq_some_iff] at e
  obtain ⟨s2, e4, e⟩ := e
  cases e
  dsimp only at e2 e3 e4
  refine ⟨B, Gb, G, env, W, [(d1, k1), (d2, k2)], W2, S, ?_, fun vs G1 H1 t1 S1 p1 => ?_⟩
  · simp only [cArgs, e1, e2, Option.bind_some, Option.map_some]
  · match vs, p1 with
    | [v1, v2], p1 =>
      obtain ⟨h1, ap, h2, _⟩ := p1
      have ap' : k1 = .fr → k2 = .fr → v2 ≠ v1 := fun z1 z2 => ap z1 (v2, k2) (by simp) z2
      refine ⟨v1, v2, rfl, ?_⟩
      obtain ⟨G2, t2, S2, f2, o2, m2, w2⟩ := slOf_fit S1 h1 e3
      have h2' := m2 _ _ _ h2 ap'
      obtain ⟨G3, t3, S3, f3, o3, m3, w3⟩ := slOf_fit S2 h2' e4
      have f2' : SlFit X.KW B G3 H1 v1 s1 := f2.mono t3 fun q ev os => by
        -- an owned new thing stays unfrozen
        have hv := m2 _ _ _ h1
        have k1fr := w2 os
        subst k1fr
        obtain ⟨q', o', ev', a1, a2, a3, a4, a5⟩ := h1
        rw [ev] at ev'
        cases ev'
        have hg2 : G2 q = none := by
          cases s1 with
          | ow d =>
            obtain ⟨q2, _, ev2, b1, _⟩ := f2
            rw [ev] at ev2; cases ev2
            exact b1
          | no => exact absurd os Bool.false_ne_true
          | pl d => exact absurd os Bool.false_ne_true
          | lk od o d => exact (show False from f2).elim
          | wd => exact f2.elim
          | sc ns => exact absurd os Bool.false_ne_true
        have := m3 (.ref q) d1 .fr ⟨q, o', rfl, hg2, a2, a3, a4.mono (Sub.of t2), a5⟩ fun z1 z2 z3 => ap' rfl z1 (by rw [ev]; exact z3.symm)
        obtain ⟨_, _, ev3, b1, _⟩ := this
        cases ev3
        exact b1
      have S4 := S3.setSl i s1 v1 f2' fun os q ev j' _ => o2 os q ev j'
      have f3' : SlFit X.KW B G3 H1 v2 s2 := f3
      have S5 := S4.setSl j s2 v2 f3' fun os q ev j' nj => fun ho => by
        rcases ho.set S3.len with ⟨e0, os1, ev1⟩ | ⟨_, ho⟩
        · have z1 := w2 os1
          have z2 := w3 os
          exact ap' z1 z2 (by rw [ev, ev1])
        · exact o3 os q ev j' ho
      exact p _ G3 H1 ((t1.trans t2).trans t3) S5
end
end PX

namespace PX
open PySem PySem.Spec PyProof.Rows L2

/-! ### stores into a thing of this def's own -/
def dputE (es : List (PyData × PyData)) (k v : PyData) : List (PyData × PyData) := match isT es, es with
  | true, e :: r => e :: dput r k v
  | _, _ => dput es k v
def sDPut (i : Nat) (fk fv : Ex) : Sx := fun env W => (fv env W).bind fun v => match env[i]? with
  | some (.ow (.dict es)) => (fk env v.2.2).bind fun k => match k.2.1 with
    | .im => if esc v.2.1 = true ∧ keyFit es k.1 = true ∧ es.length < 16777216 then some (.nx (env.set i (.ow (.dict (dputE es k.1 v.1)))) k.2.2) else none
    | _ => none
  | _ => none
theorem keyOf_ok {K : FW} {G : Hp} {v : V} {j : Key} (h : Rp K G v (keyD j)) : keyOk j = true ∧ v = kV j := by
  cases j with
  | inl i => cases h; exact ⟨rfl, rfl⟩
  | inr s => cases h; exact ⟨by assumption, rfl⟩
/-- the put, by values -/
theorem dput_of {K : FW} {G H : Hp} {a : Addr} {o : HO} {es : List (PyData × PyData)} {y v : V} {kd vd : PyData} (sg : Same G H) (ha : H a = some o) (ro : RpO K G o (.dict es)) (ry : Rp K G y kd) (rv : Rp K G v vd) (hf : keyFit es kd = true) (hn : isT es = false) (hl : es.length < 16777216) :
    ∃ o', DPut H a y v (upd H a o') ∧ RpO K G o' (.dict (dputE es kd vd)) := by
  unfold keyFit at hf
  cases o with
  | dK kvs =>
    have ro' : RpD K G kvs es := ro
    have ht := ro'.notT
    rw [if_neg (by rw [ht]; exact Bool.false_ne_true)] at hf
    obtain ⟨j, hj⟩ := Option.isSome_iff_exists.mp hf
    have e := keyOf_eq hj
    subst e
    obtain ⟨ok, rfl⟩ := keyOf_ok ry
    refine ⟨.dK (putK kvs j v), .inl ⟨kvs, j, ha, rfl, by rw [sizeLine_eq, ro'.length]; exact hl, rfl⟩, ?_⟩
    have e2 : dputE es (keyD j) vd = dput es (keyD j) vd := by
      unfold dputE
      rw [ht]
    rw [e2]
    exact ro'.put ok rv
  | ext φ =>
    obtain ⟨a', kvs, fs, rfl, rfl, ro'⟩ := ro
    exact absurd hn (by simp [isT])
  | _ => exact ro.elim
theorem nput_of {K : FW} {G H : Hp} {a : Addr} {o : HO} {es : List (PyData × PyData)} {y v : V} {kd vd : PyData} (sg : Same G H) (ha : H a = some o) (ro : RpO K G o (.dict es)) (ry : Rp K G y kd) (rv : Rp K G v vd) (hf : keyFit es kd = true) (hn : isT es = true) (hl : es.length < 16777216) :
    ∃ o', NPut K H a y v (upd H a o') ∧ RpO K G o' (.dict (dputE es kd vd)) := by
  unfold keyFit at hf
  cases o with
  | dK kvs =>
    have ro' : RpD K G kvs es := ro
    rw [ro'.notT] at hn
    exact absurd hn Bool.false_ne_true
  | ext φ =>
    obtain ⟨a', kvs, fs, rfl, rfl, ro'⟩ := ro
    rw [if_pos (by rfl)] at hf
    obtain ⟨j, hj⟩ := Option.isSome_iff_exists.mp hf
    obtain ⟨_, _, ds, rfl⟩ := nkT_some hj
    have hb : ∃ b, y = .ref b := by
      cases ry with
      | tup hb rx => exact ⟨_, rfl⟩
    obtain ⟨b, rfl⟩ := hb
    refine ⟨HN K.w a (putN kvs j b v), ⟨a', kvs, b, _, j, ha, fun r hr => (ro'.keysIn r hr).elim fun d z => ⟨d, z.1, Rp.mono (Sub.of sg) z.2⟩, rfl, Rp.mono (Sub.of sg) ry, hj, ?_, rfl⟩, a, putN kvs j b v, dput fs (.tuple ds) vd, rfl, rfl, ro'.put hj ry rv⟩
    rw [sizeLine_eq, ro'.length]
    rw [List.length_cons] at hl
    omega
  | _ => exact ro.elim
section
variable {X : Cx} {e a b c : Expr} {es : List Expr} {pos : Pos} {f fk fv g h : Ex}
theorem psx_dput {o : Expr} {i : Nat} {pos' : Pos} (hu : X.A.units + 200 < cLine) (ho : PX X o (cVar i)) (hi : PX X a fk) (hv : PX X b fv) (hs : swapsWith b (some (.Subscript o a pos')) pos.line X.env = pure false := by rfl) :
    PSX X (.Assign [.Subscript o a pos'] b pos) (sDPut i fk fv) := PS.imp (ps_gput (by omega) ho hi hv hs) fun D σ H q => by
  obtain ⟨B, Gb, G, env, W, o, S, e, p⟩ := q
  unfold sDPut at e
  rw [Option.bind_eq_some_iff] at e
  obtain ⟨⟨dv, kv, W1⟩, e1, e⟩ := e
  dsimp only at e
  split at e
  · rename_i es ed
    rw [Option.bind_eq_some_iff] at e
    obtain ⟨⟨dk, kk, W2⟩, e2, e⟩ := e
    dsimp only at e
    split at e
    · split at e
      · rename_i hc
        cases e
        obtain ⟨c1, c2, c3⟩ := hc
        have ev : cVar i env W1 = some (.dict es, .pk i, W1) := by unfold cVar; rw [ed]
        refine ⟨B, Gb, G, env, W, dv, kv, W1, S, e1, fun v1 G1 H1 s1 S1 h1 => step3 S1 h1 ev e2 fun v2 v3 G2 H2 s2 S2 h1' h2' h3' => ?_⟩
        obtain ⟨G3, s3, S3, rv, _⟩ := freeze1 S2 h1' c1
        obtain ⟨pa, ob, b1, b2, b3, b4, b5⟩ := S3.ow i _ ed
        have ex : v2 = .ref pa := by
          have := h2'.1
          rw [b1] at this
          cases this
          rfl
        by_cases hn : isT es = true
        · obtain ⟨o', dp, ro⟩ := nput_of S3.sg b4 b5 (Rp.mono (Sub.of s3) h3') rv c2 hn c3
          exact ⟨pa, _, ex, .inr dp, p σ G3 _ ((s1.trans s2).trans s3) (S3.change ed b1 ro)⟩
        · obtain ⟨o', dp, ro⟩ := dput_of S3.sg b4 b5 (Rp.mono (Sub.of s3) h3') rv c2 (by simpa using hn) c3
          exact ⟨pa, _, ex, .inl dp, p σ G3 _ ((s1.trans s2).trans s3) (S3.change ed b1 ro)⟩
      · cases e
    · cases e
  · cases e
/-- d[k] op= e, whole numbers -/
def sDAug (i : Nat) (fk : Ex) (op : Int → Int → Int) (fv : Ex) : Sx := fun env W => match env[i]? with
  | some (.ow (.dict es)) => (fk env W).bind fun k => match k.2.1, dget (ents es) k.1 with
    | .im, some (.int x) => if keyFit es k.1 = true ∧ isT es = false ∧ es.length < 16777216 then (match fv env k.2.2 with
      | some (.int y, _, W') => some (.nx (env.set i (.ow (.dict (dputE es k.1 (.int (op x y)))))) W')
      | _ => none) else none
    | _, _ => none
  | _ => none
theorem psx_daug {o : Expr} {i : Nat} {tpos : Pos} {oper : Operator} {op : Int → Int → Int} (hu : X.A.units + 200 < cLine) (hop : InOp X oper (fun x y H Q => ∃ i j, x = .int i ∧ y = .int j ∧ Q (.int (op i j)) H)) (ho : PX X o (cVar i)) (hi : PX X a fk) (hv : PX X b fv)
    (ha : ∀ ov iv new, augStore a ov iv new = (do holding [new, ov, iv] (setItem ov iv new); release [new, ov, iv] []; pure .next) := by intros; rfl) :
    PSX X (.AugAssign (.Subscript o a tpos) oper b pos) (sDAug i fk op fv) := PS.imp (ps_daug (by omega) ho hi hv hop ha) fun D σ H q => by
  obtain ⟨B, Gb, G, env, W, o, S, e, p⟩ := q
  unfold sDAug at e
  split at e
  · rename_i es ed
    rw [Option.bind_eq_some_iff] at e
    obtain ⟨⟨dk, kk, W2⟩, e2, e⟩ := e
    dsimp only at e
    split at e
    · rename_i x hx
      split at e
      · rename_i hc
        obtain ⟨c2, cn, c3⟩ := hc
        split at e
        · rename_i y ky W3 e3
          cases e
          have ev : cVar i env W = some (.dict es, .pk i, W) := by unfold cVar; rw [ed]
          refine ⟨B, Gb, G, env, W, _, _, W, S, ev, fun v1 G1 H1 s1 S1 h1 => ⟨B, Gb, G1, env, W, dk, .im, W2, S1, e2, fun v2 G2 H2 s2 S2 h2 => ?_⟩⟩
          have h1' : VOk X.KW B G2 H2 σ env v1 (.dict es) (.pk i) := h1
          obtain ⟨pa, ov, rfl, hg, r⟩ := dget_of S2 h1' h2 c2 cn
          rw [hx] at r
          cases ov with
          | none => exact r.elim
          | some v =>
            cases r
            refine ⟨pa, _, rfl, hg, B, Gb, G2, env, W2, _, _, _, S2, e3, fun v3 G3 H3 s3 S3 h3 => ?_⟩
            obtain rfl := h3.int S3
            refine ⟨x, y, rfl, rfl, ?_⟩
            obtain ⟨qa, ob, b1, b2, b3, b4, b5⟩ := S3.ow i _ ed
            have ex : qa = pa := by
              have := h1.1
              rw [b1] at this
              cases this
              rfl
            subst ex
            obtain ⟨o', dp, ro⟩ := dput_of S3.sg b4 b5 (Rp.mono (Sub.of s3) h2) (.int (op x y)) c2 cn c3
            exact ⟨_, dp, p σ G3 _ ((s1.trans s2).trans s3) (S3.change ed b1 ro)⟩
        · cases e
      · cases e
    · cases e
  · cases e
/-- x op= e, whole numbers -/
def sAug (i : Nat) (op : Int → Int → Int) (f : Ex) : Sx := fun env W => match env[i]?, f env W with
  | some (.pl (.int x)), some (.int y, _, W') => some (.nx (env.set i (.pl (.int (op x y)))) W')
  | _, _ => none
theorem psx_aug {i : Nat} {x : Str} {oper : Operator} {op : Int → Int → Int} {pos' : Pos} (hN : X.N.Nodup) (hop : PIp X oper (ipI op)) (he : PX X e f) (hi : X.N[i]? = some x := by rfl) (hx : Loc X.env.scope x := by first | exact .inl rfl | exact .inr rfl)
    (hf : X.fn x = true ∨ X.env.scope.names.lookup x = some .local := by first | exact .inl rfl | exact .inr rfl) : PSX X (.AugAssign (.Name x pos') oper e pos) (sAug i op f) := PS.imp (ps_aug hN hi hx he hop hf) fun D σ H q => by
  obtain ⟨B, Gb, G, env, W, o, S, e, p⟩ := q
  unfold sAug at e
  split at e
  · rename_i x y k W' ex ef
    cases e
    obtain ⟨v, h1, h2⟩ := S.pl i _ ex
    cases h2
    refine ⟨_, h1, B, Gb, G, env, W, _, _, _, S, ef, fun v2 G1 H1 s1 S1 h3 => ?_⟩
    obtain rfl := h3.int S1
    exact ⟨x, y, rfl, rfl, p _ G1 H1 s1 (S1.setSl i (.pl (.int (op x y))) (.int (op x y)) (.int _) fun z => absurd z Bool.false_ne_true)⟩
  · cases e
/-- xs.append(e) -/
def sApp (i : Nat) (f : Ex) : Sx := fun env W => (f env W).bind fun r => match env[i]? with
  | some (.ow (.list ds)) => if esc r.2.1 = true ∧ ds.length < 16777216 then some (.nx (env.set i (.ow (.list (ds ++ [r.1])))) r.2.2) else none
  | _ => none
theorem psx_app {o : Expr} {i : Nat} {apos cpos : Pos} (ho : PX X o (cVar i)) (he : PX X a f)
    (hbase : attributeBase o "append" X.env (eval o X.env) = eval o X.env := by rfl)
    (hfew : ((backTo cpos (starEach [a] X.env)).all (fun x => !x.1) && (backToKw cpos (keywordEach [] X.env)).all (fun x => x.1.isSome)
      && decide (([a] : List Expr).length + ([] : List Keyword).length + (if ([] : List Keyword).isEmpty then 0 else 1) < 30)) = true := by rfl)
    (hline : (apos.endLine == cpos.line) = true := by rfl) (hs : starEach [a] X.env = (false, eval a X.env) :: starEach [] X.env := by rfl) (hplain : (backTo cpos (starEach [] X.env)).any (·.1) = false := by rfl)
    (hsw : swapsWith (.Call (.Attribute o "append" apos) [a] [] cpos) none pos.line X.env = pure false := by rfl) : PSX X (.Expr (.Call (.Attribute o "append" apos) [a] [] cpos) pos) (sApp i f) :=
  PS.imp (ps_expr (pe_bm PySem.F.plainAttrs_list PySem.F.slot_list_append PySem.F.type_list_append mt_append ho (pxs_cons he pxs_nil hs) hbase hfew hline hs hplain) hsw) fun D σ H q => by
  obtain ⟨B, Gb, G, env, W, o, S, e, p⟩ := q
  unfold sApp at e
  rw [Option.bind_eq_some_iff] at e
  obtain ⟨⟨dv, kv, W1⟩, e1, e⟩ := e
  dsimp only at e
  split at e
  · rename_i ds ed
    split at e
    · rename_i hc
      cases e
      have ev : cVar i env W = some (.list ds, .pk i, W) := by unfold cVar; rw [ed]
      refine ⟨B, Gb, G, env, W, _, _, W, S, ev, fun v1 G1 H1 s1 S1 h1 => ?_⟩
      obtain ⟨x, xs, rfl, hx, rx⟩ := h1.list S1
      refine ⟨.inl ⟨rfl, xs, .of hx⟩, B, Gb, G1, env, W, [(dv, kv)], W1, S1, by simp only [cArgs, e1, Option.bind_some, Option.map_some], fun vs G2 H2 s2 S2 p2 => ?_⟩
      match vs, p2 with
      | [v], p2 =>
        obtain ⟨G3, s3, S3, rv, _⟩ := freeze1 S2 p2.1 hc.1
        obtain ⟨qa, ob, b1, b2, b3, b4, b5⟩ := S3.ow i _ ed
        have ex : qa = x := by
          have := h1.1
          rw [b1] at this
          cases this
          rfl
        subst ex
        cases ob <;> first | exact b5.elim | skip
        rename_i ys
        have b5 : RpL X.KW G3 ys ds := b5
        exact ⟨qa, ys, v, rfl, rfl, b4, by rw [sizeLine_eq, b5.length]; exact hc.2, p σ G3 _ ((s1.trans s2).trans s3) (S3.change (o := .lst (ys ++ [v])) ed b1 (b5.append (.single rv)))⟩
    · cases e
  · cases e
/-- xs.extend(e), e a list -/
def sExt (i : Nat) (f : Ex) : Sx := fun env W => match f env W with
  | some (.list es, _, W') => (match env[i]? with
    | some (.ow (.list ds)) => if ds.length + es.length ≤ 16777216 then some (.nx (env.set i (.ow (.list (ds ++ es)))) W') else none
    | _ => none)
  | _ => none
theorem psx_ext {o : Expr} {i : Nat} {apos cpos : Pos} (ho : PX X o (cVar i)) (he : PX X a f)
    (hbase : attributeBase o "extend" X.env (eval o X.env) = eval o X.env := by rfl)
    (hfew : ((backTo cpos (starEach [a] X.env)).all (fun x => !x.1) && (backToKw cpos (keywordEach [] X.env)).all (fun x => x.1.isSome)
      && decide (([a] : List Expr).length + ([] : List Keyword).length + (if ([] : List Keyword).isEmpty then 0 else 1) < 30)) = true := by rfl)
    (hline : (apos.endLine == cpos.line) = true := by rfl) (hs : starEach [a] X.env = (false, eval a X.env) :: starEach [] X.env := by rfl) (hplain : (backTo cpos (starEach [] X.env)).any (·.1) = false := by rfl)
    (hsw : swapsWith (.Call (.Attribute o "extend" apos) [a] [] cpos) none pos.line X.env = pure false := by rfl) : PSX X (.Expr (.Call (.Attribute o "extend" apos) [a] [] cpos) pos) (sExt i f) :=
  PS.imp (ps_expr (pe_bm PySem.F.plainAttrs_list PySem.F.slot_list_extend PySem.F.type_list_extend mt_extend ho (pxs_cons he pxs_nil hs) hbase hfew hline hs hplain) hsw) fun D σ H q => by
  obtain ⟨B, Gb, G, env, W, o, S, e, p⟩ := q
  unfold sExt at e
  split at e
  · rename_i es kv W1 e1
    split at e
    · rename_i ds ed
      split at e
      · rename_i hc
        cases e
        have ev : cVar i env W = some (.list ds, .pk i, W) := by unfold cVar; rw [ed]
        refine ⟨B, Gb, G, env, W, _, _, W, S, ev, fun v1 G1 H1 s1 S1 h1 => ?_⟩
        obtain ⟨x, xs, rfl, hx, rx⟩ := h1.list S1
        refine ⟨.inl ⟨rfl, xs, .of hx⟩, B, Gb, G1, env, W, [(.list es, kv)], W1, S1, by simp only [cArgs, e1, Option.bind_some, Option.map_some], fun vs G2 H2 s2 S2 p2 => ?_⟩
        match vs, p2 with
        | [v], p2 =>
          obtain ⟨y, ys, rfl, hy, ry⟩ := p2.1.list S2
          obtain ⟨qa, ob, b1, b2, b3, b4, b5⟩ := S2.ow i _ ed
          have ex : qa = x := by
            have := h1.1
            rw [b1] at this
            cases this
            rfl
          subst ex
          cases ob <;> first | exact b5.elim | skip
          rename_i zs
          have b5 : RpL X.KW G2 zs ds := b5
          exact ⟨qa, y, zs, ys, rfl, rfl, b4, hy, by rw [sizeLine_eq, b5.length, ry.length]; exact hc, p σ G2 _ (s1.trans s2) (S2.change (o := .lst (zs ++ ys)) ed b1 (b5.append ry))⟩
      · cases e
    · cases e
  · cases e
end
end PX

namespace PX
open PySem PySem.Spec PyProof.Rows L2

/-! ### while -/
def whileL : Nat → Ct → Sx → Sx
  | 0, _, _ => fun _ _ => none
  | n + 1, t, g => fun env W => (t env W).bind fun r => if r.1 then (match g env r.2 with
      | some (.nx e' W') => whileL n t g e' W'
      | some (.ct e' W') => whileL n t g e' W'
      | some (.bk e' W') => some (.nx e' W')
      | r => r) else some (.nx env r.2)
section
variable {X : Cx} {c : Expr} {body : List Stmt} {t : Ct} {g : Sx} {pos : Pos}
theorem psx_while (n : Nat) (hp : PassesOwn (model X.prog X.w) X.A X.env X.xe) (hc : PTX X c t) (hb : PSsX X body g) : PSX X (.While c body [] pos) (whileL n t g) := PS.imp (ps_while hp hc hb) fun D σ H q => by
  obtain ⟨B, Gb, G, env, W, o, S, e, p⟩ := q
  refine ⟨fun m σ H => ∃ G1 env1 W1, Same G G1 ∧ Sta X.KW B Gb G1 H σ env1 W1 ∧ whileL m t g env1 W1 = some o, ⟨n, G, env, W, Same.refl _, S, e⟩, ?_⟩
  rintro m σ H ⟨G1, env1, W1, s1, S1, e1⟩
  cases m with
  | zero => cases e1
  | succ m =>
    rw [whileL, Option.bind_eq_some_iff] at e1
    obtain ⟨⟨b, W2⟩, e2, e3⟩ := e1
    refine ⟨B, Gb, G1, env1, W1, b, W2, S1, e2, fun G2 H2 s2 S2 => ?_⟩
    dsimp only at e3
    cases b with
    | false =>
      rw [if_neg Bool.false_ne_true] at e3 ⊢
      cases e3
      exact p σ G2 H2 (s1.trans s2) S2
    | true =>
      rw [if_pos rfl] at e3 ⊢
      refine ⟨fun σ' H' => ∃ G1 env1 W1, Same G G1 ∧ Sta X.KW B Gb G1 H' σ' env1 W1 ∧ whileL m t g env1 W1 = some o, fun σ' H' h => ⟨m, Nat.lt_succ_self m, h⟩, ?_⟩
      split at e3
      · rename_i e' W' eg
        exact ⟨B, Gb, G2, env1, W2, _, S2, eg, fun σ3 G3 H3 s3 S3 => ⟨G3, e', W', (s1.trans s2).trans s3, S3, e3⟩⟩
      · rename_i e' W' eg
        exact ⟨B, Gb, G2, env1, W2, _, S2, eg, fun σ3 G3 H3 s3 S3 => ⟨G3, e', W', (s1.trans s2).trans s3, S3, e3⟩⟩
      · rename_i e' W' eg
        cases e3
        exact ⟨B, Gb, G2, env1, W2, _, S2, eg, fun σ3 G3 H3 s3 S3 => p σ3 G3 H3 ((s1.trans s2).trans s3) S3⟩
      · rename_i r n1 n2 n3
        cases o with
        | nx a b => exact absurd e3 (n1 a b)
        | ct a b => exact absurd e3 (n2 a b)
        | bk a b => exact absurd e3 (n3 a b)
        | rt d W' => exact ⟨B, Gb, G2, env1, W2, _, S2, e3, post.sub p (s1.trans s2)⟩
end

/-! ### what a loop walks -/
abbrev Ci := SEnv → List Int → Option (List PyData × Kd × List Int)
structure IW (K : FW) (J : It) (ds : List PyData) (C : Hp → Hp → Prop) : Prop where
  goes : ∀ i G H, i < ds.length → C G H → J.go i H
  stops : ∀ G H, C G H → J.stop ds.length H
  yields : ∀ i G H x H', i < ds.length → C G H → J.yld i H x H' → ∃ d, ds[i]? = some d ∧ ((H' = H ∧ Rp K G x d) ∨ (∃ T x1 y1 d1 d2, x = .ref T ∧ H T = none ∧ H' = upd H T (.tup [x1, y1]) ∧ d = .tuple [d1, d2] ∧ Rp K G x1 d1 ∧ Rp K G y1 d2) ∨
    ∃ (q : Addr) (ks : List Key), H' = H ∧ x = .ref q ∧ H q = some (.tup (ks.map kV)) ∧ ks.all keyOk = true ∧ d = keyTD ks)
/-- a tuple that stands comes into the frozen part -/
theorem Sta.tupIn {K : FW} {B Gb G H : Hp} {σ : L2.St} {env : SEnv} {W : List Int} (S : Sta K B Gb G H σ env W) {q : Addr} {xs : List V} (h : H q = some (.tup xs)) : ∃ G', Same G G' ∧ Sta K B Gb G' H σ env W ∧ G' q = some (.tup xs) := by
  cases e : G q with
  | some o =>
    have := S.sg _ _ e
    rw [h] at this
    cases this
    exact ⟨G, Same.refl _, S, e⟩
  | none =>
    refine ⟨upd G q (.tup xs), same_upd e, S.freeze h e (.inr ⟨xs, rfl⟩) (fun i ho => ?_), upd_same⟩
    obtain ⟨_, _, o, e2, e3⟩ := S.own_at ho
    rw [h] at e2
    cases e2
    exact e3 xs rfl
theorem RpL.keys {K : FW} {G : Hp} : ∀ {ks : List Key}, ks.all keyOk = true → RpL K G (ks.map kV) (ks.map keyD)
  | [], _ => .nil
  | k :: ks, h => by
    rw [List.all_cons, Bool.and_eq_true] at h
    exact .cons (kV_rp h.1) (RpL.keys h.2)
theorem IW.yield {K : FW} {J : It} {ds : List PyData} {C : Hp → Hp → Prop} {B Gb G H H' : Hp} {σ : L2.St} {env : SEnv} {W : List Int} {i : Nat} {x : V} (w : IW K J ds C) (S : Sta K B Gb G H σ env W) (c : C G H) (hi : i < ds.length) (y : J.yld i H x H') :
    ∃ d G', ds[i]? = some d ∧ Same G G' ∧ Same H H' ∧ Sta K B Gb G' H' σ env W ∧ Rp K G' x d := by
  obtain ⟨d, hd, ⟨rfl, r⟩ | ⟨T, x1, y1, d1, d2, rfl, hT, rfl, rfl, r1, r2⟩ | ⟨q, ks, rfl, rfl, hq, hk, rfl⟩⟩ := w.yields i G H x H' hi c y
  rotate_right
  · obtain ⟨G', s', S', hG⟩ := S.tupIn hq
    exact ⟨_, G', hd, s', Same.refl _, S', .tup (.inl hG) (RpL.keys hk)⟩
  · exact ⟨d, G, hd, Same.refl _, Same.refl _, S, r⟩
  · obtain ⟨n1, n2, n3⟩ := S.new hT
    have sm : Same G (upd G T (.tup [x1, y1])) := same_upd n1
    exact ⟨_, _, hd, sm, same_upd hT, (S.laid (o := .tup [x1, y1]) hT).freeze upd_same n1 (.inl n2) n3, .tup (.inl upd_same) (.cons (Rp.mono (Sub.of sm) r1) (.cons (Rp.mono (Sub.of sm) r2) .nil))⟩
/-- C holds wherever the state stands from here on -/
def Hld (K : FW) (σ : L2.St) (env : SEnv) (G0 : Hp) (k : Kd) (C : Hp → Hp → Prop) : Prop := ∀ B Gb G H σ1 env1 W, Same G0 G → Sta K B Gb G H σ1 env1 W → (∀ i, k = .pk i → env1[i]? = env[i]? ∧ σ1[i]? = σ[i]?) → C G H
def tI (K : FW) (f : Ci) : TI := fun σ H R => ∃ B Gb G env W ds k W', Sta K B Gb G H σ env W ∧ f env W = some (ds, k, W') ∧
  ∀ J G' H' C, Same G G' → Sta K B Gb G' H' σ env W' → IW K J ds C → Hld K σ env G' k C → ds.length ≤ 16777216 → R J H'
def PIX (X : Cx) (tg e : Expr) (f : Ci) : Prop := PI X tg e (tI X.KW f)
theorem PI.imp {X : Cx} {tg e : Expr} {t t' : TI} (h : PI X tg e t) (i : ∀ σ H R, t' σ H R → t σ H R) : PI X tg e t' := ⟨fun pins s σ H R I q => h.run pins s σ H R I (i _ _ _ q)⟩
structure LenOk (K : FW) (H : Hp) : Prop where
  l : ∀ a xs, SqL K H a xs → xs.length ≤ sizeLine
  t : ∀ a xs, SqT K H a xs → xs.length ≤ sizeLine
theorem Inv.lenOk {X : Cx} {pins : List (Addr × Obj)} {σ : L2.St} {H : Hp} {s : Shared} (I : Inv X pins σ H s) : LenOk X.KW H :=
  ⟨fun a xs q => (I.list q).choose_spec.2.2, fun a xs q => (I.tuple q).choose_spec.2.2⟩
theorem PI.hok {X : Cx} {tg e : Expr} {wi : TI} (h : PI X tg e wi) : PI X tg e (fun σ H R => wi σ H fun J H1 => LenOk X.KW H1 → R J H1) := ⟨fun pins s σ H R I q => by
  refine thn (h.run pins s σ H _ I q) fun v s1 h1 => thn h1 fun itv s2 h2 => ?_
  obtain ⟨it, fp, tn, J, H', e, I2, T, st, f, r⟩ := h2
  exact ⟨it, fp, tn, J, H', e, I2, T, st, f, r (Inv.lenOk I2)⟩⟩
/-- a list or a tuple -/
theorem pi_seq {X : Cx} {tg l : Expr} {tl : TE} (hl : PE X l tl) : PI X tg l (fun σ H R => tl σ H fun x H1 => ∃ a, x = .ref a ∧ (((∃ xs, SqL X.KW H1 a xs) ∧ R (Itl X.KW a) H1) ∨ ((∃ xs, SqT X.KW H1 a xs) ∧ R (Itt X.KW a) H1))) := by
  refine ⟨fun pins s σ H R I h => ?_⟩
  refine thn (hl.run pins s σ H _ I h) fun v s1 ⟨x, H1, I1, r1, q1⟩ => ?_
  obtain ⟨a, e, q⟩ := q1
  subst e
  cases r1
  have fpok : ∀ b ∈ [s1.heap.objs.size], FpOk X pins H1 b := fun b hb => by
    have e : b = s1.heap.objs.size := by simpa using hb
    subst e
    exact I1.fpOk (Nat.le_refl _) (I1.hok.fresh (Nat.le_refl _))
  rcases q with ⟨⟨xs, hq⟩, q⟩ | ⟨⟨xs, hq⟩, q⟩
  · obtain ⟨its, rv, p, hz⟩ := I1.list hq
    refine wpAny_pyIter_list p.isList ?_
    exact ⟨s1.heap.objs.size, [s1.heap.objs.size], _, _, H1, rfl, I1.kept (t' := s1.toks) fun b o e => Heap.get?_push_of_some _ e, turn_list a _, ⟨_, Heap.get?_push_size _ rfl, rfl, rfl⟩, fpok, q⟩
  · obtain ⟨its, rv, p, hz⟩ := I1.tuple hq
    refine wpAny_pyIter_tuple (show s1.heap.IsTuple a its.toArray from p) ?_
    exact ⟨s1.heap.objs.size, [s1.heap.objs.size], _, _, H1, rfl, I1.kept (t' := s1.toks) fun b o e => Heap.get?_push_of_some _ e, turn_tuple a _, ⟨_, Heap.get?_push_size _ rfl, rfl, rfl⟩, fpok, q⟩
section
variable {K : FW} {B Gb G H : Hp} {σ : L2.St} {env : SEnv} {W : List Int} {a : Addr} {xs : List V} {ds : List PyData}
theorem iw_list : IW K (Itl K a) ds (fun G H => ∃ xs, SqL K H a xs ∧ RpL K G xs ds) where
  goes := fun i G H hi c => by
    obtain ⟨xs, q, r⟩ := c
    have hl := r.length
    exact ⟨xs, xs[i], q, by simp [hl, hi]⟩
  stops := fun G H c => by
    obtain ⟨xs, q, r⟩ := c
    exact ⟨xs, q, by rw [r.length]; exact Nat.le_refl _⟩
  yields := fun i G H x H' hi c y => by
    obtain ⟨xs, q, r⟩ := c
    obtain ⟨rfl, y⟩ := y
    obtain ⟨d, hd, rd⟩ := r.get' (y xs q)
    exact ⟨d, hd, .inl ⟨rfl, rd⟩⟩
theorem iw_tup : IW K (Itt K a) ds (fun G H => ∃ xs, SqT K H a xs ∧ RpL K G xs ds) where
  goes := fun i G H hi c => by
    obtain ⟨xs, q, r⟩ := c
    have hl := r.length
    exact ⟨xs, xs[i], q, by simp [hl, hi]⟩
  stops := fun G H c => by
    obtain ⟨xs, q, r⟩ := c
    exact ⟨xs, q, by rw [r.length]; exact Nat.le_refl _⟩
  yields := fun i G H x H' hi c y => by
    obtain ⟨xs, q, r⟩ := c
    obtain ⟨rfl, y⟩ := y
    obtain ⟨d, hd, rd⟩ := r.get' (y xs q)
    exact ⟨d, hd, .inl ⟨rfl, rd⟩⟩
theorem iw_ints {lo c : Int} {n : Nat} {J : It} (hg : ∀ i H, i < n → J.go i H) (hs : ∀ H, J.stop n H) (hy : ∀ i H x H', J.yld i H x H' → H' = H ∧ x = .int (lo + (i : Nat) * c)) : IW K J ((List.range n).map fun (i : Nat) => PyData.int (lo + (i : Nat) * c)) (fun _ _ => True) where
  goes := fun i G H hi _ => hg i H (by simpa using hi)
  stops := fun G H _ => by simpa using hs H
  yields := fun i G H x H' hi _ y => by
    obtain ⟨rfl, rfl⟩ := hy i H x H' y
    have hi' : i < n := by simpa using hi
    exact ⟨.int (lo + (i : Nat) * c), by simp [hi'], .inl ⟨rfl, .int _⟩⟩
theorem iw_zip {b : Addr} {ys : List V} {es : List PyData} : IW K (Itz K a b) (List.zipWith (fun d e => PyData.tuple [d, e]) ds es) (fun G H => ∃ xs ys, SqL K H a xs ∧ SqL K H b ys ∧ RpL K G xs ds ∧ RpL K G ys es) where
  goes := fun i G H hi c => by
    obtain ⟨xs, ys, q1, q2, r1, r2⟩ := c
    rw [List.length_zipWith] at hi
    have l1 := r1.length
    have l2 := r2.length
    exact ⟨xs, ys, xs[i]'(by omega), ys[i]'(by omega), q1, q2, List.getElem?_eq_getElem _, List.getElem?_eq_getElem _⟩
  stops := fun G H c => by
    obtain ⟨xs, ys, q1, q2, r1, r2⟩ := c
    have l1 := r1.length
    have l2 := r2.length
    exact ⟨xs, ys, q1, q2, by rw [List.length_zipWith]; omega⟩
  yields := fun i G H x H' hi c y => by
    obtain ⟨xs, ys, q1, q2, r1, r2⟩ := c
    obtain ⟨T, x1, y1, rfl, hT, rfl, h1, h2⟩ := y
    obtain ⟨d1, hd1, rd1⟩ := r1.get' (h1 xs q1)
    obtain ⟨d2, hd2, rd2⟩ := r2.get' (h2 ys q2)
    exact ⟨.tuple [d1, d2], by rw [List.getElem?_zipWith, hd1, hd2], .inr (.inl ⟨T, x1, y1, d1, d2, rfl, hT, rfl, rfl, rd1, rd2⟩)⟩
theorem iw_zipT {b : Addr} {ys : List V} {es : List PyData} : IW K (RZ.ItzT K a b) (List.zipWith (fun d e => PyData.tuple [d, e]) ds es) (fun G H => ∃ xs ys, SqT K H a xs ∧ SqT K H b ys ∧ RpL K G xs ds ∧ RpL K G ys es) where
  goes := fun i G H hi c => by
    obtain ⟨xs, ys, q1, q2, r1, r2⟩ := c
    rw [List.length_zipWith] at hi
    have l1 := r1.length
    have l2 := r2.length
    exact ⟨xs, ys, xs[i]'(by omega), ys[i]'(by omega), q1, q2, List.getElem?_eq_getElem _, List.getElem?_eq_getElem _⟩
  stops := fun G H c => by
    obtain ⟨xs, ys, q1, q2, r1, r2⟩ := c
    have l1 := r1.length
    have l2 := r2.length
    exact ⟨xs, ys, q1, q2, by rw [List.length_zipWith]; omega⟩
  yields := fun i G H x H' hi c y => by
    obtain ⟨xs, ys, q1, q2, r1, r2⟩ := c
    obtain ⟨T, x1, y1, rfl, hT, rfl, h1, h2⟩ := y
    obtain ⟨d1, hd1, rd1⟩ := r1.get' (h1 xs q1)
    obtain ⟨d2, hd2, rd2⟩ := r2.get' (h2 ys q2)
    exact ⟨.tuple [d1, d2], by rw [List.getElem?_zipWith, hd1, hd2], .inr (.inl ⟨T, x1, y1, d1, d2, rfl, hT, rfl, rfl, rd1, rd2⟩)⟩
end

/-! ### the iterables -/
def kdI : Kd → Kd
  | .pk i => .pk i
  | _ => .im
def iSeq (f : Ex) : Ci := fun env W => match f env W with
  | some (.list ds, k, W') => some (ds, kdI k, W')
  | some (.tuple ds, _, W') => some (ds, .im, W')
  | _ => none
def rgI (lo : Int) (n : Nat) : List PyData := (List.range n).map fun (i : Nat) => PyData.int (lo + (i : Nat) * 1)
def rgD (lo : Int) (n : Nat) : List PyData := (List.range n).map fun (i : Nat) => PyData.int (lo + (i : Nat) * (-1))
def iR1 (f : Ex) : Ci := fun env W => match f env W with
  | some (.int j, _, W') => if j ≤ 1000000 ∧ -1000000 ≤ j then some (rgI 0 j.toNat, .im, W') else none
  | _ => none
def iR2 (f g : Ex) : Ci := fun env W => match f env W with
  | some (.int i, _, W1) => (match g env W1 with
    | some (.int j, _, W') => if i ≤ 1000000 ∧ -1000000 ≤ i ∧ j ≤ 1000000 ∧ -1000000 ≤ j then some (rgI i (j - i).toNat, .im, W') else none
    | _ => none)
  | _ => none
def iR3 (f g h : Ex) : Ci := fun env W => match f env W with
  | some (.int i, _, W1) => (match g env W1 with
    | some (.int j, _, W2) => (match h env W2 with
      | some (.int (-1), _, W') => if i ≤ 1000000 ∧ -1000000 ≤ i ∧ j ≤ 1000000 ∧ -1000000 ≤ j then some (rgD i (i - j).toNat, .im, W') else none
      | _ => none)
    | _ => none)
  | _ => none
def iZip (f g : Ex) : Ci := fun env W => match f env W with
  | some (.list ds, k, W1) => (match g env W1 with
    | some (.list es, k', W') => if esc k && esc k' then some (List.zipWith (fun d e => PyData.tuple [d, e]) ds es, .im, W') else none
    | _ => none)
  | some (.tuple ds, k, W1) => (match g env W1 with
    | some (.tuple es, k', W') => if esc k && esc k' then some (List.zipWith (fun d e => PyData.tuple [d, e]) ds es, .im, W') else none
    | _ => none)
  | _ => none
section
variable {X : Cx} {tg e a b c : Expr} {es : List Expr} {f g h : Ex} {pos p : Pos}
theorem pix_seq (he : PX X e f) : PIX X tg e (iSeq f) := PI.imp (PI.hok (pi_seq he)) fun σ H R q => by
  obtain ⟨B, Gb, G, env, W, ds, k, W', S, e, c⟩ := q
  unfold iSeq at e
  split at e
  · rename_i ds' k1 W1 e1
    cases e
    refine ⟨B, Gb, G, env, W, _, k1, W', S, e1, fun v G1 H1 s1 S1 h1 => ?_⟩
    by_cases hk : esc k1 = true
    · obtain ⟨G2, s2, S2, r, -⟩ := freeze1 S1 h1 hk
      cases r with
      | lst ha rl =>
        rename_i a xs
        refine ⟨a, rfl, .inl ⟨⟨xs, .of (S2.sg _ _ ha)⟩, fun L => ?_⟩⟩
        have hl := L.l a xs (.of (S2.sg _ _ ha))
        refine c _ G2 H1 _ (s1.trans s2) S2 iw_list (fun B3 Gb3 G3 H3 σ3 env3 W3 s3 S3 _ => ⟨xs, .of (S3.sg _ _ (s3 _ _ ha)), RpL.mono (Sub.of s3) rl⟩) ?_
        rw [← rl.length]
        rwa [sizeLine_eq] at hl
    · cases k1 with
      | im => exact absurd rfl hk
      | fr => exact absurd rfl hk
      | pk i =>
        obtain ⟨a, xs, rfl, ha, rl⟩ := h1.list S1
        refine ⟨a, rfl, .inl ⟨⟨xs, .of ha⟩, fun L => ?_⟩⟩
        have hl := L.l a xs (.of ha)
        refine c _ G1 H1 _ s1 S1 iw_list (fun B3 Gb3 G3 H3 σ3 env3 W3 s3 S3 z => ?_) ?_
        · obtain ⟨z1, z2⟩ := z i rfl
          have h3 : VOk X.KW B3 G3 H3 σ3 env3 (.ref a) (.list ds) (.pk i) := ⟨z2 ▸ h1.1, by rw [z1]; exact h1.2⟩
          obtain ⟨a', xs', ea, ha', rl'⟩ := h3.list S3
          cases ea
          exact ⟨xs', .of ha', rl'⟩
        · rw [← rl.length]
          rwa [sizeLine_eq] at hl
  · rename_i ds' k1 W1 e1
    cases e
    refine ⟨B, Gb, G, env, W, _, k1, W', S, e1, fun v G1 H1 s1 S1 h1 => ?_⟩
    obtain ⟨a, xs, rfl, ha, rl⟩ := h1.tuple S1
    have q1 : ∀ {G3 H3 : Hp}, Same G1 G3 → Same G3 H3 → SqT X.KW H3 a xs := fun s3 s4 => (Sub.of s4).sqT ((Sub.of s3).sqT ha.sqT)
    refine ⟨a, rfl, .inr ⟨⟨xs, q1 (Same.refl _) S1.sg⟩, fun L => ?_⟩⟩
    have hl := L.t a xs (q1 (Same.refl _) S1.sg)
    refine c _ G1 H1 _ s1 S1 iw_tup (fun B3 Gb3 G3 H3 σ3 env3 W3 s3 S3 _ => ⟨xs, q1 s3 S3.sg, RpL.mono (Sub.of s3) rl⟩) ?_
    rw [← rl.length]
    rwa [sizeLine_eq] at hl
  · cases e
theorem pix_range1 (hg : Gl X "range") (hm : X.mg "range" = none) (ha : PXs X [a] [f]) (hs : starEach [a] X.env = [(false, eval a X.env)] := by rfl) : PIX X tg (.Call (.Name "range" p) [a] [] pos) (iR1 f) := PI.imp (pi_range1 hg hm ha hs) fun σ H R q => by
  obtain ⟨B, Gb, G, env, W, ds, k, W', S, e, c⟩ := q
  unfold iR1 at e
  split at e
  · rename_i j k1 W1 e1
    split at e
    · rename_i hj
      cases e
      refine ⟨B, Gb, G, env, W, [(.int j, k1)], W', S, by simp only [cArgs, e1, Option.bind_some, Option.map_some], fun vs G1 H1 s1 S1 p1 => ?_⟩
      match vs, p1 with
      | [v], p1 =>
        obtain rfl := p1.1.int S1
        refine ⟨j, rfl, by omega, by omega, c (Itr 0 j.toNat) G1 H1 _ s1 S1 (iw_ints (fun i H h => h) (fun H => Nat.le_refl _) fun i H x H' y => ⟨y.1, by rw [y.2, Int.mul_one]⟩) (fun _ _ _ _ _ _ _ _ _ _ => trivial) ?_⟩
        simp only [rgI, List.length_map, List.length_range]
        omega
    · cases e
  · cases e
theorem pix_range2 (hg : Gl X "range") (hm : X.mg "range" = none) (ha : PXs X [a, b] [f, g]) (hs : starEach [a, b] X.env = [(false, eval a X.env), (false, eval b X.env)] := by rfl) (hs2 : starEach [b] X.env = [(false, eval b X.env)] := by rfl) : PIX X tg (.Call (.Name "range" p) [a, b] [] pos) (iR2 f g) := PI.imp (pi_range2 hg hm ha hs hs2) fun σ H R q => by
  obtain ⟨B, Gb, G, env, W, ds, k, W', S, e, c⟩ := q
  unfold iR2 at e
  split at e
  · rename_i i k1 W1 e1
    split at e
    · rename_i j k2 W2 e2
      split at e
      · rename_i hj
        cases e
        refine ⟨B, Gb, G, env, W, [(.int i, k1), (.int j, k2)], W', S, by simp only [cArgs, e1, e2, Option.bind_some, Option.map_some], fun vs G1 H1 s1 S1 p1 => ?_⟩
        match vs, p1 with
        | [v, v'], p1 =>
          obtain rfl := p1.1.int S1
          obtain rfl := p1.2.2.1.int S1
          refine ⟨i, j, rfl, ⟨by omega, by omega, by omega, by omega⟩, c (Itr i (j - i).toNat) G1 H1 _ s1 S1 (iw_ints (fun i H h => h) (fun H => Nat.le_refl _) fun i H x H' y => ⟨y.1, by rw [y.2, Int.mul_one]⟩) (fun _ _ _ _ _ _ _ _ _ _ => trivial) ?_⟩
          simp only [rgI, List.length_map, List.length_range]
          omega
      · cases e
    · cases e
  · cases e
theorem pix_range3 (hg : Gl X "range") (hm : X.mg "range" = none) (ha : PXs X [a, b, c] [f, g, h]) (hs : starEach [a, b, c] X.env = (false, eval a X.env) :: starEach [b, c] X.env := by rfl) (hpl : (backTo pos (starEach [b, c] X.env)).any (·.1) = false := by rfl) : PIX X tg (.Call (.Name "range" p) [a, b, c] [] pos) (iR3 f g h) := PI.imp (pi_range3 hg hm ha hs hpl) fun σ H R q => by
  obtain ⟨B, Gb, G, env, W, ds, k, W', S, e, c⟩ := q
  unfold iR3 at e
  split at e
  · rename_i i k1 W1 e1
    split at e
    · rename_i j k2 W2 e2
      split at e
      · rename_i k3 W3 e3
        split at e
        · rename_i hj
          cases e
          refine ⟨B, Gb, G, env, W, [(.int i, k1), (.int j, k2), (.int (-1), k3)], W', S, by simp only [cArgs, e1, e2, e3, Option.bind_some, Option.map_some], fun vs G1 H1 s1 S1 p1 => ?_⟩
          match vs, p1 with
          | [v, v', v''], p1 =>
            obtain rfl := p1.1.int S1
            obtain rfl := p1.2.2.1.int S1
            obtain rfl := p1.2.2.2.2.1.int S1
            refine ⟨i, j, -1, (i - j).toNat, rfl, RgC.neg (by omega) (by omega) (by omega) (by omega), c (Itc i (-1) (i - j).toNat) G1 H1 _ s1 S1 (iw_ints (fun i H h => h) (fun H => Nat.le_refl _) fun i H x H' y => y) (fun _ _ _ _ _ _ _ _ _ _ => trivial) ?_⟩
            simp only [rgD, List.length_map, List.length_range]
            omega
        · cases e
      · cases e
    · cases e
  · cases e
theorem pix_zip {elts : List Expr} {kk : Nat} {tpos : Pos} (hg : Gl X "zip") (hm : X.mg "zip" = none) (ha : PXs X [a, b] [f, g])
    (hs : starEach [a, b] X.env = (false, eval a X.env) :: starEach [b] X.env := by rfl) (hpl : (backTo pos (starEach [b] X.env)).any (·.1) = false := by rfl) : PIX X (.Tuple elts kk tpos) (.Call (.Name "zip" p) [a, b] [] pos) (iZip f g) := PI.imp (PI.hok (RZ.pi_zipA hg hm ha hs hpl)) fun σ H R q => by
  obtain ⟨B, Gb, G, env, W, ds, k, W', S, e, c⟩ := q
  unfold iZip at e
  split at e
  · rename_i ds1 k1 W1 e1
    split at e
    · rename_i ds2 k2 W2 e2
      split at e
      · rename_i hk
        cases e
        rw [Bool.and_eq_true] at hk
        refine ⟨B, Gb, G, env, W, [(.list ds1, k1), (.list ds2, k2)], W', S, by simp only [cArgs, e1, e2, Option.bind_some, Option.map_some], fun vs G1 H1 s1 S1 p1 => ?_⟩
        obtain ⟨G2, s2, S2, rl⟩ := freezeL S1 p1 (by simp [hk])
        match vs, rl with
        | [v1, v2], .cons r1 (.cons r2 _) =>
          cases r1 with
          | lst ha ra =>
            rename_i a1 xs
            cases r2 with
            | lst hb rb =>
              rename_i a2 ys
              refine ⟨a1, a2, xs, ys, rfl, .inl ⟨.of (S2.sg _ _ ha), .of (S2.sg _ _ hb), fun L => ?_⟩⟩
              have hl := L.l a1 xs (.of (S2.sg _ _ ha))
              refine c _ G2 H1 _ (s1.trans s2) S2 (iw_zip (ys := ys)) (fun B3 Gb3 G3 H3 σ3 env3 W3 s3 S3 _ => ⟨xs, ys, .of (S3.sg _ _ (s3 _ _ ha)), .of (S3.sg _ _ (s3 _ _ hb)), RpL.mono (Sub.of s3) ra, RpL.mono (Sub.of s3) rb⟩) ?_
              rw [sizeLine_eq, ra.length] at hl
              rw [List.length_zipWith]
              omega
      · cases e
    · cases e
  · rename_i ds1 k1 W1 e1
    split at e
    · rename_i ds2 k2 W2 e2
      split at e
      · rename_i hk
        cases e
        rw [Bool.and_eq_true] at hk
        refine ⟨B, Gb, G, env, W, [(.tuple ds1, k1), (.tuple ds2, k2)], W', S, by simp only [cArgs, e1, e2, Option.bind_some, Option.map_some], fun vs G1 H1 s1 S1 p1 => ?_⟩
        obtain ⟨G2, s2, S2, rl⟩ := freezeL S1 p1 (by simp [hk])
        match vs, rl with
        | [v1, v2], .cons r1 (.cons r2 _) =>
          cases r1 with
          | tup ha ra =>
            rename_i a1 xs
            cases r2 with
            | tup hb rb =>
              rename_i a2 ys
              refine ⟨a1, a2, xs, ys, rfl, .inr ⟨(Sub.of S2.sg).sqT ha.sqT, (Sub.of S2.sg).sqT hb.sqT, fun L => ?_⟩⟩
              have hl := L.t a1 xs ((Sub.of S2.sg).sqT ha.sqT)
              refine c _ G2 H1 _ (s1.trans s2) S2 (iw_zipT (ys := ys)) (fun B3 Gb3 G3 H3 σ3 env3 W3 s3 S3 _ => ⟨xs, ys, (Sub.of S3.sg).sqT ((Sub.of s3).sqT ha.sqT), (Sub.of S3.sg).sqT ((Sub.of s3).sqT hb.sqT), RpL.mono (Sub.of s3) ra, RpL.mono (Sub.of s3) rb⟩) ?_
              rw [sizeLine_eq, ra.length] at hl
              rw [List.length_zipWith]
              omega
      · cases e
    · cases e
  · cases e
end

/-! ### for -/
def forL (t : Tg) (g : Sx) : List PyData → Sx
  | [] => fun env W => some (.nx env W)
  | d :: ds => fun env W => (t d env).bind fun e1 => match g e1 W with
    | some (.nx e' W') => forL t g ds e' W'
    | some (.ct e' W') => forL t g ds e' W'
    | some (.bk e' W') => some (.nx e' W')
    | r => r
def sFor (f : Ci) (t : Tg) (g : Sx) : Sx := fun env W => (f env W).bind fun r => if esc r.2.1 = true then forL t g r.1 env r.2.2 else none
section
variable {X : Cx} {tg iter : Expr} {body : List Stmt} {f : Ci} {t : Tg} {g : Sx} {pos : Pos} {vs : List Nat}
theorem psx_for (hp : PassesOwn (model X.prog X.w) X.A X.env X.xe) (hc : X.calm = true) (hi : PIX X tg iter f) (hg : PGX X tg t vs) (hb : PSsX X body g)
    (hs : ∀ x, foldedSetIterable iter X.env x = pure x := by intro _; rfl) : PSX X (.For tg iter body [] pos) (sFor f t g) := PS.imp (ps_for hp hc hi hg.pg hb hs) fun D σ H q => by
  obtain ⟨B, Gb, G, env, W, o, S, e, p⟩ := q
  unfold sFor at e
  rw [Option.bind_eq_some_iff] at e
  obtain ⟨⟨ds, k, W1⟩, e1, e⟩ := e
  dsimp only at e
  split at e
  · rename_i hk
    refine ⟨B, Gb, G, env, W, ds, k, W1, S, e1, fun J G1 H1 C s1 S1 w hld hlen => ?_⟩
    have hld' : ∀ {B Gb G2 H σ1 env1 W}, Same G1 G2 → Sta X.KW B Gb G2 H σ1 env1 W → C G2 H := fun s S => hld _ _ _ _ _ _ _ s S fun i z => by subst z; exact absurd hk Bool.false_ne_true
    refine ⟨fun i m σ H => m = ds.length - i ∧ i ≤ ds.length ∧ ∃ G2 env2 W2, Same G1 G2 ∧ Sta X.KW B Gb G2 H σ env2 W2 ∧ forL t g (ds.drop i) env2 W2 = some o, ⟨ds.length, rfl, Nat.zero_le _, G1, env, W1, Same.refl _, S1, e⟩, ?_⟩
    rintro i m σ H ⟨rfl, hi, G2, env2, W2, s2, S2, e2⟩
    by_cases hlt : i < ds.length
    · refine .inr ⟨w.goes i G2 H hlt (hld' s2 S2), fun σ' H' => ∃ G2 env2 W2, Same G1 G2 ∧ Sta X.KW B Gb G2 H' σ' env2 W2 ∧ forL t g (ds.drop (i + 1)) env2 W2 = some o, fun σ' H' h => ⟨ds.length - (i + 1), by omega, rfl, hlt, h⟩, fun x H' y => ?_⟩
      obtain ⟨d, G3, hd, s3, h3, S3, r⟩ := w.yield S2 (hld' s2 S2) hlt y
      rw [List.drop_eq_getElem_cons hlt, forL, Option.bind_eq_some_iff] at e2
      obtain ⟨env3, e4, e5⟩ := e2
      have ed : ds[i] = d := by
        rw [List.getElem?_eq_getElem hlt] at hd
        exact Option.some.inj hd
      rw [ed] at e4
      refine ⟨B, Gb, G3, env2, W2, d, env3, S3, r, e4, fun σ3 _ S4 => ?_⟩
      split at e5
      · rename_i e' W' eg
        exact ⟨B, Gb, G3, env3, W2, _, S4, eg, fun σ5 G5 H5 s5 S5 => ⟨G5, e', W', (s2.trans s3).trans s5, S5, e5⟩⟩
      · rename_i e' W' eg
        exact ⟨B, Gb, G3, env3, W2, _, S4, eg, fun σ5 G5 H5 s5 S5 => ⟨G5, e', W', (s2.trans s3).trans s5, S5, e5⟩⟩
      · rename_i e' W' eg
        cases e5
        exact ⟨B, Gb, G3, env3, W2, _, S4, eg, fun σ5 G5 H5 s5 S5 => p σ5 G5 H5 (((s1.trans s2).trans s3).trans s5) S5⟩
      · rename_i r' n1 n2 n3
        cases o with
        | nx a b => exact absurd e5 (n1 a b)
        | ct a b => exact absurd e5 (n2 a b)
        | bk a b => exact absurd e5 (n3 a b)
        | rt d W' => exact ⟨B, Gb, G3, env3, W2, _, S4, e5, post.sub p ((s1.trans s2).trans s3)⟩
    · have ei : i = ds.length := by omega
      subst ei
      rw [List.drop_length] at e2
      cases e2
      exact .inl ⟨w.stops G2 H (hld' s2 S2), p σ G2 H (s1.trans s2) S2⟩
  · cases e
end
end PX

namespace PX
open PySem PySem.Spec PyProof.Rows L2

/-! ### comprehensions -/
def kTrue : Ct := fun _ W => some (true, W)
def lcL (t : Tg) (c : Ct) (e : Ex) : List PyData → SEnv → List Int → Option (List PyData × List Int)
  | [], _, W => some ([], W)
  | d :: ds, env, W => (t d env).bind fun e1 => (c e1 W).bind fun b =>
    if b.1 then (e e1 b.2).bind fun y => if esc y.2.1 = true then (lcL t c e ds env y.2.2).map fun q => (y.1 :: q.1, q.2) else none
    else lcL t c e ds env b.2
def noOwn (env : SEnv) (vs : List Nat) : Bool := vs.all fun i => match env[i]? with | some s => !s.own | none => true
def kOk (vs : List Nat) : Kd → Bool
  | .pk i => decide (i ∉ vs)
  | _ => true
def cLc (f : Ci) (t : Tg) (c : Ct) (e : Ex) (vs : List Nat) : Ex := fun env W => if noOwn env vs = true then (f env W).bind fun r => if kOk vs r.2.1 = true then (lcL t c e r.1 (wipeE env vs) r.2.2).map fun q => (.list q.1, .fr, q.2) else none else none
section
variable {K : FW} {B Gb G H G1 H1 : Hp} {σ : L2.St} {env : SEnv} {W W1 : List Int} {D : Addr} {acc acc' : List V} {vs : List Nat}
theorem Sta.wipeS (S : Sta K B Gb G H σ env W) (vs : List Nat) : Sta K B Gb G H (wipe σ vs) (PX.wipeE env vs) W := by
  have at' : ∀ {i : Nat} {s : Sl}, s ≠ .no → (PX.wipeE env vs)[i]? = some s → i ∉ vs ∧ env[i]? = some s := fun {i s} hn e => by
    rw [wipeE_at] at e
    split at e
    · cases q : env[i]? with
      | none => rw [q] at e; cases e
      | some z => rw [q] at e; cases e; exact absurd rfl hn
    · exact ⟨by assumption, e⟩
  have st : ∀ {i : Nat} {x : Option V}, i ∉ vs → σ[i]? = some x → (wipe σ vs)[i]? = some x := fun h e => by rw [wipe_at, if_neg h]; exact e
  have own' : ∀ {i p}, Own (PX.wipeE env vs) (wipe σ vs) i p → Own env σ i p := fun {i p} ⟨⟨s, e, o⟩, hp⟩ => by
    obtain ⟨h1, h2⟩ := at' (fun z => by subst z; exact absurd o Bool.false_ne_true) e
    rw [wipe_at, if_neg h1] at hp
    exact ⟨⟨s, h2, o⟩, hp⟩
  have len : ∀ (vs : List Nat) (env : SEnv), (PX.wipeE env vs).length = env.length := by
    intro vs
    induction vs with
    | nil => intro env; rfl
    | cons v vs ih => intro env; rw [PX.wipeE, ih, List.length_set]
  exact {
    sg := S.sg, sb := S.sb, sgb := S.sgb, gb := S.gb
    len := by rw [len, wipe_length]; exact S.len
    pl := fun i d e => by
      obtain ⟨h1, h2⟩ := at' (s := (.pl d)) (fun z => nomatch z) e
      obtain ⟨v, a, b⟩ := S.pl i d h2
      exact ⟨v, st h1 a, b⟩
    ow := fun i d e => by
      obtain ⟨h1, h2⟩ := at' (s := (.ow d)) (fun z => nomatch z) e
      obtain ⟨p, o, a, b⟩ := S.ow i d h2
      exact ⟨p, o, st h1 a, b⟩
    lk := fun i od o d e => by
      obtain ⟨h1, h2⟩ := at' (s := (.lk od o d)) (fun z => nomatch z) e
      obtain ⟨p, a, b⟩ := S.lk i od o d h2
      exact ⟨p, st h1 a, b⟩
    wd := fun i e => by
      obtain ⟨h1, h2⟩ := at' (s := .wd) (fun z => nomatch z) e
      obtain ⟨p, l, ns, k, a, b⟩ := S.wd i h2
      exact ⟨p, l, ns, k, st h1 a, b⟩
    sc := fun i ns e => by
      obtain ⟨h1, h2⟩ := at' (s := (.sc ns)) (fun z => nomatch z) e
      obtain ⟨p, a, b⟩ := S.sc i ns h2
      exact ⟨p, st h1 a, b⟩
    one := fun i j e1 e2 => S.one i j (at' (s := .wd) (fun z => nomatch z) e1).2 (at' (s := .wd) (fun z => nomatch z) e2).2
    sep := fun i j p h1 h2 => S.sep i j p (own' h1) (own' h2) }
/-- back at the slots as they were -/
theorem Sta.back {H0 G0 : Hp} {W0 : List Int} (S0 : Sta K B Gb G0 H0 σ env W0) (S : Sta K B Gb G H (wipe σ vs) (PX.wipeE env vs) W) (s : Same G0 G) (hn : noOwn env vs = true) : Sta K B Gb G H σ env W := by
  have nv : ∀ {i : Nat} {s : Sl}, env[i]? = some s → s.own = true → i ∉ vs := fun {i s} e o hi => by
    unfold noOwn at hn
    have := List.all_eq_true.mp hn i hi
    rw [e] at this
    dsimp only at this
    rw [o] at this
    exact absurd this Bool.false_ne_true
  have up : ∀ {i : Nat} {s : Sl}, env[i]? = some s → s.own = true → (PX.wipeE env vs)[i]? = some s := fun e o => by rw [wipeE_at, if_neg (nv e o)]; exact e
  have dn : ∀ {i : Nat} {s : Sl} {x : Option V}, env[i]? = some s → s.own = true → (wipe σ vs)[i]? = some x → σ[i]? = some x := fun e o q => by rw [wipe_at, if_neg (nv e o)] at q; exact q
  exact {
    sg := S.sg, sb := S.sb, sgb := S.sgb, gb := S.gb, len := S0.len
    pl := fun i d e => by
      obtain ⟨v, a, b⟩ := S0.pl i d e
      exact ⟨v, a, Rp.mono (Sub.of s) b⟩
    ow := fun i d e => by
      obtain ⟨p, o, a, b⟩ := S.ow i d (up e rfl)
      exact ⟨p, o, dn e rfl a, b⟩
    lk := fun i od o d e => by
      obtain ⟨p, a, b⟩ := S.lk i od o d (up e rfl)
      exact ⟨p, dn e rfl a, b⟩
    wd := fun i e => by
      obtain ⟨p, l, ns, k, a, b⟩ := S.wd i (up e rfl)
      exact ⟨p, l, ns, k, dn e rfl a, b⟩
    sc := fun i ns e => by
      obtain ⟨p, a, b⟩ := S0.sc i ns e
      exact ⟨p, a, s.seq b⟩
    one := S0.one
    sep := S0.sep }
theorem Sta.gD (S : Sta K (upd B D (.lst acc)) Gb G H σ env W) (hb : Gb D = none) : G D = none := by
  cases q : G D with
  | none => rfl
  | some x =>
    rcases S.gb D _ upd_same (by rw [q]; simp) with z | ⟨xs, z⟩
    · exact absurd hb z
    · cases z
/-- the list in the making grows -/
theorem Sta.bump (S : Sta K (upd B D (.lst acc)) Gb G H σ env W) (hb : Gb D = none) : Sta K (upd B D (.lst acc')) Gb G (upd H D (.lst acc')) σ env W := by
  have gD := S.gD hb
  have nB : ∀ {p : Addr}, (upd B D (.lst acc)) p = none → p ≠ D ∧ B p = none := fun {p} e => by
    by_cases q : p = D
    · subst q; rw [upd_same] at e; cases e
    · rw [upd_ne q] at e; exact ⟨q, e⟩
  have upB : ∀ {p : Addr}, (upd B D (.lst acc)) p = none → (upd B D (.lst acc')) p = none := fun {p} e => by
    obtain ⟨h1, h2⟩ := nB e
    rw [upd_ne h1]; exact h2
  have upH : ∀ {p : Addr} {o : HO}, p ≠ D → H p = some o → (upd H D (.lst acc')) p = some o := fun h e => by rw [upd_ne h]; exact e
  exact {
    sg := fun a x e => by
      rw [upd_ne (show a ≠ D from fun z => by subst z; rw [gD] at e; cases e)]
      exact S.sg _ _ e
    sb := fun a x e => by
      by_cases q : a = D
      · subst q; rw [upd_same] at e ⊢; exact e
      · rw [upd_ne q] at e ⊢
        exact S.sb a x (by rw [upd_ne q]; exact e)
    sgb := S.sgb
    gb := fun a o e n => by
      by_cases q : a = D
      · subst q; exact absurd gD n
      · rw [upd_ne q] at e
        exact S.gb a o (by rw [upd_ne q]; exact e) n
    len := S.len
    pl := S.pl
    ow := fun i d e => by
      obtain ⟨p, o, a1, a2, a3, a4, a5⟩ := S.ow i d e
      exact ⟨p, o, a1, a2, upB a3, upH (nB a3).1 a4, a5⟩
    lk := fun i od o d e => by
      obtain ⟨p, a1, a2, a3, a4, a5⟩ := S.lk i od o d e
      exact ⟨p, a1, a2, upB a3, upH (nB a3).1 a4, a5⟩
    wd := fun i e => by
      obtain ⟨p, l, ns, k, a1, a2, a3, a4, a5⟩ := S.wd i e
      exact ⟨p, l, ns, k, a1, a2, upB a3, upH (nB a3).1 a4, a5⟩
    sc := S.sc
    one := S.one
    sep := S.sep }
theorem Sta.laidB (S : Sta K B Gb G H σ env W) (h : H D = none) : Sta K (upd B D (.lst acc)) Gb G (upd H D (.lst acc)) σ env W := by
  obtain ⟨n1, n2, n3⟩ := S.new h
  have S1 := S.laid (o := .lst acc) h
  have := S1.prot (v := .ref D) (d := .list []) (k := .fr)
  exact {
    sg := S1.sg
    sb := fun a x e => by
      by_cases q : a = D
      · subst q; rw [upd_same] at e ⊢; exact e
      · rw [upd_ne q] at e; exact S1.sb _ _ e
    sgb := S1.sgb
    gb := fun a o e n => by
      by_cases q : a = D
      · subst q; exact absurd n1 n
      · rw [upd_ne q] at e; exact S1.gb a o e n
    len := S1.len
    pl := S1.pl
    ow := fun i d e => by
      obtain ⟨p, o, a1, a2, a3, a4, a5⟩ := S1.ow i d e
      exact ⟨p, o, a1, a2, by rw [upd_ne (show p ≠ D from fun z => n3 i ⟨⟨_, e, rfl⟩, z ▸ a1⟩)]; exact a3, a4, a5⟩
    lk := fun i od o d e => by
      obtain ⟨p, a1, a2, a3, a4, a5⟩ := S1.lk i od o d e
      exact ⟨p, a1, a2, by rw [upd_ne (show p ≠ D from fun z => n3 i ⟨⟨_, e, rfl⟩, z ▸ a1⟩)]; exact a3, a4, a5⟩
    wd := fun i e => by
      obtain ⟨p, l, ns, k, a1, a2, a3, a4, a5⟩ := S1.wd i e
      exact ⟨p, l, ns, k, a1, a2, by rw [upd_ne (show p ≠ D from fun z => n3 i ⟨⟨_, e, rfl⟩, z ▸ a1⟩)]; exact a3, a4, a5⟩
    sc := S1.sc
    one := S1.one
    sep := S1.sep }
theorem wipe_wipe (σ : L2.St) (vs us : List Nat) (h : ∀ i ∈ us, i ∈ vs) : wipe (wipe σ us) vs = wipe σ vs := by
  refine List.ext_getElem? fun j => ?_
  rw [wipe_at, wipe_at, wipe_at]
  by_cases h1 : j ∈ vs
  · rw [if_pos h1, if_pos h1]
    by_cases h2 : j ∈ us
    · rw [if_pos h2]; cases σ[j]? <;> rfl
    · rw [if_neg h2]
  · rw [if_neg h1, if_neg h1, if_neg (fun z => h1 (h j z))]
theorem wipeE_wipeE (σ : SEnv) (vs us : List Nat) (h : ∀ i ∈ us, i ∈ vs) : PX.wipeE (PX.wipeE σ us) vs = PX.wipeE σ vs := by
  refine List.ext_getElem? fun j => ?_
  rw [wipeE_at, wipeE_at, wipeE_at]
  by_cases h1 : j ∈ vs
  · rw [if_pos h1, if_pos h1]
    by_cases h2 : j ∈ us
    · rw [if_pos h2]; cases σ[j]? <;> rfl
    · rw [if_neg h2]
  · rw [if_neg h1, if_neg h1, if_neg (fun z => h1 (h j z))]
end
def PTsX (X : Cx) (ifs : List Expr) (c : Ct) : Prop := PTs X ifs (tT X.KW c)
section
variable {X : Cx} {elt tg iter : Expr} {ifs : List Expr} {scope : Scope} {own : List (Str × Nat)} {pos : Pos} {f : Ci} {t : Tg} {c : Ct} {e : Ex} {vs : List Nat}
theorem PTs.imp {t t' : TT} (h : PTs X ifs t) (i : ∀ σ H Q, t' σ H Q → t σ H Q) : PTs X ifs t' := ⟨fun pins s σ H Q I q => h.run pins s σ H Q I (i _ _ _ q)⟩
theorem ptsx_nil : PTsX X [] kTrue := PTs.imp pts_nil fun σ H Q q => by
  obtain ⟨B, Gb, G, env, W, b, W', S, e, c⟩ := q
  cases e
  exact c G H (Same.refl _) S
theorem ptsx_one {a : Expr} (h : PTX X a c) : PTsX X [a] c := pts_one h
theorem lc_step {σ : L2.St} {H : Hp} {Q : VK} (ok : ∀ d env env', t d env = some env' → wipeE env' vs = wipeE env vs) (q : tE X.KW (cLc f t c e vs) σ H Q) : tLc (tI X.KW f) (tG X.KW t vs) (tT X.KW c) (tE X.KW e) vs σ H Q := by
  obtain ⟨B, Gb, G, env, W, dd, kk, W', S, ev, cont⟩ := q
  unfold cLc at ev
  split at ev
  · rename_i hno
    rw [Option.bind_eq_some_iff] at ev
    obtain ⟨⟨ds, k, W1⟩, e1, e2⟩ := ev
    dsimp only at e2
    split at e2
    · rename_i hk
      rw [Option.map_eq_some_iff] at e2
      obtain ⟨⟨out, W2⟩, e3, e4⟩ := e2
      cases e4
      refine ⟨B, Gb, G, env, W, ds, k, W1, S, e1, fun J G1 H1 C s1 S1 w hld hlen D hD => ?_⟩
      obtain ⟨n1, n2, n3⟩ := S1.new hD
      have nGb : Gb D = none := S1.sgb.free n1
      have hld' : ∀ {B Gb G2 H W}, Same G1 G2 → Sta X.KW B Gb G2 H (wipe σ vs) (wipeE env vs) W → C G2 H := fun s S => hld _ _ _ _ _ _ _ s S fun i z => by
        subst z
        have hi : i ∉ vs := by simpa [kOk] using hk
        rw [wipeE_at, wipe_at, if_neg hi, if_neg hi]
        exact ⟨rfl, rfl⟩
      refine ⟨fun i m H => m = ds.length - i ∧ i ≤ ds.length ∧ ∃ G2 acc accd rest W3, Same G1 G2 ∧ Sta X.KW (upd B D (.lst acc)) Gb G2 H (wipe σ vs) (wipeE env vs) W3 ∧ RpL X.KW G2 acc accd ∧ acc.length ≤ i ∧ lcL t c e (ds.drop i) (wipeE env vs) W3 = some (rest, W2) ∧ accd ++ rest = out, ⟨ds.length, rfl, Nat.zero_le _, G1, [], [], out, W1, Same.refl _, (S1.wipeS vs).laidB hD, .nil, Nat.le_refl _, e3, rfl⟩, ?_⟩
      rintro i m H2 ⟨rfl, hi, G2, acc, accd, rest, W3, s2, S2, ra, hal, e5, e6⟩
      by_cases hlt : i < ds.length
      · refine .inr ⟨w.goes i G2 H2 hlt (hld' s2 S2), fun H2 => ∃ G2 acc accd rest W3, Same G1 G2 ∧ Sta X.KW (upd B D (.lst acc)) Gb G2 H2 (wipe σ vs) (wipeE env vs) W3 ∧ RpL X.KW G2 acc accd ∧ acc.length ≤ i + 1 ∧ lcL t c e (ds.drop (i + 1)) (wipeE env vs) W3 = some (rest, W2) ∧ accd ++ rest = out, fun H' h => ⟨ds.length - (i + 1), by omega, rfl, hlt, h⟩, fun x H' y => ?_⟩
        obtain ⟨d, G3, hd, s3, h3, S3, r⟩ := w.yield S2 (hld' s2 S2) hlt y
        have ed : ds[i] = d := by
          rw [List.getElem?_eq_getElem hlt] at hd
          exact Option.some.inj hd
        rw [List.drop_eq_getElem_cons hlt, lcL, Option.bind_eq_some_iff, ed] at e5
        obtain ⟨env3, e7, e5⟩ := e5
        rw [Option.bind_eq_some_iff] at e5
        obtain ⟨⟨b, W4⟩, e8, e5⟩ := e5
        refine ⟨_, Gb, G3, _, W3, d, env3, S3, r, e7, fun σ3 hw S4 => ?_⟩
        have w1 : wipe σ3 vs = wipe σ vs := hw.trans (wipe_wipe σ vs vs fun _ h => h)
        have w2 : wipeE env3 vs = wipeE env vs := (ok _ _ _ e7).trans (wipeE_wipeE env vs vs fun _ h => h)
        refine ⟨w1, _, Gb, G3, env3, W3, b, W4, S4, e8, fun G4 H4 s4 S5 => ?_⟩
        dsimp only at e5
        cases b with
        | false =>
          rw [if_neg Bool.false_ne_true] at e5 ⊢
          have S6 := S5.wipeS vs
          rw [w1, w2] at S6
          exact ⟨G4, acc, accd, rest, W4, (s2.trans s3).trans s4, S6, RpL.mono (Sub.of (s3.trans s4)) ra, by omega, e5, e6⟩
        | true =>
          rw [if_pos rfl] at e5 ⊢
          rw [Option.bind_eq_some_iff] at e5
          obtain ⟨⟨yd, yk, W5⟩, e9, e5⟩ := e5
          dsimp only at e5
          split at e5
          · rename_i hesc
            rw [Option.map_eq_some_iff] at e5
            obtain ⟨⟨rest', W6⟩, e10, e11⟩ := e5
            cases e11
            refine ⟨_, Gb, G4, env3, W4, yd, yk, W5, S5, e9, fun v G5 H5 s5 S6 h6 => ?_⟩
            obtain ⟨G6, s6, S7, rv, -⟩ := freeze1 S6 h6 hesc
            have S8 := S7.bump (acc' := acc ++ [v]) nGb
            have S9 := S8.wipeS vs
            rw [w1, w2] at S9
            have t6 := ((s3.trans s4).trans s5).trans s6
            refine ⟨acc, S7.sb _ _ upd_same, by rw [sizeLine_eq]; omega, G6, acc ++ [v], accd ++ [yd], rest', W5, s2.trans t6, S9, (RpL.mono (Sub.of t6) ra).append (.single rv), by rw [List.length_append]; simpa using hal, e10, by rw [List.append_assoc]; exact e6⟩
          · cases e5
      · have ei : i = ds.length := by omega
        subst ei
        rw [List.drop_length] at e5
        cases e5
        rw [List.append_nil] at e6
        subst e6
        refine .inl ⟨w.stops G2 H2 (hld' s2 S2), ?_⟩
        have sB : Same B (upd B D (.lst acc)) := same_upd n2
        have S3 := S1.back (S2.unprot sB) s2 hno
        refine cont (.ref D) G2 H2 (s1.trans s2) S3 ⟨D, .lst acc, rfl, S2.gD nGb, n2, S2.sb _ _ upd_same, ra, fun j ho => ?_⟩
        exact n3 j ho
    · cases e2
  · cases ev
theorem px_lc (hc : X.calm = true) (hN : X.N.Nodup) (hi : PIX X tg iter f) (ok : BlkOk X.N X.env.scope scope own)
    (hg : ∀ (s : Shared) (H : Hp) (C : Addr) (cl : List (Str × Addr)) (fp : List Addr), PGX (X.blk s H scope (compEnvC scope cl C X.env) fp) tg t (own.map (·.2))) (ht : ∀ (s : Shared) (H : Hp) (C : Addr) (cl : List (Str × Addr)) (fp : List Addr), PTsX (X.blk s H scope (compEnvC scope cl C X.env) fp) ifs c)
    (he : ∀ (s : Shared) (H : Hp) (C : Addr) (cl : List (Str × Addr)) (fp : List Addr), PX (X.blk s H scope (compEnvC scope cl C X.env) fp) elt e) (hs : ∀ x, foldedSetIterable iter X.env x = pure x := by intro _; rfl) :
    PX X (.ListComp elt [⟨tg, iter, ifs, 0⟩] scope pos) (cLc f t c e (own.map (·.2))) :=
  PE.imp (pe_lc (g := tG X.KW t (own.map (·.2))) (tt := tT X.KW c) (te := tE X.KW e) hc hN hi ok (fun s H C cl fp => (hg s H C cl fp).pg) ht he hs) fun σ H Q q => lc_step (hg X.s_0 H 0 [] []).ok q
theorem set_step {i : Nat} {own : Bool} {f : Ex} {D : Ends} {σ : L2.St} {H : Hp} (q : tS X.KW (sSet i own f) D σ H) : tE X.KW f σ H (fun v H1 => D.nx (σ.set i (some v)) H1) := by
  obtain ⟨B, Gb, G, env, W, o, S, e, p⟩ := q
  unfold sSet at e
  rw [Option.bind_eq_some_iff] at e
  obtain ⟨⟨d, k, W1⟩, e1, e2⟩ := e
  dsimp only at e2
  refine ⟨B, Gb, G, env, W, d, k, W1, S, e1, fun v G1 H1 s1 S1 h1 => ?_⟩
  show D.nx (σ.set i (some v)) H1
  split at e2
  · cases e2
    cases own with
    | true =>
      obtain ⟨q, o, rfl, a1, a2, a3, a4, a5⟩ := h1
      exact p _ G1 H1 s1 (S1.setSl i (.ow d) (.ref q) ⟨q, o, rfl, a1, a2, a3, a4⟩ fun _ q' e' j _ => by cases e'; exact a5 j)
    | false =>
      obtain ⟨G2, s2, S2, r, _⟩ := freeze1 S1 h1 rfl
      exact p _ G2 H1 (s1.trans s2) (S2.setSl i (.pl d) v r fun z => absurd z Bool.false_ne_true)
  · cases e2
    exact p _ G1 H1 s1 (S1.setSl i (.pl d) v h1 fun z => absurd z Bool.false_ne_true)
  · rename_i j
    split at e2
    · rename_i d' ed
      cases e2
      obtain ⟨h1, h2⟩ := h1
      have e2 : d' = d := by
        rcases h2 with h2 | ⟨_, _, h2⟩
        · rw [ed] at h2; cases h2; rfl
        · rw [ed] at h2; cases h2
      subst e2
      obtain ⟨G2, v', s2, S2, hv, r⟩ := S1.freezeSl ed
      rw [h1] at hv
      cases hv
      exact p _ G2 H1 (s1.trans s2) (S2.setSl i (.pl d') v r fun z => absurd z Bool.false_ne_true)
    · cases e2
theorem psx_setLc {i : Nat} {oo : Bool} {y : Str} {py spos : Pos} (hc : X.calm = true) (hN : X.N.Nodup) (hi : PIX X tg iter f) (ok : BlkOk X.N X.env.scope scope own)
    (hg : ∀ (s : Shared) (H : Hp) (C : Addr) (cl : List (Str × Addr)) (fp : List Addr), PGX (X.blk s H scope (compEnvC scope cl C X.env) fp) tg t (own.map (·.2))) (ht : ∀ (s : Shared) (H : Hp) (C : Addr) (cl : List (Str × Addr)) (fp : List Addr), PTsX (X.blk s H scope (compEnvC scope cl C X.env) fp) ifs c)
    (he : ∀ (s : Shared) (H : Hp) (C : Addr) (cl : List (Str × Addr)) (fp : List Addr), PX (X.blk s H scope (compEnvC scope cl C X.env) fp) elt e)
    (hsw : swapsWith (.ListComp elt [⟨tg, iter, ifs, 0⟩] scope pos) (some (.Name y py)) spos.line X.env = pure true) (hy : X.N[i]? = some y := by rfl) (hyl : X.env.scope.names.lookup y = some .local := by rfl) (hs : ∀ x, foldedSetIterable iter X.env x = pure x := by intro _; rfl) :
    PSX X (.Assign [.Name y py] (.ListComp elt [⟨tg, iter, ifs, 0⟩] scope pos) spos) (sSet i oo (cLc f t c e (own.map (·.2)))) :=
  PS.imp (ps_setLc (g := tG X.KW t (own.map (fun p : Str × Nat => p.2))) (tt := tT X.KW c) (te := tE X.KW e) hc hN hy hyl hsw hi ok (fun s H C cl fp => (hg s H C cl fp).pg) ht he hs) fun D σ H q => lc_step (hg X.s_0 H 0 [] []).ok (set_step q)

/-! ### two clauses -/
def lc2L (t : Tg) (c : Ct) (f1 : Ci) (t1 : Tg) (c1 : Ct) (e : Ex) (vs1 : List Nat) : List PyData → SEnv → List Int → Option (List PyData × List Int)
  | [], _, W => some ([], W)
  | d :: ds, env, W => (t d env).bind fun e1 => (c e1 W).bind fun b =>
    if b.1 then (f1 e1 b.2).bind fun r => if kOk vs1 r.2.1 = true then (lcL t1 c1 e r.1 (wipeE e1 vs1) r.2.2).bind fun q => (lc2L t c f1 t1 c1 e vs1 ds env q.2).map fun z => (q.1 ++ z.1, z.2) else none
    else lc2L t c f1 t1 c1 e vs1 ds env b.2
def cLc2 (f : Ci) (t : Tg) (c : Ct) (f1 : Ci) (t1 : Tg) (c1 : Ct) (e : Ex) (vs vs1 : List Nat) : Ex := fun env W => if noOwn env vs = true then (f env W).bind fun r => if kOk vs r.2.1 = true then (lc2L t c f1 t1 c1 e vs1 r.1 (wipeE env vs) r.2.2).bind fun q => if q.1.length ≤ 16777216 then some (.list q.1, .fr, q.2) else none else none else none
theorem lc2_step {f1 : Ci} {t1 : Tg} {c1 : Ct} {vs1 : List Nat} {σ : L2.St} {H : Hp} {Q : VK} (ok : ∀ d env env', t d env = some env' → wipeE env' vs = wipeE env vs) (ok1 : ∀ d env env', t1 d env = some env' → wipeE env' vs1 = wipeE env vs1) (hv : ∀ i ∈ vs1, i ∈ vs)
    (q : tE X.KW (cLc2 f t c f1 t1 c1 e vs vs1) σ H Q) : tLc2 (tI X.KW f) (tG X.KW t vs) (tT X.KW c) (tI X.KW f1) (tG X.KW t1 vs1) (tT X.KW c1) (tE X.KW e) vs vs1 σ H Q := by
  obtain ⟨B, Gb, G, env, W, dd, kk, W', S, ev, cont⟩ := q
  unfold cLc2 at ev
  split at ev
  · rename_i hno
    rw [Option.bind_eq_some_iff] at ev
    obtain ⟨⟨ds, k, W1⟩, e1, e2⟩ := ev
    dsimp only at e2
    split at e2
    · rename_i hk
      rw [Option.bind_eq_some_iff] at e2
      obtain ⟨⟨out, W2⟩, e3, e4⟩ := e2
      dsimp only at e4
      split at e4
      · rename_i hlen2
        cases e4
        refine ⟨B, Gb, G, env, W, ds, k, W1, S, e1, fun J G1 H1 C s1 S1 w hld hlen D hD => ?_⟩
        obtain ⟨n1, n2, n3⟩ := S1.new hD
        have nGb : Gb D = none := S1.sgb.free n1
        have hld' : ∀ {B Gb G2 H W}, Same G1 G2 → Sta X.KW B Gb G2 H (wipe σ vs) (wipeE env vs) W → C G2 H := fun s S => hld _ _ _ _ _ _ _ s S fun i z => by
          subst z
          have hi : i ∉ vs := by simpa [kOk] using hk
          rw [wipeE_at, wipe_at, if_neg hi, if_neg hi]
          exact ⟨rfl, rfl⟩
        refine ⟨fun i m H => m = ds.length - i ∧ i ≤ ds.length ∧ ∃ G2 acc accd rest W3, Same G1 G2 ∧ Sta X.KW (upd B D (.lst acc)) Gb G2 H (wipe σ vs) (wipeE env vs) W3 ∧ RpL X.KW G2 acc accd ∧ lc2L t c f1 t1 c1 e vs1 (ds.drop i) (wipeE env vs) W3 = some (rest, W') ∧ accd ++ rest = out, ⟨ds.length, rfl, Nat.zero_le _, G1, [], [], out, W1, Same.refl _, (S1.wipeS vs).laidB hD, .nil, e3, rfl⟩, ?_⟩
        rintro i m H2 ⟨rfl, hi, G2, acc, accd, rest, W3, s2, S2, ra, e5, e6⟩
        by_cases hlt : i < ds.length
        · refine .inr ⟨w.goes i G2 H2 hlt (hld' s2 S2), fun H2 => ∃ G2 acc accd rest W3, Same G1 G2 ∧ Sta X.KW (upd B D (.lst acc)) Gb G2 H2 (wipe σ vs) (wipeE env vs) W3 ∧ RpL X.KW G2 acc accd ∧ lc2L t c f1 t1 c1 e vs1 (ds.drop (i + 1)) (wipeE env vs) W3 = some (rest, W') ∧ accd ++ rest = out, fun H' h => ⟨ds.length - (i + 1), by omega, rfl, hlt, h⟩, fun x H' y => ?_⟩
          obtain ⟨d, G3, hd, s3, h3, S3, r⟩ := w.yield S2 (hld' s2 S2) hlt y
          have ed : ds[i] = d := by
            rw [List.getElem?_eq_getElem hlt] at hd
            exact Option.some.inj hd
          rw [List.drop_eq_getElem_cons hlt, lc2L, Option.bind_eq_some_iff, ed] at e5
          obtain ⟨env3, e7, e5⟩ := e5
          rw [Option.bind_eq_some_iff] at e5
          obtain ⟨⟨b, W4⟩, e8, e5⟩ := e5
          refine ⟨_, Gb, G3, _, W3, d, env3, S3, r, e7, fun σ3 hw S4 => ?_⟩
          have w1 : wipe σ3 vs = wipe σ vs := hw.trans (wipe_wipe σ vs vs fun _ h => h)
          have w2 : wipeE env3 vs = wipeE env vs := (ok _ _ _ e7).trans (wipeE_wipeE env vs vs fun _ h => h)
          refine ⟨w1, _, Gb, G3, env3, W3, b, W4, S4, e8, fun G4 H4 s4 S5 => ?_⟩
          dsimp only at e5
          cases b with
          | false =>
            rw [if_neg Bool.false_ne_true] at e5 ⊢
            have S6 := S5.wipeS vs
            rw [w1, w2] at S6
            exact ⟨G4, acc, accd, rest, W4, (s2.trans s3).trans s4, S6, RpL.mono (Sub.of (s3.trans s4)) ra, e5, e6⟩
          | true =>
            rw [if_pos rfl] at e5 ⊢
            rw [Option.bind_eq_some_iff] at e5
            obtain ⟨⟨ds1, k1, W5⟩, f1e, e5⟩ := e5
            dsimp only at e5
            split at e5
            · rename_i hk1
              rw [Option.bind_eq_some_iff] at e5
              obtain ⟨⟨out1, W6⟩, l1, e5⟩ := e5
              rw [Option.map_eq_some_iff] at e5
              obtain ⟨⟨rest1, W7⟩, l2, e9⟩ := e5
              cases e9
              dsimp only at l2 e6
              refine ⟨_, Gb, G4, env3, W4, ds1, k1, W5, S5, f1e, fun J1 G5 H5 C1 s5 S6 x1 hld1 hlen1 => ?_⟩
              have hld1' : ∀ {B Gb G2 H W}, Same G5 G2 → Sta X.KW B Gb G2 H (wipe σ3 vs1) (wipeE env3 vs1) W → C1 G2 H := fun s S => hld1 _ _ _ _ _ _ _ s S fun i z => by
                subst z
                have hi : i ∉ vs1 := by simpa [kOk] using hk1
                rw [wipeE_at, wipe_at, if_neg hi, if_neg hi]
                exact ⟨rfl, rfl⟩
              have t5 := (s3.trans s4).trans s5
              refine ⟨fun j m H => m = ds1.length - j ∧ j ≤ ds1.length ∧ ∃ G6 acc accd rst W8, Same G5 G6 ∧ Sta X.KW (upd B D (.lst acc)) Gb G6 H (wipe σ3 vs1) (wipeE env3 vs1) W8 ∧ RpL X.KW G6 acc accd ∧ lcL t1 c1 e (ds1.drop j) (wipeE env3 vs1) W8 = some (rst, W6) ∧ accd ++ (rst ++ rest1) = out, ⟨ds1.length, rfl, Nat.zero_le _, G5, acc, accd, out1, W5, Same.refl _, S6.wipeS vs1, RpL.mono (Sub.of t5) ra, l1, e6⟩, ?_⟩
              rintro j m H6 ⟨rfl, hj, G6, acc, accd, rst, W8, s6, S7, ra, l3, l4⟩
              by_cases hlt1 : j < ds1.length
              · refine .inr ⟨x1.goes j G6 H6 hlt1 (hld1' s6 S7), fun H => ∃ G6 acc accd rst W8, Same G5 G6 ∧ Sta X.KW (upd B D (.lst acc)) Gb G6 H (wipe σ3 vs1) (wipeE env3 vs1) W8 ∧ RpL X.KW G6 acc accd ∧ lcL t1 c1 e (ds1.drop (j + 1)) (wipeE env3 vs1) W8 = some (rst, W6) ∧ accd ++ (rst ++ rest1) = out, fun H' h => ⟨ds1.length - (j + 1), by omega, rfl, hlt1, h⟩, fun x H' y => ?_⟩
                obtain ⟨d, G7, hd, s7, h7, S8, r⟩ := x1.yield S7 (hld1' s6 S7) hlt1 y
                have ed : ds1[j] = d := by
                  rw [List.getElem?_eq_getElem hlt1] at hd
                  exact Option.some.inj hd
                rw [List.drop_eq_getElem_cons hlt1, lcL, Option.bind_eq_some_iff, ed] at l3
                obtain ⟨env9, l5, l3⟩ := l3
                rw [Option.bind_eq_some_iff] at l3
                obtain ⟨⟨b, W9⟩, l6, l3⟩ := l3
                refine ⟨_, Gb, G7, _, W8, d, env9, S8, r, l5, fun σ9 hw S9 => ?_⟩
                have w3 : wipe σ9 vs1 = wipe σ3 vs1 := hw.trans (wipe_wipe σ3 vs1 vs1 fun _ h => h)
                have w4 : wipeE env9 vs1 = wipeE env3 vs1 := (ok1 _ _ _ l5).trans (wipeE_wipeE env3 vs1 vs1 fun _ h => h)
                refine ⟨w3, _, Gb, G7, env9, W8, b, W9, S9, l6, fun G8 H8 s8 S10 => ?_⟩
                dsimp only at l3
                cases b with
                | false =>
                  rw [if_neg Bool.false_ne_true] at l3 ⊢
                  have S11 := S10.wipeS vs1
                  rw [w3, w4] at S11
                  exact ⟨G8, acc, accd, rst, W9, (s6.trans s7).trans s8, S11, RpL.mono (Sub.of (s7.trans s8)) ra, l3, l4⟩
                | true =>
                  rw [if_pos rfl] at l3 ⊢
                  rw [Option.bind_eq_some_iff] at l3
                  obtain ⟨⟨yd, yk, W10⟩, l7, l3⟩ := l3
                  dsimp only at l3
                  split at l3
                  · rename_i hesc
                    rw [Option.map_eq_some_iff] at l3
                    obtain ⟨⟨rest', W11⟩, l8, l9⟩ := l3
                    cases l9
                    refine ⟨_, Gb, G8, env9, W9, yd, yk, W10, S10, l7, fun v G9 H9 s9 S11 h6 => ?_⟩
                    obtain ⟨G10, s10, S12, rv, -⟩ := freeze1 S11 h6 hesc
                    have S13 := S12.bump (acc' := acc ++ [v]) nGb
                    have S14 := S13.wipeS vs1
                    rw [w3, w4] at S14
                    have t6 := ((s7.trans s8).trans s9).trans s10
                    have hal : acc.length < 16777216 := by
                      rw [← l4] at hlen2
                      simp only [List.length_append, List.length_cons, ← ra.length] at hlen2
                      omega
                    exact ⟨acc, S12.sb _ _ upd_same, by rw [sizeLine_eq]; exact hal, G10, acc ++ [v], accd ++ [yd], rest', W10, s6.trans t6, S14, (RpL.mono (Sub.of t6) ra).append (.single rv), l8, by rw [List.append_assoc]; exact l4⟩
                  · cases l3
              · have ej : j = ds1.length := by omega
                subst ej
                rw [List.drop_length] at l3
                cases l3
                have S8 := S7.wipeS vs
                rw [wipe_wipe σ3 vs vs1 hv, wipeE_wipeE env3 vs vs1 hv, w1, w2] at S8
                exact .inl ⟨x1.stops G6 H6 (hld1' s6 S7), G6, acc, accd, rest1, W6, (s2.trans t5).trans s6, S8, ra, l2, l4⟩
            · cases e5
        · have ei : i = ds.length := by omega
          subst ei
          rw [List.drop_length] at e5
          cases e5
          rw [List.append_nil] at e6
          subst e6
          refine .inl ⟨w.stops G2 H2 (hld' s2 S2), ?_⟩
          have sB : Same B (upd B D (.lst acc)) := same_upd n2
          have S3 := S1.back (S2.unprot sB) s2 hno
          refine cont (.ref D) G2 H2 (s1.trans s2) S3 ⟨D, .lst acc, rfl, S2.gD nGb, n2, S2.sb _ _ upd_same, ra, fun j ho => ?_⟩
          exact n3 j ho
      · cases e4
    · cases e2
  · cases ev
theorem px_lc2 {tg1 iter1 : Expr} {ifs1 : List Expr} {vs1 : List Nat} {f1 : Ci} {t1 : Tg} {c1 : Ct} (hc : X.calm = true) (hN : X.N.Nodup) (hi : PIX X tg iter f) (ok : BlkOk X.N X.env.scope scope own) (hv : ∀ i ∈ vs1, i ∈ own.map (·.2))
    (hg : ∀ (s : Shared) (H : Hp) (C : Addr) (cl : List (Str × Addr)) (fp : List Addr), PGX (X.blk s H scope (compEnvC scope cl C X.env) fp) tg t (own.map (·.2))) (ht : ∀ (s : Shared) (H : Hp) (C : Addr) (cl : List (Str × Addr)) (fp : List Addr), PTsX (X.blk s H scope (compEnvC scope cl C X.env) fp) ifs c)
    (hi1 : ∀ (s : Shared) (H : Hp) (C : Addr) (cl : List (Str × Addr)) (fp : List Addr), PIX (X.blk s H scope (compEnvC scope cl C X.env) fp) tg1 iter1 f1)
    (hg1 : ∀ (s : Shared) (H : Hp) (C : Addr) (cl : List (Str × Addr)) (fp : List Addr), PGX (X.blk s H scope (compEnvC scope cl C X.env) fp) tg1 t1 vs1) (ht1 : ∀ (s : Shared) (H : Hp) (C : Addr) (cl : List (Str × Addr)) (fp : List Addr), PTsX (X.blk s H scope (compEnvC scope cl C X.env) fp) ifs1 c1)
    (he : ∀ (s : Shared) (H : Hp) (C : Addr) (cl : List (Str × Addr)) (fp : List Addr), PX (X.blk s H scope (compEnvC scope cl C X.env) fp) elt e) (hs : ∀ x, foldedSetIterable iter X.env x = pure x := by intro _; rfl) (hs1 : ∀ env x, foldedSetIterable iter1 env x = pure x := by intro _ _; rfl) :
    PX X (.ListComp elt [⟨tg, iter, ifs, 0⟩, ⟨tg1, iter1, ifs1, 0⟩] scope pos) (cLc2 f t c f1 t1 c1 e (own.map (·.2)) vs1) :=
  PE.imp (pe_lc2 (g := tG X.KW t (own.map (fun p : Str × Nat => p.2))) (tt := tT X.KW c) (te := tE X.KW e) (wi1 := tI X.KW f1) (g1 := tG X.KW t1 vs1) (tt1 := tT X.KW c1) hc hN hi ok hv (fun s H C cl fp => (hg s H C cl fp).pg) ht hi1 (fun s H C cl fp => (hg1 s H C cl fp).pg) ht1 he hs hs1) fun σ H Q q => lc2_step (hg X.s_0 H 0 [] []).ok (hg1 X.s_0 H 0 [] []).ok hv q
theorem psx_setLc2 {i : Nat} {oo : Bool} {y : Str} {py spos : Pos} {tg1 iter1 : Expr} {ifs1 : List Expr} {vs1 : List Nat} {f1 : Ci} {t1 : Tg} {c1 : Ct} (hc : X.calm = true) (hN : X.N.Nodup) (hi : PIX X tg iter f) (ok : BlkOk X.N X.env.scope scope own) (hv : ∀ i ∈ vs1, i ∈ own.map (·.2))
    (hg : ∀ (s : Shared) (H : Hp) (C : Addr) (cl : List (Str × Addr)) (fp : List Addr), PGX (X.blk s H scope (compEnvC scope cl C X.env) fp) tg t (own.map (·.2))) (ht : ∀ (s : Shared) (H : Hp) (C : Addr) (cl : List (Str × Addr)) (fp : List Addr), PTsX (X.blk s H scope (compEnvC scope cl C X.env) fp) ifs c)
    (hi1 : ∀ (s : Shared) (H : Hp) (C : Addr) (cl : List (Str × Addr)) (fp : List Addr), PIX (X.blk s H scope (compEnvC scope cl C X.env) fp) tg1 iter1 f1)
    (hg1 : ∀ (s : Shared) (H : Hp) (C : Addr) (cl : List (Str × Addr)) (fp : List Addr), PGX (X.blk s H scope (compEnvC scope cl C X.env) fp) tg1 t1 vs1) (ht1 : ∀ (s : Shared) (H : Hp) (C : Addr) (cl : List (Str × Addr)) (fp : List Addr), PTsX (X.blk s H scope (compEnvC scope cl C X.env) fp) ifs1 c1)
    (he : ∀ (s : Shared) (H : Hp) (C : Addr) (cl : List (Str × Addr)) (fp : List Addr), PX (X.blk s H scope (compEnvC scope cl C X.env) fp) elt e)
    (hsw : swapsWith (.ListComp elt [⟨tg, iter, ifs, 0⟩, ⟨tg1, iter1, ifs1, 0⟩] scope pos) (some (.Name y py)) spos.line X.env = pure true) (hy : X.N[i]? = some y := by rfl) (hyl : X.env.scope.names.lookup y = some .local := by rfl)
    (hs : ∀ x, foldedSetIterable iter X.env x = pure x := by intro _; rfl) (hs1 : ∀ env x, foldedSetIterable iter1 env x = pure x := by intro _ _; rfl) :
    PSX X (.Assign [.Name y py] (.ListComp elt [⟨tg, iter, ifs, 0⟩, ⟨tg1, iter1, ifs1, 0⟩] scope pos) spos) (sSet i oo (cLc2 f t c f1 t1 c1 e (own.map (·.2)) vs1)) :=
  PS.imp (ps_setLc2 (g := tG X.KW t (own.map (fun p : Str × Nat => p.2))) (tt := tT X.KW c) (te := tE X.KW e) (wi1 := tI X.KW f1) (g1 := tG X.KW t1 vs1) (tt1 := tT X.KW c1) hc hN hy hyl hsw hi ok hv (fun s H C cl fp => (hg s H C cl fp).pg) ht hi1 (fun s H C cl fp => (hg1 s H C cl fp).pg) ht1 he hs hs1) fun D σ H q => lc2_step (hg X.s_0 H 0 [] []).ok (hg1 X.s_0 H 0 [] []).ok hv (set_step q)
end
end PX

namespace PX
open PySem PySem.Spec PyProof.Rows L2

/-! ### a def -/
def env0 (n : Nat) (ds : List PyData) : SEnv := ds.map Sl.pl ++ List.replicate (n - ds.length) .no
def outF : Option Ou → Option PyData
  | some (.rt d _) => some d
  | some (.nx _ _) => some .none
  | _ => none
def runF (n np : Nat) (g : Sx) : List PyData → Option PyData := fun ds => if ds.length = np then outF (g (env0 n ds) []) else none
theorem room_u {k : Nat} {A : Around} (r : Room k A) : A.units + 200 < cLine := by have := r.un; omega
theorem start_get {N : List Str} {vs : List V} {i : Nat} {v : V} (h : vs[i]? = some v) : (L2.start N vs)[i]? = some (some v) := by
  unfold L2.start
  have hi : i < vs.length := by
    rcases Nat.lt_or_ge i vs.length with q | q
    · exact q
    · rw [List.getElem?_eq_none q] at h; cases h
  rw [List.getElem?_append_left (by simpa using hi), List.getElem?_map, h]
  rfl
theorem env0_pl {n : Nat} {ds : List PyData} {i : Nat} {s : Sl} (h : (env0 n ds)[i]? = some s) : s = .no ∨ ∃ d, s = .pl d ∧ ds[i]? = some d := by
  unfold env0 at h
  by_cases hi : i < ds.length
  · rw [List.getElem?_append_left (by simpa using hi), List.getElem?_map, Option.map_eq_some_iff] at h
    obtain ⟨d, h1, h2⟩ := h
    exact .inr ⟨d, h2.symm, h1⟩
  · rw [List.getElem?_append_right (by simpa using hi), List.getElem?_replicate] at h
    split at h
    · cases h; exact .inl rfl
    · cases h
theorem sta0 {K : FW} {N : List Str} {G H : Hp} {vs : List V} {ds : List PyData} (s : Same G H) (r : RpL K G vs ds) (hl : vs.length ≤ N.length) : Sta K H G G H (L2.start N vs) (env0 N.length ds) [] where
  sg := s
  sb := Same.refl _
  sgb := Same.refl _
  gb := fun a o _ n => .inl n
  len := by
    unfold env0 L2.start
    rw [List.length_append, List.length_append, List.length_map, List.length_map, List.length_replicate, List.length_replicate, r.length]
  pl := fun i d e => by
    rcases env0_pl e with z | ⟨d', z, h⟩
    · cases z
    · cases z
      obtain ⟨v, h1, h2⟩ := r.get h
      exact ⟨v, start_get h1, h2⟩
  ow := fun i d e => by
    rcases env0_pl e with z | ⟨d', z, h⟩ <;> cases z
  lk := fun i od o d e => by
    rcases env0_pl e with z | ⟨d', z, h⟩ <;> cases z
  wd := fun i e => by
    rcases env0_pl e with z | ⟨d', z, h⟩ <;> cases z
  sc := fun i d e => by
    rcases env0_pl e with z | ⟨d', z, h⟩ <;> cases z
  one := fun i j e _ => by
    rcases env0_pl e with z | ⟨d', z, h⟩ <;> cases z
  sep := fun i j p h1 h2 => by
    obtain ⟨⟨s, e, o⟩, _⟩ := h1
    rcases env0_pl e with z | ⟨d', z, h⟩
    · subst z; exact absurd o Bool.false_ne_true
    · subst z; exact absurd o Bool.false_ne_true
section
variable {P : Program} {K : FW} {mg : Str → Option Value} {base : Heap} {f : Addr} {fd : FuncData} {N ps : List Str}
theorem fn_rule {x qual : Str} {st : Stmt} {k np : Nat} {g : Sx} (F : Fun K x qual st f fd) (S : FnScope N ps (defScope st)) (hnp : ps.length = np) (hN : np ≤ N.length)
    (hb : ∀ (cdv : Value) (A : Around) (outer : List Env) (s : Shared) (H : Hp) (E : XK), Room k (A.deeper (envOfC qual (defScope st) s.heap.objs.size f cdv)) → PSsX (cxOf CX0 P K.w K.k mg base N qual (defScope st) f cdv A outer s H E).nox (defBody st) g) :
    FnOk P K.w K.k mg base CX0 (k + 1) f fd ps (spF K np (runF N.length np g)) := by
  refine F.ok S (fun vs H Q E h => h.1.trans hnp.symm) (fun cdv A outer s H vs Q E hr h => ⟨_, hb cdv A outer s H E hr, ?_⟩)
  obtain ⟨hl, G, ds, d, sg, r, hF, c⟩ := h
  unfold runF at hF
  split at hF
  · rename_i hds
    cases o : g (env0 N.length ds) [] with
    | none => rw [o] at hF; cases hF
    | some o' =>
      rw [o] at hF
      refine ⟨H, G, G, _, [], o', sta0 sg r (by omega), o, ?_⟩
      cases o' with
      | nx e W =>
        cases hF
        exact fun σ G1 H1 s1 S1 => c .non G1 H1 S1.sb S1.sgb S1.sg S1.gb .non
      | rt d' W =>
        cases hF
        exact fun v G1 H1 s1 F1 => c v G1 H1 F1.sb F1.sgb F1.sg F1.gb F1.rp
      | bk e W => cases hF
      | ct e W => cases hF
  · cases hF
theorem fn_none {np : Nat} {ps : List Str} : FnOk P K.w K.k mg base CX0 0 f fd ps (spF K np (fun _ => none)) :=
  have no : ∀ vs H Q E, ¬ spF K np (fun _ => none) vs H Q E := fun vs H Q E h => by
    obtain ⟨_, _, _, _, _, _, h, _⟩ := h
    cases h
  ⟨fun vs H Q E h => absurd h (no vs H Q E), fun A outer s H args us vs Q E _ _ _ _ h => absurd h (no vs H Q E)⟩
theorem fn_noneK {np k : Nat} {ps : List Str} : FnOk P K.w K.k mg base CX0 k f fd ps (spF K np (fun _ => none)) := fn_none.mono (Nat.zero_le _)
end

/-! ### the draws -/
def nextV (ns : List Int) (k : Nat) (m : Int) : Int := match ns[k]? with
  | some x => x % m
  | none => 0
def spNext (K : FW) : Sp := fun vs H Q _ => ∃ (p l : Addr) (ns : List Int) (k : Nat) (m : Int), vs = [.ref p, .int m] ∧ H p = some (wdO l (k : Nat)) ∧ H l = some (.lst (ns.map V.int)) ∧ p ≠ l ∧ 0 < m ∧ Q (.int (nextV ns k m)) (upd H p (wdO l ((k + 1 : Nat) : Int)))
theorem wd_get (l : Addr) (k : Int) : valV [((Sum.inr (Str.ofString "draws") : Key), V.ref l), (Sum.inr (Str.ofString "at"), V.int k)] (Sum.inr (Str.ofString "at")) = some (.int k) := rfl
theorem wd_getL (l : Addr) (k : Int) : valV [((Sum.inr (Str.ofString "draws") : Key), V.ref l), (Sum.inr (Str.ofString "at"), V.int k)] (Sum.inr (Str.ofString "draws")) = some (.ref l) := rfl
theorem wd_put (l : Addr) (k j : Int) : HO.dK (putK [((Sum.inr (Str.ofString "draws") : Key), V.ref l), (Sum.inr (Str.ofString "at"), V.int k)] (Sum.inr (Str.ofString "at")) (.int j)) = wdO l j := rfl
section
variable {P : Program} {K : FW} {mg : Str → Option Value} {base : Heap}
def rLen (K : FW) : List V → Hp → VK → Prop := fun xs H Q => ∃ p ys, xs = [.ref p] ∧ (SqL K H p ys ∨ SqT K H p ys) ∧ Q (.int ys.length) H
def rInt1 : List V → Hp → VK → Prop := fun xs H Q => (∃ i, xs = [.int i] ∧ Q (.int i) H) ∨ ∃ k, xs = [.bl k] ∧ Q (.int (if k then 1 else 0)) H
def rAt : TE := tC (.str "at")
def rDr : TE := tC (.str "draws")
def tNx (K : FW) : TS :=
  tSeq (L2.sDAug (tVar 0) rAt (tC (.int 1)) rAdd)
  (tSeq (tIfS (tTest (tOp (rI0 fun i j => .bl (decide (j < i))) (tDGet (tVar 0) rAt) (tCB (rLen K) (tCons (tDGet (tVar 0) rDr) tNil)))) (tRet (tC (.int 0))) L2.tNext)
  (tRet (tOp (rI (fun _ j => 0 < j) fun i j => .int (i % j)) (tCB rInt1 (tCons (tOp (rIxL K) (tDGet (tVar 0) rDr) (tOp (rI0 fun i j => .int (i - j)) (tDGet (tVar 0) rAt) (tC (.int 1)))) tNil)) (tVar 1))))
theorem next_reads {H : Hp} {vs : List V} {Q : VK} {E : XK} (h : spNext K vs H Q E) : tNx K { nx := fun _ H' => Q .non H', rt := Q } (L2.start ["w", "many"] vs) H := by
  obtain ⟨p, l, ns, k, m, rfl, hw, hl, hne, hm, q⟩ := h
  have e1 : ((k : Nat) : Int) + 1 = ((k + 1 : Nat) : Int) := by omega
  refine ⟨_, rfl, p, .int k, rfl, .inl ⟨_, Sum.inr (Str.ofString "at"), .inl hw, rfl, rfl⟩, k, 1, rfl, rfl, _, .inl ⟨_, Sum.inr (Str.ofString "at"), hw, rfl, by rw [sizeLine_eq]; show 2 < 16777216; decide, rfl⟩, ?_⟩
  rw [wd_put, e1]
  have hw2 : (upd H p (wdO l ((k + 1 : Nat) : Int))) p = some (wdO l ((k + 1 : Nat) : Int)) := upd_same
  have hl2 : (upd H p (wdO l ((k + 1 : Nat) : Int))) l = some (.lst (ns.map V.int)) := by rw [upd_ne (Ne.symm hne)]; exact hl
  generalize upd H p (wdO l ((k + 1 : Nat) : Int)) = H2 at hw2 hl2 q
  refine ⟨_, rfl, p, .int ((k + 1 : Nat) : Int), rfl, .inl ⟨_, Sum.inr (Str.ofString "at"), .inl hw2, rfl, rfl⟩, _, rfl, p, .ref l, rfl, .inl ⟨_, Sum.inr (Str.ofString "draws"), .inl hw2, rfl, rfl⟩, l, _, rfl, .inl (.of hl2), _, _, rfl, rfl, _, rfl, ?_⟩
  rw [List.length_map]
  unfold nextV at q
  by_cases hk : k < ns.length
  · rw [List.getElem?_eq_getElem hk] at q
    dsimp only
    rw [if_neg (by rw [decide_eq_true_eq]; omega)]
    refine ⟨_, rfl, p, .ref l, rfl, .inl ⟨_, Sum.inr (Str.ofString "draws"), .inl hw2, rfl, rfl⟩, _, rfl, p, .int ((k + 1 : Nat) : Int), rfl, .inl ⟨_, Sum.inr (Str.ofString "at"), .inl hw2, rfl, rfl⟩, ((k + 1 : Nat) : Int), 1, rfl, rfl, l, _, (((k + 1 : Nat) : Int) - 1), .int ns[k], rfl, rfl, .of hl2, ?_, .inl ⟨_, rfl, _, rfl, _, _, rfl, rfl, hm, q⟩⟩
    have e2 : ((k + 1 : Nat) : Int) - 1 = (k : Nat) := by omega
    rw [e2]
    exact atI_nat (by rw [List.getElem?_map, List.getElem?_eq_getElem hk]; rfl)
  · rw [List.getElem?_eq_none (by omega)] at q
    dsimp only
    rw [if_pos (by rw [decide_eq_true_eq]; omega)]
    exact q
theorem next_rule {f : Addr} {fd : FuncData} {st : Stmt} {k : Nat} (F : Fun K "_law_next" "_law_next" st f fd) (S : FnScope ["w", "many"] ["w", "many"] (defScope st))
    (hb : ∀ (cdv : Value) (A : Around) (outer : List Env) (s : Shared) (H : Hp) (E : XK), Room k (A.deeper (envOfC "_law_next" (defScope st) s.heap.objs.size f cdv)) → PSs (cxOf CX0 P K.w K.k mg base ["w", "many"] "_law_next" (defScope st) f cdv A outer s H E).nox (defBody st) (tNx K)) :
    FnOk P K.w K.k mg base CX0 (k + 1) f fd ["w", "many"] (spNext K) := by
  refine F.ok S (fun vs H Q E h => ?_) (fun cdv A outer s H vs Q E hr h => ⟨_, hb cdv A outer s H E hr, next_reads h⟩)
  obtain ⟨p, l, ns, k, m, rfl, _⟩ := h
  rfl
end
/-- _law_next(w, e): the slot of w is i -/
def cNext (i : Nat) (f : Ex) : Ex := fun env W => match env[i]?, f env W with
  | some .wd, some (.int m, _, W1) => if 0 < m then (match W1 with
    | [] => some (.int 0, .im, [])
    | x :: r => some (.int (x % m), .im, r)) else none
  | _, _ => none
theorem drop_get {ns : List Int} {k : Nat} : ∀ {W : List Int}, W = ns.drop k → (match ns[k]? with | some x => W = x :: ns.drop (k + 1) | none => W = [] ∧ ns.drop (k + 1) = []) := fun {W} h => by
  by_cases hk : k < ns.length
  · rw [List.getElem?_eq_getElem hk]
    rw [h, List.drop_eq_getElem_cons hk]
  · rw [List.getElem?_eq_none (by omega)]
    exact ⟨by rw [h, List.drop_eq_nil_of_le (by omega)], List.drop_eq_nil_of_le (by omega)⟩
/-- the state behind a draw -/
theorem Sta.next {K : FW} {B Gb G H : Hp} {σ : L2.St} {env : SEnv} {W W' : List Int} (S : Sta K B Gb G H σ env W) {i : Nat} {p l : Addr} {ns : List Int} {k : Nat} (e : env[i]? = some .wd) (h1 : σ[i]? = some (some (V.ref p))) (h2 : G p = none) (h3 : B p = none)
    (h5 : G l = some (.lst (ns.map V.int))) (h6 : W' = ns.drop k) : Sta K B Gb G (upd H p (wdO l (k : Nat))) σ env W' := by
  have me : Own env σ i p := ⟨⟨_, e, rfl⟩, h1⟩
  have keep : ∀ (X : Hp), X p = none → Same X H → Same X (upd H p (wdO l (k : Nat))) := fun X hx s a u q => by
    rw [upd_ne (ne_of_none q hx)]
    exact s _ _ q
  have other : ∀ {j q}, j ≠ i → Own env σ j q → q ≠ p := fun ne h z => ne (S.sep _ i p (z ▸ h) me)
  exact {
    sg := keep G h2 S.sg
    sb := keep B h3 S.sb
    sgb := S.sgb
    gb := S.gb
    len := S.len
    pl := S.pl
    ow := fun j d e' => by
      obtain ⟨q, u, a1, a2, a3, a4, a5⟩ := S.ow j d e'
      have ne : j ≠ i := fun z => by subst z; rw [e] at e'; cases e'
      exact ⟨q, u, a1, a2, a3, by rw [upd_ne (other ne ⟨⟨_, e', rfl⟩, a1⟩)]; exact a4, a5⟩
    lk := fun j od o d e' => by
      obtain ⟨q, a1, a2, a3, a4, a5⟩ := S.lk j od o d e'
      have ne : j ≠ i := fun z => by subst z; rw [e] at e'; cases e'
      exact ⟨q, a1, a2, a3, by rw [upd_ne (other ne ⟨⟨_, e', rfl⟩, a1⟩)]; exact a4, a5⟩
    wd := fun j e' => by
      obtain ⟨q, l', ns', k', a1, a2, a3, a4, a5, a6⟩ := S.wd j e'
      by_cases ne : j = i
      · subst ne
        rw [h1] at a1
        cases a1
        exact ⟨p, l, ns, k, h1, h2, h3, upd_same, h5, h6⟩
      · exact absurd (S.one j i e' e) ne
    sc := S.sc
    one := S.one
    sep := S.sep }
section
variable {X : Cx} {e1 e2 : Expr} {pos p : Pos} {g : Ex}
theorem px_next {k : Nat} {fa : Addr} {fd : FuncData} (i : Nat) (hF : FnOk X.prog X.w X.KW X.mg X.base CX0 k fa fd ["w", "many"] (spNext X.KW)) (hr : Room k X.A) (hg : Gl X "_law_next") (hm : X.mg "_law_next" = some (.ref fa))
    (hk : PySem.W.keepIn X.KW (.ref fa) = true) (hb : Binds X.KW fd ["w", "many"] []) (hw : PE X e1 (tVar i)) (ha : PX X e2 g)
    (he : starEach [e1, e2] X.env = (false, eval e1 X.env) :: starEach [e2] X.env := by rfl) (he2 : starEach [e2] X.env = (false, eval e2 X.env) :: starEach [] X.env := by rfl) (hpl : (backTo pos (starEach [e2] X.env)).any (·.1) = false := by rfl) : PX X (.Call (.Name "_law_next" p) [e1, e2] [] pos) (cNext i g) := by
  refine PE.imp (pe_call (E := E0) hF hr hg hm hk hb .nil pass0 (pa_cons hw (pa_cons ha pa_nil he2) he) (by decide) he hpl) fun σ H Q q => ?_
  obtain ⟨B, Gb, G, env, W, d, k, W', S, e, c⟩ := q
  unfold cNext at e
  split at e
  · rename_i m km W1 ew eg
    split at e
    · rename_i hm
      obtain ⟨p, l, ns, n, h1, h2, h3, h4, h5, h6⟩ := S.wd i ew
      refine ⟨_, h1, B, Gb, G, env, W, _, _, _, S, eg, fun v G1 H1 s1 S1 hv => ?_⟩
      obtain rfl := hv.int S1
      obtain ⟨p', l', ns', n', a1, a2, a3, a4, a5, a6⟩ := S1.wd i ew
      rw [h1] at a1
      cases a1
      refine ⟨p, l', ns', n', m, rfl, a4, S1.sg _ _ a5, fun z => ?_, hm, ?_⟩
      · subst z
        rw [a2] at a5; cases a5
      · have dg := drop_get a6
        unfold nextV
        cases hq : ns'[n']? with
        | none =>
          rw [hq] at dg
          obtain ⟨rfl, dg⟩ := dg
          cases e
          exact c _ G1 _ s1 (S1.next ew h1 a2 a3 a5 dg.symm) (Rp.int 0)
        | some x =>
          rw [hq] at dg
          dsimp only at dg
          subst dg
          cases e
          exact c _ G1 _ s1 (S1.next ew h1 a2 a3 a5 rfl) (Rp.int _)
    · cases e
  · cases e

/-! ### the script -/
def cScLen (i : Nat) : Ex := fun env W => match env[i]? with
  | some (.sc ns) => if ns.length ≤ 1000 then some (.int ns.length, .im, W) else none
  | _ => none
def cScAt (i : Nat) (f : Ex) : Ex := fun env W => match env[i]?, f env W with
  | some (.sc ns), some (.int k, _, W') => (L2.atI ns k).map fun x => (.int x, .im, W')
  | _, _ => none
theorem px_scLen (i : Nat) (hg : Gl X "len") (hm : X.mg "len" = none) (hw : PE X e1 (tVar i)) (he : starEach [e1] X.env = (false, eval e1 X.env) :: starEach [] X.env := by rfl) : PX X (.Call (.Name "len" p) [e1] [] pos) (cScLen i) :=
  PE.imp (pe_callB call_len_seq hg hm PySem.boot_len (pa_cons hw pa_nil he) (by decide) (by decide) he rfl) fun σ H Q q => by
    obtain ⟨B, Gb, G, env, W, d, k, W', S, e, c⟩ := q
    unfold cScLen at e
    split at e
    · rename_i ns ew
      split at e
      · cases e
        obtain ⟨p, h1, h2⟩ := S.sc i ns ew
        refine ⟨_, h1, p, _, rfl, .inl (S.sg.seq h2), ?_⟩
        rw [List.length_map]
        exact c _ G H (Same.refl _) S (Rp.int _)
      · cases e
    · cases e
theorem px_scAt (i : Nat) (hw : PE X e1 (tVar i)) (ha : PX X e2 g) (hs : PlainIx e2 := by intro _ _; rfl) : PX X (.Subscript e1 e2 pos) (cScAt i g) :=
  PE.imp (pe_ix ix_list hw ha hs) fun σ H Q q => by
    obtain ⟨B, Gb, G, env, W, d, k, W', S, e, c⟩ := q
    unfold cScAt at e
    split at e
    · rename_i ns k0 kk W1 ew eg
      rw [Option.map_eq_some_iff] at e
      obtain ⟨x, e1, e2⟩ := e
      cases e2
      obtain ⟨p, h1, h2⟩ := S.sc i ns ew
      refine ⟨_, h1, B, Gb, G, env, W, _, _, _, S, eg, fun v G1 H1 s1 S1 hv => ?_⟩
      obtain rfl := hv.int S1
      refine ⟨p, _, k0, .int x, rfl, rfl, S1.sg.seq (s1.seq h2), ?_, c _ G1 _ s1 S1 (Rp.int x)⟩
      unfold L2.atI at *
      rw [Option.bind_eq_some_iff] at e1
      obtain ⟨j, j1, j2⟩ := e1
      rw [List.length_map, j1]
      show (ns.map V.int)[j]? = some (V.int x)
      rw [List.getElem?_map, j2]
      rfl
    · cases e
end

/-! ### the draws' def, the law -/
/-- any list of numbers below 997 -/
def drOk (ds : List Int) : Prop := ds.length ≤ 1000 ∧ ∀ x ∈ ds, 0 ≤ x ∧ x < 997
def spDraws (K : FW) (many : Int) : Sp := fun vs H Q _ => ∃ (a : Addr) (ns : List Int), vs = [.ref a, .int many] ∧ SqL K H a (ns.map V.int) ∧ ns.length ≤ 63 ∧ ∀ (ds : List Int) (H' : Hp) (l : Addr), drOk ds → Same H H' → H' l = some (.lst (ds.map V.int)) → Q (.ref l) H'
def spLaw (K : FW) : Sp := fun vs H Q _ => ∃ (a : Addr) (ns : List Int), vs = [.ref a] ∧ SqL K H a (ns.map V.int) ∧ ns.length ≤ 63 ∧ ∀ H', Q (.bl true) H'
def envL (n : Nat) : SEnv := Sl.no :: Sl.wd :: List.replicate (n - 2) Sl.no
section
variable {P : Program} {K : FW} {mg : Str → Option Value} {base : Heap} {f : Addr} {fd : FuncData} {N : List Str}
def tW (K : FW) (many : Int) : TS := fun D σ H => tDisp [(tC (.str "draws"), tCall (spDraws K many) [] E0 (tCons (tVar 0) (tCons (tC (.int many)) tNil))), (tC (.str "at"), tC (.int 0))] σ H fun x H1 => D.nx (σ.set 1 (some x)) H1
theorem envL_no {n i : Nat} {s : Sl} (h : (envL n)[i]? = some s) : s = .no ∨ (i = 1 ∧ s = .wd) := by
  unfold envL at h
  match i with
  | 0 => simp at h; exact .inl h.symm
  | 1 => simp at h; exact .inr ⟨rfl, h.symm⟩
  | i + 2 =>
    simp only [List.getElem?_cons_succ, List.getElem?_replicate] at h
    split at h
    · cases h; exact .inl rfl
    · cases h
theorem law_rule {st : Stmt} {k : Nat} {many : Int} {g : Sx} (F : Fun K "law" "law" st f fd) (S : FnScope N ["script"] (defScope st)) (hN : 2 ≤ N.length) (hg : ∀ W, drOk W → ∃ W', g (envL N.length) W = some (.rt (.bool true) W'))
    (hb : ∀ (cdv : Value) (A : Around) (outer : List Env) (s : Shared) (H : Hp) (E : XK), Room k (A.deeper (envOfC "law" (defScope st) s.heap.objs.size f cdv)) → PSs (cxOf CX0 P K.w K.k mg base N "law" (defScope st) f cdv A outer s H E).nox (defBody st) (tSeq (tW K many) (tS K g))) :
    FnOk P K.w K.k mg base CX0 (k + 1) f fd ["script"] (spLaw K) := by
  refine F.ok S (fun vs H Q E h => ?_) (fun cdv A outer s H vs Q E hr h => ⟨_, hb cdv A outer s H E hr, ?_⟩)
  · obtain ⟨a, ns, rfl, _⟩ := h
    rfl
  obtain ⟨a, ns, rfl, hS, h63, q⟩ := h
  intro p hp
  have s1 : Same H (upd H p (.dK [])) := same_upd hp
  refine ⟨.ref a, rfl, a, ns, rfl, s1.seq hS, h63, fun ds H2 l hd s2 hl => ⟨s2 _ _ upd_same, [(Sum.inr (Str.ofString "draws"), V.ref l), (Sum.inr (Str.ofString "at"), V.int 0)], rfl, by show 2 ≤ 15; decide, ?_⟩⟩
  show tS K g _ ((L2.start N [V.ref a]).set 1 (some (V.ref p))) (upd H2 p (wdO l 0))
  have hpl : l ≠ p := fun z => by
    subst z
    have := s2 _ _ upd_same
    rw [hl] at this
    cases this
  obtain ⟨W', e⟩ := hg ds hd
  have hlen : (L2.start N [V.ref a]).length = N.length := by
    unfold L2.start
    rw [List.length_append, List.length_map, List.length_replicate]
    show 1 + (N.length - 1) = N.length
    omega
  have own1 : ∀ {i q}, Own (envL N.length) ((L2.start N [V.ref a]).set 1 (some (V.ref p))) i q → i = 1 := fun {i q} ⟨⟨s, e, o⟩, _⟩ => by
    rcases envL_no e with z | ⟨z, _⟩
    · subst z; exact absurd o Bool.false_ne_true
    · exact z
  refine ⟨fun _ => none, upd (fun _ => none) l (.lst (ds.map V.int)), upd (fun _ => none) l (.lst (ds.map V.int)), envL N.length, ds, _, ?_, e, fun v G1 H1 t1 Fn => ?_⟩
  · exact {
      sg := fun b x e => by
        by_cases z : b = l
        · subst z
          rw [upd_same] at e
          cases e
          rw [upd_ne hpl]
          exact hl
        · rw [upd_ne z] at e; cases e
      sb := fun b x e => nomatch e
      sgb := Same.refl _
      gb := fun a o e _ => nomatch e
      len := by
        rw [List.length_set, hlen]
        unfold envL
        rw [List.length_cons, List.length_cons, List.length_replicate]
        omega
      pl := fun i d e => by rcases envL_no e with z | ⟨_, z⟩ <;> cases z
      ow := fun i d e => by rcases envL_no e with z | ⟨_, z⟩ <;> cases z
      lk := fun i od o d e => by rcases envL_no e with z | ⟨_, z⟩ <;> cases z
      wd := fun i e => by
        rcases envL_no e with z | ⟨z, _⟩
        · cases z
        · subst z
          exact ⟨p, l, ds, 0, List.getElem?_set_self (by omega), by rw [upd_ne (Ne.symm hpl)], rfl, upd_same, upd_same, rfl⟩
      sc := fun i d e => by rcases envL_no e with z | ⟨_, z⟩ <;> cases z
      one := fun i j e1 e2 => by
        rcases envL_no e1 with z | ⟨z1, _⟩
        · cases z
        · rcases envL_no e2 with z | ⟨z2, _⟩
          · cases z
          · rw [z1, z2]
      sep := fun i j q h1 h2 => by rw [own1 h1, own1 h2] }
  · have hv := Fn.rp
    cases hv
    exact q H1
def envS (n : Nat) (ns : List Int) (many : Int) : SEnv := Sl.sc ns :: Sl.pl (.int many) :: List.replicate (n - 2) Sl.no
theorem envS_no {n i : Nat} {ns : List Int} {many : Int} {s : Sl} (h : (envS n ns many)[i]? = some s) : s = .no ∨ (i = 0 ∧ s = .sc ns) ∨ (i = 1 ∧ s = .pl (.int many)) := by
  unfold envS at h
  match i with
  | 0 => simp at h; exact .inr (.inl ⟨rfl, h.symm⟩)
  | 1 => simp at h; exact .inr (.inr ⟨rfl, h.symm⟩)
  | i + 2 =>
    simp only [List.getElem?_cons_succ, List.getElem?_replicate] at h
    split at h
    · cases h; exact .inl rfl
    · cases h
theorem draws_rule {st : Stmt} {k : Nat} {many : Int} {g : Sx} (F : Fun K "_law_draws" "_law_draws" st f fd) (S : FnScope N ["script", "many"] (defScope st)) (hN : 2 ≤ N.length) (hg : ∀ ns : List Int, ns.length ≤ 63 → ∃ ds W', g (envS N.length ns many) [] = some (.rt (.list (ds.map PyData.int)) W') ∧ drOk ds)
    (hb : ∀ (cdv : Value) (A : Around) (outer : List Env) (s : Shared) (H : Hp) (E : XK), Room k (A.deeper (envOfC "_law_draws" (defScope st) s.heap.objs.size f cdv)) → PSsX (cxOf CX0 P K.w K.k mg base N "_law_draws" (defScope st) f cdv A outer s H E).nox (defBody st) g) :
    FnOk P K.w K.k mg base CX0 (k + 1) f fd ["script", "many"] (spDraws K many) := by
  refine F.ok S (fun vs H Q E h => ?_) (fun cdv A outer s H vs Q E hr h => ⟨_, hb cdv A outer s H E hr, ?_⟩)
  · obtain ⟨a, ns, rfl, _⟩ := h
    rfl
  obtain ⟨a, ns, rfl, hS, h63, q⟩ := h
  obtain ⟨ds, W', e, hd⟩ := hg ns h63
  have own1 : ∀ {i q}, ¬ Own (envS N.length ns many) (L2.start N [V.ref a, .int many]) i q := fun {i q} ⟨⟨s, e, o⟩, _⟩ => by
    rcases envS_no e with z | ⟨_, z⟩ | ⟨_, z⟩ <;> (subst z; exact absurd o Bool.false_ne_true)
  refine ⟨H, H, H, envS N.length ns many, [], _, ?_, e, fun v G1 H1 t1 Fn => ?_⟩
  · exact {
      sg := Same.refl _
      sb := Same.refl _
      sgb := Same.refl _
      gb := fun a o e z => .inl z
      len := by
        unfold envS L2.start
        rw [List.length_append, List.length_map, List.length_replicate, List.length_cons, List.length_cons, List.length_replicate]
        show N.length - 2 + 1 + 1 = 2 + (N.length - 2)
        omega
      pl := fun i d e => by
        rcases envS_no e with z | ⟨_, z⟩ | ⟨z, z2⟩
        · cases z
        · cases z
        · cases z2
          subst z
          exact ⟨_, start_get rfl, .int many⟩
      ow := fun i d e => by rcases envS_no e with z | ⟨_, z⟩ | ⟨_, z⟩ <;> cases z
      lk := fun i od o d e => by rcases envS_no e with z | ⟨_, z⟩ | ⟨_, z⟩ <;> cases z
      wd := fun i e => by rcases envS_no e with z | ⟨_, z⟩ | ⟨_, z⟩ <;> cases z
      sc := fun i d e => by
        rcases envS_no e with z | ⟨z, z2⟩ | ⟨_, z⟩
        · cases z
        · cases z2
          subst z
          exact ⟨_, start_get rfl, hS⟩
        · cases z
      one := fun i j e _ => by rcases envS_no e with z | ⟨_, z⟩ | ⟨_, z⟩ <;> cases z
      sep := fun i j q h1 h2 => absurd h1 own1 }
  · have hv := Fn.rp
    cases hv with
    | lst ha ra =>
      have e2 := RpL.of_ints ra
      subst e2
      exact q ds H1 _ hd Fn.sb (Fn.sg _ _ ha)
end
end PX

namespace PX
open PySem PySem.Spec PyProof.Rows L2
theorem room_64 {k : Nat} {A : Around} (r : Room k A) : A.units + 64 < cLine := by have := r.un; omega
theorem room_1 {k : Nat} {A : Around} (r : Room k A) : A.units + 1 < cLine := by have := r.un; omega
/-- a def of the text that may be called -/
structure Cal (P : Program) (w : World) (K : FW) (mg : Str → Option Value) (base : Heap) (x : Str) (k : Nat) (ps : List Str) (sp : Sp) : Prop where
  ex : ∃ fa fd, FnOk P K.w K.k mg base CX0 k fa fd ps sp ∧ mg x = some (.ref fa) ∧ PySem.W.keepIn K (.ref fa) = true ∧ Binds K fd ps []
section
variable {X : Cx} {e : Expr} {es : List Expr} {f g : Ex} {fs : List Ex} {pos p : Pos}
theorem px_fnC {k j n : Nat} {x : Str} {F : List PyData → Option PyData} {ps : List Str} (C : Cal X.prog X.w X.KW X.mg X.base x k ps (spF X.KW n F)) (hr : Room j X.A) (ha : PXs X (e :: es) fs) (hn : (e :: es).length = n := by rfl) (hj : k ≤ j := by decide) (hg : Gl X x := by rfl) (hdb : (x == ("__debug__" : Str)) = false := by decide)
    (he : starEach (e :: es) X.env = (false, eval e X.env) :: starEach es X.env := by rfl) (hpl : (backTo pos (starEach es X.env)).any (·.1) = false := by rfl) (hl : fs.length = n := by rfl) : PX X (.Call (.Name x p) (e :: es) [] pos) (cFn F fs) := by
  obtain ⟨fa, fd, h1, h2, h3, h4⟩ := C.ex
  exact px_fn h1 (hr.mono hj) hg h2 h3 h4 ha hn hdb he hpl hl
theorem px_nextC {k j : Nat} {e1 e2 : Expr} (i : Nat) (C : Cal X.prog X.w X.KW X.mg X.base "_law_next" k ["w", "many"] (spNext X.KW)) (hr : Room j X.A) (hw : PE X e1 (tVar i)) (ha : PX X e2 g) (hj : k ≤ j := by decide) (hg : Gl X "_law_next" := by rfl)
    (he : starEach [e1, e2] X.env = (false, eval e1 X.env) :: starEach [e2] X.env := by rfl) (he2 : starEach [e2] X.env = (false, eval e2 X.env) :: starEach [] X.env := by rfl) (hpl : (backTo pos (starEach [e2] X.env)).any (·.1) = false := by rfl) : PX X (.Call (.Name "_law_next" p) [e1, e2] [] pos) (cNext i g) := by
  obtain ⟨fa, fd, h1, h2, h3, h4⟩ := C.ex
  exact px_next i h1 (hr.mono hj) hg h2 h3 h4 hw ha he he2 hpl
end
end PX

namespace PX
open PySem PySem.Spec PyProof.Rows L2
/-! ### loops, plainly -/
theorem forL_inv {t : Tg} {g : Sx} {W : List Int} (I : Nat → SEnv → Prop) : ∀ (ds : List PyData) (j : Nat) (env : SEnv), I j env → (∀ i d env, ds[i]? = some d → I (j + i) env → ∃ e1, t d env = some e1 ∧ ∃ e2, g e1 W = some (.nx e2 W) ∧ I (j + i + 1) e2) → ∃ env', forL t g ds env W = some (.nx env' W) ∧ I (j + ds.length) env'
  | [], j, env, h, _ => ⟨env, rfl, h⟩
  | d :: ds, j, env, h, st => by
    obtain ⟨e1, h1, e2, h2, h3⟩ := st 0 d env rfl h
    obtain ⟨e', h4, h5⟩ := forL_inv I ds (j + 1) e2 h3 fun i d env hd hi => by
      have e : j + (i + 1) = j + 1 + i := by omega
      have := st (i + 1) d env (by simpa using hd) (by rw [e]; exact hi)
      rw [e] at this
      exact this
    refine ⟨e', ?_, ?_⟩
    · simp only [forL, h1, Option.bind_some, h2]
      exact h4
    · have e : j + (d :: ds).length = j + 1 + ds.length := by rw [List.length_cons]; omega
      rw [e]
      exact h5
def gDraws : Sx := sSeq (sSet 2 true (cCall oLst [])) (sSeq (sSet 3 false (cK (.int 7))) (sSeq (sFor (iR1 (cScLen 0)) (gN 4) (sSeq (sSet 5 false (cCall oAbs [cCall oInt [cScAt 0 (cVar 4)]])) (sSeq (sSet 3 false (cCall oMod [cCall oInt [cCall oAdd [cCall oAdd [cCall oMul [cVar 3, cK (.int 48271)], cCall oMod [cVar 5, cK (.int 1000003)]], cVar 4]], cK (.int 65537)])) (sSeq (sSet 6 false (cK (.int 0))) (sSeq (sIf (bOf (cCall oGe [cVar 5, cCall oPow [cK (.int 10), cK (.int 18)]])) (sSeq (sSet 6 false (cVar 5)) (sNil)) (sSeq (sApp 2 (cCall oMod [cCall oInt [cVar 5], cK (.int 997)])) (sSeq (sApp 2 (cCall oMod [cCall oMod [cCall oInt [cCall oAdd [cCall oMul [cVar 3, cK (.int 69621)], cK (.int 5)]], cK (.int 65521)], cK (.int 997)])) (sNil)))) (sSeq (sFor (iR1 (cK (.int 60))) (gN 7) (sSeq (sIf (bOf (cCall oGt [cVar 6, cK (.int 0)])) (sSeq (sApp 2 (cCall oMod [cCall oInt [cVar 6], cK (.int 997)])) (sSeq (sSet 6 false (cCall oDiv [cVar 6, cK (.int 997)])) (sNil))) (sNil)) (sNil))) (sWipe [7] (sNil)))))))) (sWipe [5, 6, 7] (sSeq (sFor (iR1 (cVar 1)) (gN 4) (sSeq (sSet 3 false (cCall oMod [cCall oInt [cCall oAdd [cCall oAdd [cCall oMul [cVar 3, cK (.int 16807)], cVar 4], cK (.int 1)]], cK (.int 65537)])) (sSeq (sApp 2 (cCall oMod [cCall oInt [cVar 3], cK (.int 997)])) (sNil)))) (sSeq (sRetK (cSlice (cVar 2) none (some (cVar 1)))) (sNil))))))
def drB (n : Nat) (ds : List Int) : Prop := ds.length ≤ n ∧ ∀ x ∈ ds, 0 ≤ x ∧ x < 997
theorem drB.app {n : Nat} {ds : List Int} {x : Int} (h : drB n ds) (h0 : 0 ≤ x) (h1 : x < 997) : drB (n + 1) (ds ++ [x]) := by
  refine ⟨by rw [List.length_append]; have := h.1; show ds.length + 1 ≤ n + 1; omega, fun y hy => ?_⟩
  rcases List.mem_append.mp hy with e | e
  · exact h.2 y e
  · rw [List.mem_singleton.mp e]; exact ⟨h0, h1⟩
theorem drB.mono {n m : Nat} {ds : List Int} (h : drB n ds) (e : n ≤ m) : drB m ds := ⟨Nat.le_trans h.1 e, h.2⟩
theorem fmod_rng (a b : Int) (h : 0 < b) : 0 ≤ a.fmod b ∧ a.fmod b < b := by
  rw [Int.fmod_eq_emod_of_nonneg a (by omega)]
  exact ⟨Int.emod_nonneg _ (by omega), Int.emod_lt_of_pos _ h⟩
/-- the draws' state -/
def dEnv (ns : List Int) (many : Int) (ds : List Int) (m : Int) (s4 s5 s6 s7 : Sl) : SEnv := [.sc ns, .pl (.int many), .ow (.list (ds.map PyData.int)), .pl (.int m), s4, s5, s6, s7]
theorem dr_loop2 (ns : List Int) (many m : Int) (s4 s5 : Sl) (W : List Int) (n : Nat) (hn : n ≤ 1000000) (ds : List Int) (r : Int) (s7 : Sl) (h : drB n ds) :
    ∃ ds' r' s7', forL (gN 7) (sSeq (sIf (bOf (cCall oGt [cVar 6, cK (.int 0)])) (sSeq (sApp 2 (cCall oMod [cCall oInt [cVar 6], cK (.int 997)])) (sSeq (sSet 6 false (cCall oDiv [cVar 6, cK (.int 997)])) (sNil))) (sNil)) (sNil)) (rgI 0 60) (dEnv ns many ds m s4 s5 (.pl (.int r)) s7) W = some (.nx (dEnv ns many ds' m s4 s5 (.pl (.int r')) s7') W) ∧ drB (n + 60) ds' := by
  obtain ⟨e', h1, ds', r', s7', h2, h3⟩ := forL_inv (t := gN 7) (g := sSeq (sIf (bOf (cCall oGt [cVar 6, cK (.int 0)])) (sSeq (sApp 2 (cCall oMod [cCall oInt [cVar 6], cK (.int 997)])) (sSeq (sSet 6 false (cCall oDiv [cVar 6, cK (.int 997)])) (sNil))) (sNil)) (sNil)) (W := W) (fun i env => ∃ ds' r' s7', env = dEnv ns many ds' m s4 s5 (.pl (.int r')) s7' ∧ drB (n + i) ds') (rgI 0 60) 0 (dEnv ns many ds m s4 s5 (.pl (.int r)) s7) ⟨ds, r, s7, rfl, h⟩ (fun i d env hd hi => by
    obtain ⟨ds', r', s7', rfl, hb⟩ := hi
    have hi60 : i < 60 := by
      have := (List.getElem?_eq_some_iff.mp hd).1
      simpa [rgI] using this
    refine ⟨dEnv ns many ds' m s4 s5 (.pl (.int r')) (.pl d), rfl, ?_⟩
    have hl : ds'.length < 16777216 := by have := hb.1; omega
    have fm := fmod_rng r' 997 (by decide)
    by_cases hr : 0 < r'
    · refine ⟨dEnv ns many (ds' ++ [r'.fmod 997]) m s4 s5 (.pl (.int (r'.fdiv 997))) (.pl d), ?_, _, _, _, rfl, hb.app fm.1 fm.2⟩
      simp [dEnv, sSeq, sIf, bOf, cCall, cArgs, cVar, cK, oGt, hr, sApp, oMod, oInt, esc, hl, sSet, oDiv, sNil]
    · refine ⟨dEnv ns many ds' m s4 s5 (.pl (.int r')) (.pl d), ?_, _, _, _, rfl, hb.mono (by omega)⟩
      simp [dEnv, sSeq, sIf, bOf, cCall, cArgs, cVar, cK, oGt, hr, sNil])
  refine ⟨ds', r', s7', by rw [h1, h2], ?_⟩
  have e : (rgI 0 60).length = 60 := by simp [rgI]
  rw [e, Nat.zero_add] at h3
  exact h3
theorem rgI_get {lo : Int} {n i : Nat} {d : PyData} (h : (rgI lo n)[i]? = some d) : i < n ∧ d = .int (lo + i) := by
  unfold rgI at h
  rw [List.getElem?_map, Option.map_eq_some_iff] at h
  obtain ⟨j, h1, h2⟩ := h
  have hi := (List.getElem?_eq_some_iff.mp h1).1
  rw [List.length_range] at hi
  rw [List.getElem?_range hi] at h1
  cases h1
  rw [Int.mul_one] at h2
  exact ⟨hi, h2.symm⟩
theorem rgI_len (lo : Int) (n : Nat) : (rgI lo n).length = n := by simp [rgI]
theorem script_at {ns : List Int} {i : Nat} (h : i < ns.length) : L2.atI ns (0 + (i : Nat)) = some ns[i] := by
  rw [Int.zero_add]
  exact atI_nat (by rw [List.getElem?_eq_getElem h])
def gDr2 : Sx := sSeq (sIf (bOf (cCall oGt [cVar 6, cK (.int 0)])) (sSeq (sApp 2 (cCall oMod [cCall oInt [cVar 6], cK (.int 997)])) (sSeq (sSet 6 false (cCall oDiv [cVar 6, cK (.int 997)])) (sNil))) (sNil)) (sNil)
def gDr1 : Sx := sSeq (sSet 5 false (cCall oAbs [cCall oInt [cScAt 0 (cVar 4)]])) (sSeq (sSet 3 false (cCall oMod [cCall oInt [cCall oAdd [cCall oAdd [cCall oMul [cVar 3, cK (.int 48271)], cCall oMod [cVar 5, cK (.int 1000003)]], cVar 4]], cK (.int 65537)])) (sSeq (sSet 6 false (cK (.int 0))) (sSeq (sIf (bOf (cCall oGe [cVar 5, cCall oPow [cK (.int 10), cK (.int 18)]])) (sSeq (sSet 6 false (cVar 5)) (sNil)) (sSeq (sApp 2 (cCall oMod [cCall oInt [cVar 5], cK (.int 997)])) (sSeq (sApp 2 (cCall oMod [cCall oMod [cCall oInt [cCall oAdd [cCall oMul [cVar 3, cK (.int 69621)], cK (.int 5)]], cK (.int 65521)], cK (.int 997)])) (sNil)))) (sSeq (sFor (iR1 (cK (.int 60))) (gN 7) gDr2) (sWipe [7] (sNil))))))
def gDr3 : Sx := sSeq (sSet 3 false (cCall oMod [cCall oInt [cCall oAdd [cCall oAdd [cCall oMul [cVar 3, cK (.int 16807)], cVar 4], cK (.int 1)]], cK (.int 65537)])) (sSeq (sApp 2 (cCall oMod [cCall oInt [cVar 3], cK (.int 997)])) (sNil))
theorem gDraws_eq : gDraws = sSeq (sSet 2 true (cCall oLst [])) (sSeq (sSet 3 false (cK (.int 7))) (sSeq (sFor (iR1 (cScLen 0)) (gN 4) gDr1) (sWipe [5, 6, 7] (sSeq (sFor (iR1 (cVar 1)) (gN 4) gDr3) (sSeq (sRetK (cSlice (cVar 2) none (some (cVar 1)))) (sNil)))))) := rfl
theorem pow18 : (10:Int)^(18:Nat) = 1000000000000000000 := by
  have : (10 : Int) ^ 18 = ((10 ^ 18 : Nat) : Int) := by rw [Int.natCast_pow]; rfl
  rw [this]
  exact congrArg Int.ofNat (show 10 ^ 18 = 1000000000000000000 by decide)
theorem oPow_e (k k' : Kd) : oPow [(.int 10, k), (.int 18, k')] = some (.int 1000000000000000000, .im) := by
  unfold oPow
  dsimp only
  rw [if_pos (by decide)]
  rw [show (18 : Int).toNat = 18 from rfl, pow18]
theorem sSeq_nx {f g : Sx} {env e' : SEnv} {W W' : List Int} (h : f env W = some (.nx e' W')) : sSeq f g env W = g e' W' := by unfold sSeq; rw [h]
theorem oMul_e (a b : Int) (k k' : Kd) (h : b.natAbs < 18446744073709551616) : oMul [(.int a, k), (.int b, k')] = some (.int (a * b), .im) := by
  unfold oMul mulOk
  dsimp only
  rw [if_pos (by rw [Bool.or_eq_true]; exact .inr (decide_eq_true h))]
theorem dr_turn (ns : List Int) (many m : Int) (i : Nat) (z x : Int) (hat : L2.atI ns z = some x) (hi : i < 1000) (s5 s6 s7 : Sl) (ds : List Int) (h : drB (62 * i) ds) (W : List Int) :
    ∃ ds' m' s5' s6', gDr1 (dEnv ns many ds m (.pl (.int z)) s5 s6 s7) W = some (.nx (dEnv ns many ds' m' (.pl (.int z)) s5' s6' .no) W) ∧ drB (62 * (i + 1)) ds' := by
  have hl : ds.length < 16777216 := by have := h.1; omega
  have hl2 : ds.length + 1 < 16777216 := by have := h.1; omega
  generalize hc : (if x < 0 then -x else x) = c
  generalize hm : ((m * 48271 + c.fmod 1000003 + z).fmod 65537) = m'
  have q1 := fmod_rng c 997 (by decide)
  have q2 := fmod_rng ((m' * 69621 + 5).fmod 65521) 997 (by decide)
  have a1 : sSet 5 false (cCall oAbs [cCall oInt [cScAt 0 (cVar 4)]]) (dEnv ns many ds m (.pl (.int z)) s5 s6 s7) W = some (.nx (dEnv ns many ds m (.pl (.int z)) (.pl (.int c)) s6 s7) W) := by
    simp [dEnv, sSet, cCall, cArgs, cVar, oAbs, oInt, cScAt, hat, hc]
  have a2 : sSet 3 false (cCall oMod [cCall oInt [cCall oAdd [cCall oAdd [cCall oMul [cVar 3, cK (.int 48271)], cCall oMod [cVar 5, cK (.int 1000003)]], cVar 4]], cK (.int 65537)]) (dEnv ns many ds m (.pl (.int z)) (.pl (.int c)) s6 s7) W = some (.nx (dEnv ns many ds m' (.pl (.int z)) (.pl (.int c)) s6 s7) W) := by
    simp [dEnv, sSet, cCall, cArgs, cVar, cK, oMul_e _ 48271 _ _ (by decide), oAdd, oMod, oInt, hm]
  have a3 : sSet 6 false (cK (.int 0)) (dEnv ns many ds m' (.pl (.int z)) (.pl (.int c)) s6 s7) W = some (.nx (dEnv ns many ds m' (.pl (.int z)) (.pl (.int c)) (.pl (.int 0)) s7) W) := by
    simp [dEnv, sSet, cK]
  have af : ∀ ds r s7', sFor (iR1 (cK (.int 60))) (gN 7) gDr2 (dEnv ns many ds m' (.pl (.int z)) (.pl (.int c)) (.pl (.int r)) s7') W = forL (gN 7) gDr2 (rgI 0 60) (dEnv ns many ds m' (.pl (.int z)) (.pl (.int c)) (.pl (.int r)) s7') W := fun ds r s7' => by
    have e : iR1 (cK (.int 60)) (dEnv ns many ds m' (.pl (.int z)) (.pl (.int c)) (.pl (.int r)) s7') W = some (rgI 0 60, .im, W) := by
      unfold iR1 cK
      dsimp only
      rw [if_pos (by decide)]
      rfl
    unfold sFor
    rw [e]
    rfl
  have aw : ∀ ds r s7', sWipe [7] sNil (dEnv ns many ds m' (.pl (.int z)) (.pl (.int c)) (.pl (.int r)) s7') W = some (.nx (dEnv ns many ds m' (.pl (.int z)) (.pl (.int c)) (.pl (.int r)) .no) W) := fun _ _ _ => rfl
  have ap : ∀ env, cCall oPow [cK (.int 10), cK (.int 18)] env W = some (.int 1000000000000000000, .im, W) := fun env => by
    simp only [cCall, cArgs, cK, Option.bind_some, Option.map_some, oPow_e]
  unfold gDr1
  rw [sSeq_nx a1, sSeq_nx a2, sSeq_nx a3]
  generalize (1000000000000000000 : Int) = B at ap
  generalize hP : cCall oPow [cK (.int 10), cK (.int 18)] = P at ap
  by_cases hb : B ≤ c
  · obtain ⟨ds', r', s7', e1, e2⟩ := dr_loop2 ns many m' (.pl (.int z)) (.pl (.int c)) W (62 * i) (by omega) ds c s7 h
    refine ⟨ds', m', .pl (.int c), .pl (.int r'), ?_, e2.mono (by omega)⟩
    have a4 : ∀ g : Sx, sIf (bOf (cCall oGe [cVar 5, P])) (sSeq (sSet 6 false (cVar 5)) (sNil)) g (dEnv ns many ds m' (.pl (.int z)) (.pl (.int c)) (.pl (.int 0)) s7) W = some (.nx (dEnv ns many ds m' (.pl (.int z)) (.pl (.int c)) (.pl (.int c)) s7) W) := fun g => by
      simp [dEnv, sIf, bOf, cCall, cArgs, cVar, ap, oGe, hb, sSeq, sSet, sNil]
    rw [sSeq_nx (a4 _), sSeq_nx ((af _ _ _).trans e1), aw]
  · obtain ⟨ds', r', s7', e1, e2⟩ := dr_loop2 ns many m' (.pl (.int z)) (.pl (.int c)) W (62 * i + 1 + 1) (by omega) ((ds ++ [c.fmod 997]) ++ [((m' * 69621 + 5).fmod 65521).fmod 997]) 0 s7 ((h.app q1.1 q1.2).app q2.1 q2.2)
    refine ⟨ds', m', .pl (.int c), .pl (.int r'), ?_, e2.mono (by omega)⟩
    have a4 : ∀ f : Sx, sIf (bOf (cCall oGe [cVar 5, P])) f (sSeq (sApp 2 (cCall oMod [cCall oInt [cVar 5], cK (.int 997)])) (sSeq (sApp 2 (cCall oMod [cCall oMod [cCall oInt [cCall oAdd [cCall oMul [cVar 3, cK (.int 69621)], cK (.int 5)]], cK (.int 65521)], cK (.int 997)])) (sNil))) (dEnv ns many ds m' (.pl (.int z)) (.pl (.int c)) (.pl (.int 0)) s7) W = some (.nx (dEnv ns many ((ds ++ [c.fmod 997]) ++ [((m' * 69621 + 5).fmod 65521).fmod 997]) m' (.pl (.int z)) (.pl (.int c)) (.pl (.int 0)) s7) W) := fun f => by
      simp [dEnv, sIf, bOf, cCall, cArgs, cVar, ap, oGe, hb, sSeq, sApp, cK, oMod, oInt, oMul_e _ 69621 _ _ (by decide), oAdd, esc, hl, hl2, sNil]
    rw [sSeq_nx (a4 _), sSeq_nx ((af _ _ _).trans e1), aw]
theorem draws_ok (many : Int) (h0 : 0 ≤ many) (h1 : many ≤ 1000) (ns : List Int) (hn : ns.length ≤ 63) : ∃ ds W', gDraws (envS 8 ns many) [] = some (.rt (.list (ds.map PyData.int)) W') ∧ drOk ds := by
  rw [gDraws_eq]
  obtain ⟨e1, h2, ds1, m1, a4, a5, a6, rfl, h3⟩ := forL_inv (t := gN 4) (g := gDr1) (W := []) (fun i env => ∃ ds m s4 s5 s6, env = dEnv ns many ds m s4 s5 s6 .no ∧ drB (62 * i) ds) (rgI 0 ns.length) 0 (dEnv ns many [] 7 .no .no .no .no) ⟨[], 7, .no, .no, .no, rfl, ⟨Nat.le_refl _, fun x hx => by simp at hx⟩⟩ (fun i d env hd hi => by
    obtain ⟨ds, m, s4, s5, s6, rfl, hb⟩ := hi
    obtain ⟨hi, rfl⟩ := rgI_get hd
    rw [Nat.zero_add] at hb
    obtain ⟨ds', m', s5', s6', e1, e2⟩ := dr_turn ns many m i (0 + i) ns[i] (script_at hi) (by omega) s5 s6 .no ds hb []
    exact ⟨_, rfl, _, e1, ds', m', _, s5', s6', rfl, by rw [Nat.zero_add]; exact e2⟩)
  rw [rgI_len, Nat.zero_add] at h3
  obtain ⟨e2, h4, ds2, m2, b4, rfl, h5, h6⟩ := forL_inv (t := gN 4) (g := gDr3) (W := []) (fun i env => ∃ ds m s4, env = dEnv ns many ds m s4 .no .no .no ∧ drB (62 * ns.length + i) ds ∧ i ≤ ds.length) (rgI 0 many.toNat) 0 (dEnv ns many ds1 m1 a4 .no .no .no) ⟨ds1, m1, a4, rfl, h3, Nat.zero_le _⟩ (fun i d env hd hi => by
    obtain ⟨ds, m, s4, rfl, hb, hle⟩ := hi
    obtain ⟨hi, rfl⟩ := rgI_get hd
    rw [Nat.zero_add] at hb hle
    have hl : ds.length < 16777216 := by have := hb.1; omega
    generalize (0 : Int) + (i : Nat) = z
    have q1 := fmod_rng ((m * 16807 + z + 1).fmod 65537) 997 (by decide)
    refine ⟨_, rfl, dEnv ns many (ds ++ [((m * 16807 + z + 1).fmod 65537).fmod 997]) ((m * 16807 + z + 1).fmod 65537) (.pl (.int z)) .no .no .no, ?_, _, _, _, rfl, ?_, ?_⟩
    · simp [gDr3, gN, dEnv, sSeq, cCall, cArgs, cVar, cK, oMul, mulOk, oAdd, oInt, oMod, sSet, sApp, esc, hl, sNil]
    · rw [Nat.zero_add]; exact hb.app q1.1 q1.2
    · rw [Nat.zero_add, List.length_append]; show i + 1 ≤ ds.length + 1; omega)
  refine ⟨ds2.take many.toNat, [], ?_, ?_⟩
  · have hn' : ns.length ≤ 1000 := by omega
    have hm1 : many ≤ 1000000 := by omega
    have hm2 : -1000000 ≤ many := by omega
    have e1 : sFor (iR1 (cScLen 0)) (gN 4) gDr1 [Sl.sc ns, Sl.pl (.int many), Sl.ow (.list []), Sl.pl (.int 7), Sl.no, Sl.no, Sl.no, Sl.no] [] = some (.nx (dEnv ns many ds1 m1 a4 a5 a6 .no) []) := by
      have e : iR1 (cScLen 0) [Sl.sc ns, Sl.pl (.int many), Sl.ow (.list []), Sl.pl (.int 7), Sl.no, Sl.no, Sl.no, Sl.no] [] = some (rgI 0 ns.length, .im, []) := by
        unfold iR1 cScLen
        simp only [List.getElem?_cons_zero, hn', if_true]
        rw [if_pos (by omega)]
        simp
      unfold sFor
      rw [e]
      exact h2
    have e2 : sFor (iR1 (cVar 1)) (gN 4) gDr3 (dEnv ns many ds1 m1 a4 .no .no .no) [] = some (.nx (dEnv ns many ds2 m2 b4 .no .no .no) []) := by
      have e : iR1 (cVar 1) (dEnv ns many ds1 m1 a4 .no .no .no) [] = some (rgI 0 many.toNat, .im, []) := by
        simp [iR1, cVar, dEnv, hm1, hm2]
      unfold sFor
      rw [e]
      exact h4
    have hcut : cutD (ds2.map PyData.int) none (some many) = (ds2.take many.toNat).map PyData.int := by
      unfold cutD
      have e3 : HT.sIx (ds2.map PyData.int).length 0 none = 0 := by simp [HT.sIx_none]
      have e4 : HT.sIx (ds2.map PyData.int).length (ds2.map PyData.int).length (some many) = min many.toNat ds2.length := by
        have := HT.sIx_nat (ds2.map PyData.int).length (ds2.map PyData.int).length many.toNat
        rw [Int.toNat_of_nonneg h0] at this
        rw [this, List.length_map]
      rw [e3, e4, List.drop_zero, Nat.sub_zero, List.map_take]
      rw [List.length_map] at *
      rw [Nat.min_eq_left (by rw [rgI_len, Nat.zero_add] at h6; exact h6)]
    show sSeq _ _ [Sl.sc ns, Sl.pl (.int many), .no, .no, .no, .no, .no, .no] [] = _
    simp only [sSeq, sSet, cCall, cArgs, oLst, cK, Option.bind_some, Option.map_some, List.all_nil, List.length_nil, List.map_nil, Bool.true_and, decide_true, if_true, Nat.zero_le, List.set_cons_succ, List.set_cons_zero, e1]
    simp only [sWipe, wipeE, dEnv, List.set_cons_succ, List.set_cons_zero]
    simp only [dEnv] at e2
    simp only [sSeq, e2]
    simp [sRetK, cSlice, part, cVar, oSl, hcut]
  · rw [rgI_len, Nat.zero_add] at h5
    refine ⟨by rw [List.length_take]; omega, fun x hx => h5.2 x (List.mem_of_mem_take hx)⟩
end PX

namespace PX
open PySem PySem.Spec PyProof.Rows L2
/-! ### typed data -/
abbrev D {α : Type} [DecidableEq α] [PySem.W.Datum α] (a : α) : PyData := PySem.W.Datum.toD a
abbrev T (ns : List Int) : PyData := .tuple (ns.map PyData.int)
abbrev I (ns : List Int) : List PyData := ns.map PyData.int
mutual
theorem noD_plain : ∀ (d : PyData), d.plain = true → noD d = true
  | .none, _ => rfl
  | .bool _, _ => rfl
  | .int _, _ => rfl
  | .str _, _ => rfl
  | .list xs, h => by rw [noD]; exact noDs_plain xs (by simpa only [PyData.plain] using h)
  | .tuple xs, h => by rw [noD]; exact noDs_plain xs (by simpa only [PyData.plain] using h)
  | .dict _, h => by simp [PyData.plain] at h
theorem noDs_plain : ∀ (d : List PyData), PyData.plainAll d = true → noDs d = true
  | [], _ => rfl
  | x :: xs, h => by
    simp only [PyData.plainAll, Bool.and_eq_true] at h
    rw [noDs, noD_plain x h.1, noDs_plain xs h.2]; rfl
end
section
variable {α : Type} [DecidableEq α] [PySem.W.Datum α]
theorem flat_D (hd : PySem.W.Datum.depth α ≤ 60) (x : α) : flat (D x) = true := by
  unfold flat
  rw [Bool.and_eq_true, decide_eq_true_eq]
  exact ⟨noD_plain _ (PySem.W.Datum.plain x), Nat.le_trans (PySem.W.Datum.depth_le x) hd⟩
theorem flats_D (hd : PySem.W.Datum.depth α ≤ 60) (xs : List α) : (xs.map D).all flat = true := by
  rw [List.all_map]
  exact List.all_eq_true.mpr fun x _ => flat_D hd x
theorem ev_eq (hd : PySem.W.Datum.depth α ≤ 60) (x y : α) (k k' : Kd) : oEq [(D x, k), (D y, k')] = some (.bool (decide (x = y)), .im) := by
  unfold oEq
  dsimp only
  rw [flat_D hd x, flat_D hd y, PySem.W.Datum.eqv]
  rfl
theorem ev_ne (hd : PySem.W.Datum.depth α ≤ 60) (x y : α) (k k' : Kd) : oNe [(D x, k), (D y, k')] = some (.bool (!decide (x = y)), .im) := by
  unfold oNe
  dsimp only
  rw [flat_D hd x, flat_D hd y, PySem.W.Datum.eqv]
  rfl
theorem any_D (xs : List α) (x : α) : ((xs.map D).any fun d => PyData.eqv d (D x)) = decide (x ∈ xs) := PySem.W.any_datum xs x
theorem ev_inL (hd : PySem.W.Datum.depth α ≤ 60) (x : α) (xs : List α) (k k' : Kd) : oIn [(D x, k), (.list (xs.map D), k')] = some (.bool (decide (x ∈ xs)), .im) := by
  unfold oIn
  dsimp only
  rw [flat_D hd x, flats_D hd xs, any_D]
  rfl
theorem ev_inT (hd : PySem.W.Datum.depth α ≤ 60) (x : α) (xs : List α) (k k' : Kd) : oIn [(D x, k), (.tuple (xs.map D), k')] = some (.bool (decide (x ∈ xs)), .im) := by
  unfold oIn
  dsimp only
  rw [flat_D hd x, flats_D hd xs, any_D]
  rfl
theorem ev_niL (hd : PySem.W.Datum.depth α ≤ 60) (x : α) (xs : List α) (k k' : Kd) : oNotIn [(D x, k), (.list (xs.map D), k')] = some (.bool (!decide (x ∈ xs)), .im) := by
  unfold oNotIn
  dsimp only
  rw [flat_D hd x, flats_D hd xs, any_D]
  rfl
theorem ev_niT (hd : PySem.W.Datum.depth α ≤ 60) (x : α) (xs : List α) (k k' : Kd) : oNotIn [(D x, k), (.tuple (xs.map D), k')] = some (.bool (!decide (x ∈ xs)), .im) := by
  unfold oNotIn
  dsimp only
  rw [flat_D hd x, flats_D hd xs, any_D]
  rfl
end
/-- the same datum twice -/
theorem eqv_refl : ∀ d : PyData, noD d = true → PyData.eqv d d = true := fun d h => by
  have : ∀ n (d : PyData), sizeOf d ≤ n → noD d = true → PyData.eqv d d = true := by
    intro n
    induction n with
    | zero => intro d hn; cases d <;> simp at hn
    | succ n ih =>
      have all : ∀ xs : List PyData, sizeOf xs ≤ n → noDs xs = true → PyData.eqvAll xs xs = true := by
        intro xs
        induction xs with
        | nil => intro _ _; simp [PyData.eqvAll]
        | cons x xs ihx =>
          intro hn h
          simp only [noDs, Bool.and_eq_true] at h
          simp only [List.cons.sizeOf_spec] at hn
          rw [PyData.eqvAll, ih x (by omega) h.1, ihx (by omega) h.2]; rfl
      intro d hn h
      cases d with
      | none => simp [PyData.eqv]
      | bool b => simp [PyData.eqv]
      | int i => simp [PyData.eqv]
      | str x => simp [PyData.eqv]
      | list xs => simp only [noD] at h; rw [PyData.eqv]; exact all xs (by simp at hn; omega) h
      | tuple xs => simp only [noD] at h; rw [PyData.eqv]; exact all xs (by simp at hn; omega) h
      | dict es => simp [noD] at h
  exact this (sizeOf d) d (Nat.le_refl _) h
theorem ne_same (d : PyData) (h : flat d = true) (k k' : Kd) : oNe [(d, k), (d, k')] = some (.bool false, .im) := by
  unfold oNe
  dsimp only
  rw [h]
  have h' := h
  unfold flat at h'
  rw [Bool.and_eq_true] at h'
  rw [eqv_refl d h'.1]
  rfl
theorem intsOf_map (ns : List Int) : intsOf (ns.map PyData.int) = some ns := by
  induction ns with
  | nil => rfl
  | cons n r ih => rw [List.map_cons, intsOf, ih]; rfl
/-! ### comprehensions, plainly -/
section
variable {α : Type} {t : Tg} {c : Ct} {e : Ex} {env : SEnv} {W : List Int}
theorem lcL_fm (emb : α → PyData) (p : α → Bool) (r : α → PyData) : ∀ (xs : List α), (∀ a ∈ xs, ∃ e1, t (emb a) env = some e1 ∧ c e1 W = some (p a, W) ∧ (p a = true → ∃ kd, e e1 W = some (r a, kd, W) ∧ esc kd = true)) →
    lcL t c e (xs.map emb) env W = some ((xs.filter p).map r, W)
  | [], _ => rfl
  | a :: xs, h => by
    obtain ⟨e1, h1, h2, h3⟩ := h a (by simp)
    have ih := lcL_fm emb p r xs fun b hb => h b (by simp [hb])
    rw [List.map_cons, lcL, h1, Option.bind_some, h2, Option.bind_some]
    dsimp only
    cases hp : p a with
    | true =>
      obtain ⟨kd, h4, h5⟩ := h3 hp
      rw [if_pos rfl, h4, Option.bind_some]
      dsimp only
      rw [if_pos h5, ih, List.filter_cons_of_pos hp]
      rfl
    | false =>
      rw [if_neg Bool.false_ne_true, ih, List.filter_cons_of_neg (by rw [hp]; exact Bool.false_ne_true)]
theorem lc2L_fm {f1 : Ci} {t1 : Tg} {c1 : Ct} {vs1 : List Nat} (emb : α → PyData) (r : α → List PyData) : ∀ (xs : List α), (∀ a ∈ xs, ∃ e1 ds k, t (emb a) env = some e1 ∧ c e1 W = some (true, W) ∧ f1 e1 W = some (ds, k, W) ∧ kOk vs1 k = true ∧ lcL t1 c1 e ds (wipeE e1 vs1) W = some (r a, W)) →
    lc2L t c f1 t1 c1 e vs1 (xs.map emb) env W = some (xs.flatMap r, W)
  | [], _ => rfl
  | a :: xs, h => by
    obtain ⟨e1, ds, k, h1, h2, h3, h4, h5⟩ := h a (by simp)
    have ih := lc2L_fm emb r xs fun b hb => h b (by simp [hb])
    rw [List.map_cons, lc2L, h1, Option.bind_some, h2, Option.bind_some]
    dsimp only
    rw [if_pos rfl, h3, Option.bind_some]
    dsimp only
    rw [if_pos h4, h5, Option.bind_some, ih]
    rfl
/-- with draws: numbers in a range -/
theorem lcL_draw (emb : α → PyData) (P : Int → Prop) : ∀ (xs : List α) (W : List Int), (∀ a ∈ xs, ∀ W, ∃ e1 x kd W', t (emb a) env = some e1 ∧ c e1 W = some (true, W) ∧ e e1 W = some (.int x, kd, W') ∧ esc kd = true ∧ P x) →
    ∃ (ns : List Int) (W' : List Int), lcL t c e (xs.map emb) env W = some (ns.map PyData.int, W') ∧ ns.length = xs.length ∧ ∀ x ∈ ns, P x
  | [], W, _ => ⟨[], W, rfl, rfl, fun x hx => by simp at hx⟩
  | a :: xs, W, h => by
    obtain ⟨e1, x, kd, W', h1, h2, h3, h4, h5⟩ := h a (by simp) W
    obtain ⟨ns, W2, i1, i2, i3⟩ := lcL_draw emb P xs W' fun b hb => h b (by simp [hb])
    refine ⟨x :: ns, W2, ?_, by rw [List.length_cons, List.length_cons, i2], fun y hy => ?_⟩
    · rw [List.map_cons, lcL, h1, Option.bind_some, h2, Option.bind_some]
      dsimp only
      rw [if_pos rfl, h3, Option.bind_some]
      dsimp only
      rw [if_pos h4, i1]
      rfl
    · rcases List.mem_cons.mp hy with e | e
      · rw [e]; exact h5
      · exact i3 y e
end
theorem next_ok {i : Nat} {f : Ex} {env : SEnv} {W W1 : List Int} {m : Int} {k : Kd} (hw : env[i]? = some .wd) (hf : f env W = some (.int m, k, W1)) (hm : 0 < m) : ∃ v W', cNext i f env W = some (.int v, .im, W') ∧ 0 ≤ v ∧ v < m := by
  unfold cNext
  rw [hw, hf]
  dsimp only
  rw [if_pos hm]
  cases W1 with
  | nil => exact ⟨0, [], rfl, Int.le_refl _, hm⟩
  | cons x r => exact ⟨x % m, r, rfl, Int.emod_nonneg _ (by omega), Int.emod_lt_of_pos _ hm⟩

/-! ### loops, plainly -/
section
variable {α : Type} {t : Tg} {g : Sx} {W : List Int}
theorem forL_all (emb : α → PyData) (xs : List α) (R : List α → SEnv → Prop) : ∀ (rest done : List α) (env : SEnv), xs = done ++ rest → R done env → (∀ done a rest env, xs = done ++ a :: rest → R done env → ∃ e1 e2, t (emb a) env = some e1 ∧ g e1 W = some (.nx e2 W) ∧ R (done ++ [a]) e2) →
    ∃ e', forL t g (rest.map emb) env W = some (.nx e' W) ∧ R xs e'
  | [], done, env, hx, h, _ => ⟨env, rfl, by rw [hx, List.append_nil]; exact h⟩
  | a :: rest, done, env, hx, h, st => by
    obtain ⟨e1, e2, h1, h2, h3⟩ := st done a rest env hx h
    obtain ⟨e', h4, h5⟩ := forL_all emb xs R rest (done ++ [a]) e2 (by rw [hx, List.append_assoc]; rfl) h3 st
    refine ⟨e', ?_, h5⟩
    simp only [List.map_cons, forL, h1, Option.bind_some, h2]
    exact h4
theorem forL_find (emb : α → PyData) (p : α → Bool) (r : α → PyData) (R : SEnv → Prop) : ∀ (xs : List α) (env : SEnv), R env → (∀ a ∈ xs, ∀ env, R env → ∃ e1, t (emb a) env = some e1 ∧ ((p a = true ∧ g e1 W = some (.rt (r a) W)) ∨ (p a = false ∧ ∃ e2, g e1 W = some (.nx e2 W) ∧ R e2))) →
    (∃ a, xs.find? p = some a ∧ forL t g (xs.map emb) env W = some (.rt (r a) W)) ∨ (xs.find? p = none ∧ ∃ e', forL t g (xs.map emb) env W = some (.nx e' W) ∧ R e')
  | [], env, h, _ => .inr ⟨rfl, env, rfl, h⟩
  | a :: xs, env, h, st => by
    obtain ⟨e1, h1, ⟨hp, h2⟩ | ⟨hp, e2, h2, h3⟩⟩ := st a (by simp) env h
    · refine .inl ⟨a, by rw [List.find?_cons_of_pos hp], ?_⟩
      simp only [List.map_cons, forL, h1, Option.bind_some, h2]
    · have e0 : (a :: xs).find? p = xs.find? p := List.find?_cons_of_neg (by rw [hp]; exact Bool.false_ne_true)
      rcases forL_find emb p r R xs e2 h3 fun b hb => st b (by simp [hb]) with ⟨b, i1, i2⟩ | ⟨i1, e', i2, i3⟩
      · refine .inl ⟨b, by rw [e0]; exact i1, ?_⟩
        simp only [List.map_cons, forL, h1, Option.bind_some, h2]
        exact i2
      · refine .inr ⟨by rw [e0]; exact i1, e', ?_, i3⟩
        simp only [List.map_cons, forL, h1, Option.bind_some, h2]
        exact i2
/-- the draws may go on -/
theorem forL_draw (emb : α → PyData) (R : SEnv → Prop) : ∀ (xs : List α) (env : SEnv) (W : List Int), R env → (∀ a ∈ xs, ∀ env W, R env → ∃ e1 e2 W', t (emb a) env = some e1 ∧ g e1 W = some (.nx e2 W') ∧ R e2) →
    ∃ e' W', forL t g (xs.map emb) env W = some (.nx e' W') ∧ R e'
  | [], env, W, h, _ => ⟨env, W, rfl, h⟩
  | a :: xs, env, W, h, st => by
    obtain ⟨e1, e2, W', h1, h2, h3⟩ := st a (by simp) env W h
    obtain ⟨e', W2, h4, h5⟩ := forL_draw emb R xs e2 W' h3 fun b hb => st b (by simp [hb])
    refine ⟨e', W2, ?_, h5⟩
    simp only [List.map_cons, forL, h1, Option.bind_some, h2]
    exact h4
end
theorem rgI_map (lo : Int) (n : Nat) : rgI lo n = ((List.range n).map fun i : Nat => lo + (i : Int)).map PyData.int := by
  unfold rgI
  rw [List.map_map]
  refine List.map_congr_left fun i _ => ?_
  simp
end PX

namespace PX
open PySem PySem.Spec PyProof.Rows L2
/-! ### sets of sets -/
def comb : Nat → List Int → List (List Int)
  | 0, _ => [[]]
  | _ + 1, [] => []
  | k + 1, x :: r => (comb k r).map (x :: ·) ++ comb (k + 1) r
theorem comb_len : ∀ (k : Nat) (xs : List Int), (comb k xs).length ≤ 2 ^ xs.length
  | 0, xs => by simp only [comb, List.length_singleton]; exact Nat.one_le_two_pow
  | _ + 1, [] => by simp [comb]
  | k + 1, x :: r => by
    have h1 := comb_len k r
    have h2 := comb_len (k + 1) r
    rw [comb, List.length_append, List.length_map, List.length_cons, Nat.pow_succ]
    omega
theorem comb_row : ∀ (k : Nat) (xs row : List Int), row ∈ comb k xs → row.Sublist xs
  | 0, xs, row, h => by
    simp only [comb, List.mem_singleton] at h
    subst h
    exact List.nil_sublist _
  | _ + 1, [], row, h => by simp [comb] at h
  | k + 1, x :: r, row, h => by
    rw [comb, List.mem_append, List.mem_map] at h
    rcases h with ⟨q, hq, rfl⟩ | h
    · exact (comb_row k r q hq).cons₂ x
    · exact (comb_row (k + 1) r row h).cons x
/-- what the loop over i has from the i-th on -/
theorem comb_drop (k : Nat) (xs : List Int) (i : Nat) (h : i < xs.length) : comb (k + 1) (xs.drop i) = (comb k (xs.drop (i + 1))).map (xs[i] :: ·) ++ comb (k + 1) (xs.drop (i + 1)) := by
  rw [List.drop_eq_getElem_cons h, comb]
theorem cutD_from (ds : List PyData) (i : Nat) : PX.cutD ds (some ((i : Int) + 1)) none = ds.drop (i + 1) := by
  unfold PX.cutD
  have e : ((i : Int) + 1) = ((i + 1 : Nat) : Int) := by omega
  rw [e, HT.sIx_nat, HT.sIx_none]
  by_cases h : i + 1 ≤ ds.length
  · rw [Nat.min_eq_left h, List.take_of_length_le (by rw [List.length_drop]; exact Nat.le_refl _)]
  · rw [Nat.min_eq_right (by omega), List.drop_eq_nil_of_le (Nat.le_refl _), List.drop_eq_nil_of_le (by omega)]
    simp
theorem atI_I (xs : List Int) (i : Nat) (h : i < xs.length) : L2.atI (xs.map PyData.int) (i : Int) = some (.int xs[i]) := atI_nat (by rw [List.getElem?_map, List.getElem?_eq_getElem h]; rfl)
theorem evI_eq (a b : Int) (k k' : Kd) : oEq [(.int a, k), (.int b, k')] = some (.bool (decide (a = b)), .im) := ev_eq (α := Int) (by decide) a b k k'
theorem evI_ne (a b : Int) (k k' : Kd) : oNe [(.int a, k), (.int b, k')] = some (.bool (!decide (a = b)), .im) := ev_ne (α := Int) (by decide) a b k k'
theorem runF_eq {n np : Nat} {g : Sx} {ds : List PyData} (h : ds.length = np) : runF n np g ds = outF (g (env0 n ds) []) := if_pos h
/-- all sets, by their sizes -/
def allS (xs : List Int) : List (List Int) := (List.range (xs.length + 1)).flatMap fun k => comb k xs
theorem sum_comb (xs : List Int) : ∀ n, ((List.range n).flatMap fun k => comb k xs).length ≤ 2 ^ xs.length := by
  induction xs with
  | nil =>
    intro n
    induction n with
    | zero => simp
    | succ n ih =>
      rw [List.range_succ, List.flatMap_append, List.length_append]
      cases n with
      | zero => simp [comb]
      | succ n => simpa [comb] using ih
  | cons x r ihr =>
    intro n
    have key : ∀ n, ((List.range (n + 1)).flatMap fun k => comb k (x :: r)).length = ((List.range n).flatMap fun k => comb k r).length + ((List.range (n + 1)).flatMap fun k => comb k r).length := by
      intro n
      induction n with
      | zero => simp [comb]
      | succ n ih =>
        rw [List.range_succ, List.flatMap_append, List.length_append, ih]
        have r1 : List.range (n + 1 + 1) = List.range (n + 1) ++ [n + 1] := List.range_succ
        have r2 : List.range (n + 1) = List.range n ++ [n] := List.range_succ
        have l2 : ((List.range (n + 1)).flatMap fun k => comb k r).length = ((List.range n).flatMap fun k => comb k r).length + (comb n r).length := by rw [r2, List.flatMap_append, List.length_append]; simp
        rw [List.flatMap_append, List.length_append]
        simp only [List.flatMap_cons, List.flatMap_nil, List.append_nil, comb, List.length_append, List.length_map]
        omega
    cases n with
    | zero => simp
    | succ n =>
      rw [key n, List.length_cons, Nat.pow_succ]
      have h1 := ihr n
      have h2 := ihr (n + 1)
      omega

/-! ### sorting, plainly -/
theorem pair_any {α : Type} {R : α → α → Prop} : ∀ {l : List α}, l.Pairwise R → ∀ {a b : α}, a ∈ l → b ∈ l → a = b ∨ R a b ∨ R b a
  | x :: l, h, a, b, ha, hb => by
    have h' := List.pairwise_cons.mp h
    rcases List.mem_cons.mp ha with e | e
    · rcases List.mem_cons.mp hb with e2 | e2
      · exact .inl (e.trans e2.symm)
      · subst e; exact .inr (.inl (h'.1 b e2))
    · rcases List.mem_cons.mp hb with e2 | e2
      · subst e2; exact .inr (.inr (h'.1 a e))
      · exact pair_any h'.2 e e2
open PySem.W in
theorem sortD_of {ds out : List PyData} (hp : out.Perm ds) (hs : out.Pairwise (fun a b => dataLt a b = true)) : sortD ds = out := by
  unfold sortD
  have irr : ∀ a, dataLt a a = false := fun a => lex_irrefl _
  have tr : ∀ a b c, dataLt a b = true → dataLt b c = true → dataLt a c = true := fun a b c => lex_trans _ _ _
  have ng : ∀ a b c, dataLt a c = true → dataLt a b = true ∨ dataLt b c = true := fun a b c => lex_negTrans _ _ _
  have le : ∀ a b, dataLe false id a b = !dataLt b a := fun a b => rfl
  refine List.Perm.eq_of_pairwise (le := fun a b => dataLe false id a b = true) (fun a b ha hb h1 h2 => ?_) (List.pairwise_mergeSort (fun a b c h1 h2 => ?_) (fun a b => ?_) ds) (hs.imp fun {a b} h => ?_) ((List.mergeSort_perm _ _).trans hp.symm)
  · have ha' : a ∈ out := hp.mem_iff.mpr ((List.mergeSort_perm _ _).mem_iff.mp ha)
    rw [le] at h1 h2
    by_cases e : a = b
    · exact e
    · have := pair_any hs ha' hb
      rcases this with h | h | h
      · exact h
      · rw [h] at h2; exact absurd h2 (by decide)
      · rw [h] at h1; exact absurd h1 (by decide)
  · rw [le] at h1 h2 ⊢
    cases h : dataLt c a with
    | false => rfl
    | true =>
      rcases ng c b a h with q | q
      · rw [q] at h2; exact absurd h2 (by decide)
      · rw [q] at h1; exact absurd h1 (by decide)
  · rw [le, le]
    cases h : dataLt b a with
    | false => rfl
    | true =>
      cases h2 : dataLt a b with
      | false => rfl
      | true => exact absurd (tr _ _ _ h h2) (by rw [irr]; exact Bool.false_ne_true)
  · rw [le]
    cases h2 : dataLt b a with
    | false => rfl
    | true => exact absurd (tr _ _ _ h h2) (by rw [irr]; exact Bool.false_ne_true)
/-- (len(row), row) -/
def szP (row : List Int) : PyData := .tuple [.int row.length, T row]
theorem dataLt_T (xs ys : List Int) : PySem.W.dataLt (T xs) (T ys) = decide (xs < ys) := by
  rw [PySem.W.dataLt_tuple]
  exact PySem.W.dataLt_ints xs ys
theorem eqv_T (xs ys : List Int) : PyData.eqv (T xs) (T ys) = decide (xs = ys) := by
  have h := PySem.W.Datum.eqv (PySem.W.Tup.mk xs) (PySem.W.Tup.mk ys)
  have e : decide (PySem.W.Tup.mk xs = PySem.W.Tup.mk ys) = decide (xs = ys) := decide_eq_decide.mpr ⟨fun h => PySem.W.Tup.mk.inj h, fun h => by rw [h]⟩
  rw [e] at h
  exact h
theorem szP_lt (xs ys : List Int) : PySem.W.dataLt (szP xs) (szP ys) = decide (xs.length < ys.length ∨ (xs.length = ys.length ∧ xs < ys)) := by
  unfold szP
  rw [PySem.W.dataLt_pair (by simp [PySem.W.alike]) (by rw [PySem.W.alike]; exact PySem.W.alike_ints xs ys), PySem.W.dataLt_int, eqv_T, dataLt_T]
  simp only [PyData.eqv, beq_iff_eq, decide_eq_true_eq]
  by_cases h1 : xs.length = ys.length
  · have h1' : ((xs.length : Nat) : Int) = (ys.length : Nat) := by rw [h1]
    rw [if_pos h1']
    by_cases h2 : xs = ys
    · subst h2
      rw [if_pos rfl]
      have : ¬ xs < xs := List.lt_irrefl xs
      simp [this]
    · rw [if_neg h2]
      simp [h1]
  · have h1' : ¬ ((xs.length : Nat) : Int) = (ys.length : Nat) := by omega
    rw [if_neg h1']
    simp [h1]
theorem comb_lenE : ∀ (k : Nat) (xs row : List Int), row ∈ comb k xs → row.length = k
  | 0, xs, row, h => by
    simp only [comb, List.mem_singleton] at h
    subst h; rfl
  | _ + 1, [], row, h => by simp [comb] at h
  | k + 1, x :: r, row, h => by
    rw [comb, List.mem_append, List.mem_map] at h
    rcases h with ⟨q, hq, rfl⟩ | h
    · rw [List.length_cons, comb_lenE k r q hq]
    · exact comb_lenE (k + 1) r row h
theorem comb_lt : ∀ (k : Nat) (xs : List Int), xs.Pairwise (· < ·) → (comb k xs).Pairwise (fun a b => a < b)
  | 0, xs, _ => by simp [comb]
  | _ + 1, [], _ => by simp [comb]
  | k + 1, x :: r, h => by
    have h' := List.pairwise_cons.mp h
    rw [comb, List.pairwise_append]
    refine ⟨?_, comb_lt (k + 1) r h'.2, fun a ha b hb => ?_⟩
    · rw [List.pairwise_map]
      exact (comb_lt k r h'.2).imp fun {a b} q => by
        show x :: a < x :: b
        exact List.cons_lt_cons_iff.mpr (.inr ⟨rfl, q⟩)
    · rw [List.mem_map] at ha
      obtain ⟨q, hq, rfl⟩ := ha
      cases b with
      | nil => have := comb_lenE _ _ _ hb; simp at this
      | cons y t =>
        have hy : y ∈ r := (comb_row _ _ _ hb).subset (by simp)
        exact List.cons_lt_cons_iff.mpr (.inl (h'.1 y hy))
theorem allS_lt (xs : List Int) (h : xs.Pairwise (· < ·)) : ((allS xs).map szP).Pairwise (fun a b => PySem.W.dataLt a b = true) := by
  rw [List.pairwise_map]
  have : ∀ n, ((List.range n).flatMap fun k => comb k xs).Pairwise (fun a b => PySem.W.dataLt (szP a) (szP b) = true) := by
    intro n
    induction n with
    | zero => simp
    | succ n ih =>
      rw [List.range_succ, List.flatMap_append, List.pairwise_append]
      refine ⟨ih, ?_, fun a ha b hb => ?_⟩
      · simp only [List.flatMap_cons, List.flatMap_nil, List.append_nil]
        refine (List.Pairwise.and_mem.mp (comb_lt n xs h)).imp fun {a b} ⟨ha, hb, q⟩ => ?_
        rw [szP_lt, decide_eq_true_eq]
        exact .inr ⟨by rw [comb_lenE _ _ _ ha, comb_lenE _ _ _ hb], q⟩
      · simp only [List.flatMap_cons, List.flatMap_nil, List.append_nil] at hb
        obtain ⟨k, hk, ha⟩ := List.mem_flatMap.mp ha
        rw [szP_lt, decide_eq_true_eq]
        refine .inl ?_
        rw [comb_lenE _ _ _ ha, comb_lenE _ _ _ hb]
        exact List.mem_range.mp hk
  exact this _
/-- all rows that the doubling makes -/
def subsF : List Int → List (List Int) → List (List Int)
  | [], rows => rows
  | x :: xs, rows => subsF xs (rows ++ rows.map fun row => row ++ [x])
def allB : List Int → List (List Int)
  | [] => [[]]
  | x :: r => allB r ++ (allB r).map (x :: ·)
theorem subsF_perm : ∀ (xs : List Int) (rows : List (List Int)), (subsF xs rows).Perm (rows.flatMap fun row => (allB xs).map (row ++ ·))
  | [], rows => by simp [subsF, allB]
  | x :: xs, rows => by
    rw [subsF]
    refine (subsF_perm xs _).trans ?_
    rw [List.flatMap_append, List.flatMap_map]
    induction rows with
    | nil => simp
    | cons a t ih =>
      simp only [List.flatMap_cons, allB, List.map_append, List.map_map]
      have e : (allB xs).map ((fun b => a ++ b) ∘ fun b => x :: b) = (allB xs).map fun b => (a ++ [x]) ++ b := List.map_congr_left fun b _ => by simp
      rw [e]
      refine List.Perm.trans ?_ (List.Perm.append_left _ (by simpa only [allB, List.map_append, List.map_map] using ih))
      rw [List.append_assoc, List.append_assoc]
      refine List.Perm.append_left _ ?_
      rw [← List.append_assoc, ← List.append_assoc]
      exact List.Perm.append_right _ List.perm_append_comm
theorem allB_perm : ∀ xs : List Int, (allB xs).Perm (allS xs)
  | [] => by simp [allB, allS, comb, List.range_succ]
  | x :: r => by
    have ih := allB_perm r
    rw [allB]
    refine (List.Perm.append ih (ih.map _)).trans ?_
    have key : ∀ n, ((List.range (n + 1)).flatMap fun k => comb k (x :: r)).Perm (((List.range (n + 1)).flatMap fun k => comb k r) ++ ((List.range n).flatMap fun k => comb k r).map (x :: ·)) := by
      intro n
      induction n with
      | zero => simp [comb]
      | succ n ih =>
        rw [List.range_succ, List.flatMap_append]
        refine (List.Perm.append_right _ ih).trans ?_
        have r1 : List.range (n + 1) = List.range n ++ [n] := List.range_succ
        have e1 : ((List.range (n + 1)).flatMap fun k => comb k r).map (x :: ·) = ((List.range n).flatMap fun k => comb k r).map (x :: ·) ++ (comb n r).map (x :: ·) := by
          rw [r1, List.flatMap_append, List.map_append]; simp
        rw [e1, List.flatMap_append]
        simp only [List.flatMap_cons, List.flatMap_nil, List.append_nil, comb, List.append_assoc]
        refine List.Perm.append_left _ ?_
        have c := @List.perm_append_comm _ (((List.range n).flatMap fun k => comb k r).map (x :: ·) ++ (comb n r).map (x :: ·)) (comb (n + 1) r)
        rw [List.append_assoc] at c
        exact c
    unfold allS
    rw [List.length_cons]
    refine List.Perm.trans ?_ (key (r.length + 1)).symm
    have e2 : (List.range (r.length + 1 + 1)).flatMap (fun k => comb k r) = (List.range (r.length + 1)).flatMap fun k => comb k r := by
      rw [List.range_succ, List.flatMap_append]
      have : comb (r.length + 1) r = [] := by
        cases q : comb (r.length + 1) r with
        | nil => rfl
        | cons a t =>
          have ha : a ∈ comb (r.length + 1) r := by rw [q]; simp
          have h1 := comb_lenE _ _ _ ha
          have h2 := (comb_row _ _ _ ha).length_le
          omega
      simp [this]
    rw [e2]
theorem subs_perm (xs : List Int) : (subsF xs [[]]).Perm (allS xs) := by
  refine (subsF_perm xs [[]]).trans ?_
  simp only [List.flatMap_cons, List.flatMap_nil, List.append_nil, List.nil_append]
  rw [List.map_id'']
  · exact allB_perm xs
  · intro a; rfl
theorem sort_subs (xs : List Int) (h : xs.Pairwise (· < ·)) : sortD ((subsF xs [[]]).map szP) = (allS xs).map szP := sortD_of ((subs_perm xs).symm.map _) (allS_lt xs h)
theorem subsF_app : ∀ (xs : List Int) (a : Int) (rows : List (List Int)), subsF (xs ++ [a]) rows = subsF xs rows ++ (subsF xs rows).map fun row => row ++ [a]
  | [], a, rows => rfl
  | x :: xs, a, rows => by
    show subsF (xs ++ [a]) _ = _
    rw [subsF_app xs a]
    rfl
theorem subsF_len : ∀ (xs : List Int) (rows : List (List Int)), (subsF xs rows).length = rows.length * 2 ^ xs.length
  | [], rows => by simp [subsF]
  | x :: xs, rows => by
    rw [subsF, subsF_len xs, List.length_append, List.length_map, List.length_cons, Nat.pow_succ, Nat.mul_comm (2 ^ xs.length) 2, ← Nat.mul_assoc]
    congr 1
    omega
theorem allS_row {xs row : List Int} (h : row ∈ allS xs) : row.Sublist xs := by
  obtain ⟨k, _, hk⟩ := List.mem_flatMap.mp h
  exact comb_row k xs row hk
theorem allS_len (xs : List Int) : (allS xs).length ≤ 2 ^ xs.length := sum_comb xs _
theorem subs_row {xs row : List Int} (h : row ∈ subsF xs [[]]) : row.length ≤ xs.length := (allS_row ((subs_perm xs).mem_iff.mp h)).length_le
theorem sortB_sz (rows : List (List Int)) : sortB (rows.map szP) = true := by
  unfold sortB
  rw [Bool.and_eq_true, Bool.and_eq_true, Bool.or_eq_true]
  refine ⟨?_, ?_, .inl ?_⟩
  · rw [List.all_map]
    exact List.all_eq_true.mpr fun r _ => flat_D (α := Int × PySem.W.Tup Int) (by decide) ((r.length : Int), PySem.W.Tup.mk r)
  · unfold alikeB
    rw [List.all_map]
    refine List.all_eq_true.mpr fun r _ => ?_
    show ((rows.map szP).all fun e => PySem.W.alike (szP r) e) = true
    rw [List.all_map]
    refine List.all_eq_true.mpr fun q _ => ?_
    show PySem.W.alike (szP r) (szP q) = true
    unfold szP
    have := PySem.W.alike_ints r q
    simp only [PySem.W.alike, PySem.W.alikeAll, T, this, Bool.and_self]
  · rw [List.all_map]
    exact List.all_eq_true.mpr fun r _ => rfl
/-- a list or a tuple of whole numbers -/
def Sq (d : PyData) (xs : List Int) : Prop := d = .list (xs.map PyData.int) ∨ d = T xs
theorem iSeq_sq {f : Ex} {env : SEnv} {W W' : List Int} {d : PyData} {xs : List Int} (h : Sq d xs) (e : f env W = some (d, .im, W')) : iSeq f env W = some (xs.map PyData.int, .im, W') := by
  unfold iSeq
  rw [e]
  rcases h with rfl | rfl <;> rfl
end PX

namespace PX
open PySem
/-! ### forward steps -/
section
variable {env env' : SEnv} {W W1 W2 W3 : List Int} {f g h : Ex} {d d1 d2 d3 dr : PyData} {k k1 k2 k3 kr : Kd} {op : Op} {s s2 : Sx} {i : Nat} {t t2 : Ct}
theorem fw0 (o : op [] = some (dr, kr)) : cCall op [] env W = some (dr, kr, W) := by simp [cCall, cArgs, o]
theorem fw1 (e1 : f env W = some (d1, k1, W1)) (o : op [(d1, k1)] = some (dr, kr)) : cCall op [f] env W = some (dr, kr, W1) := by simp [cCall, cArgs, e1, o]
theorem fw2 (e1 : f env W = some (d1, k1, W1)) (e2 : g env W1 = some (d2, k2, W2)) (o : op [(d1, k1), (d2, k2)] = some (dr, kr)) : cCall op [f, g] env W = some (dr, kr, W2) := by simp [cCall, cArgs, e1, e2, o]
theorem fw3 (e1 : f env W = some (d1, k1, W1)) (e2 : g env W1 = some (d2, k2, W2)) (e3 : h env W2 = some (d3, k3, W3)) (o : op [(d1, k1), (d2, k2), (d3, k3)] = some (dr, kr)) : cCall op [f, g, h] env W = some (dr, kr, W3) := by simp [cCall, cArgs, e1, e2, e3, o]
variable {F : List PyData → Option PyData}
theorem fwF1 (e1 : f env W = some (d1, k1, W1)) (x1 : esc k1 = true) (o : F [d1] = some dr) : cFn F [f] env W = some (dr, .im, W1) := by simp [cFn, cArgs, e1, x1, o]
theorem fwF2 (e1 : f env W = some (d1, k1, W1)) (x1 : esc k1 = true) (e2 : g env W1 = some (d2, k2, W2)) (x2 : esc k2 = true) (o : F [d1, d2] = some dr) : cFn F [f, g] env W = some (dr, .im, W2) := by simp [cFn, cArgs, e1, x1, e2, x2, o]
theorem fwF3 (e1 : f env W = some (d1, k1, W1)) (x1 : esc k1 = true) (e2 : g env W1 = some (d2, k2, W2)) (x2 : esc k2 = true) (e3 : h env W2 = some (d3, k3, W3)) (x3 : esc k3 = true) (o : F [d1, d2, d3] = some dr) : cFn F [f, g, h] env W = some (dr, .im, W3) := by simp [cFn, cArgs, e1, x1, e2, x2, e3, x3, o]
theorem fwB {b : Bool} (e : f env W = some (.bool b, k, W1)) : bOf f env W = some (b, W1) := by simp [bOf, e]
theorem fwAnd {b c : Bool} (e1 : t env W = some (b, W1)) (e2 : b = true → t2 env W1 = some (c, W1)) : kAnd t t2 env W = some (b && c, W1) := by
  unfold kAnd
  rw [e1, Option.bind_some]
  cases b with
  | true => dsimp only; rw [if_pos rfl, e2 rfl]; rfl
  | false => rfl
theorem fwOr {b c : Bool} (e1 : t env W = some (b, W1)) (e2 : b = false → t2 env W1 = some (c, W1)) : kOr t t2 env W = some (b || c, W1) := by
  unfold kOr
  rw [e1, Option.bind_some]
  cases b with
  | true => rfl
  | false => dsimp only; rw [if_neg Bool.false_ne_true, e2 rfl]; rfl
theorem fwNot {b : Bool} (e1 : t env W = some (b, W1)) : kNot t env W = some (!b, W1) := by simp [kNot, e1]
theorem fwIfT (e1 : t env W = some (true, W1)) (e2 : f env W1 = some (dr, kr, W2)) : cIf t f g env W = some (dr, kr, W2) := by simp [cIf, e1, e2]
theorem fwIfF (e1 : t env W = some (false, W1)) (e2 : g env W1 = some (dr, kr, W2)) : cIf t f g env W = some (dr, kr, W2) := by simp [cIf, e1, e2]
theorem fwLc {it : Ci} {tg : Tg} {c : Ct} {vs : List Nat} {ds q : List PyData} (hn : noOwn env vs = true) (e1 : it env W = some (ds, k, W1)) (hk : kOk vs k = true) (e2 : lcL tg c f ds (wipeE env vs) W1 = some (q, W2)) : cLc it tg c f vs env W = some (.list q, .fr, W2) := by
  unfold cLc
  rw [if_pos hn, e1, Option.bind_some]
  dsimp only
  rw [if_pos hk, e2]
  rfl
theorem fwLc2 {it it1 : Ci} {tg tg1 : Tg} {c c1 : Ct} {vs vs1 : List Nat} {ds q : List PyData} (hn : noOwn env vs = true) (e1 : it env W = some (ds, k, W1)) (hk : kOk vs k = true) (e2 : lc2L tg c it1 tg1 c1 f vs1 ds (wipeE env vs) W1 = some (q, W2)) (hl : q.length ≤ 16777216) : cLc2 it tg c it1 tg1 c1 f vs vs1 env W = some (.list q, .fr, W2) := by
  unfold cLc2
  rw [if_pos hn, e1, Option.bind_some]
  dsimp only
  rw [if_pos hk, e2, Option.bind_some]
  dsimp only
  rw [if_pos hl]
theorem fwSet {own : Bool} (e : f env W = some (d, .im, W1)) : sSet i own f env W = some (.nx (env.set i (.pl d)) W1) := by simp [sSet, e]
theorem fwSetF (e : f env W = some (d, .fr, W1)) : sSet i false f env W = some (.nx (env.set i (.pl d)) W1) := by simp [sSet, e]
theorem fwSetO (e : f env W = some (d, .fr, W1)) : sSet i true f env W = some (.nx (env.set i (.ow d)) W1) := by simp [sSet, e]
theorem fwRet (e : f env W = some (d, k, W1)) (hk : esc k = true) : sRetK f env W = some (.rt d W1) := by
  unfold sRetK
  rw [e, Option.bind_some]
  cases k with
  | im => rfl
  | fr => rfl
  | pk i => exact absurd hk Bool.false_ne_true
theorem fwT {o : Ou} (e1 : t env W = some (true, W1)) (e2 : s env W1 = some o) : sIf t s s2 env W = some o := by simp [sIf, e1, e2]
theorem fwE {o : Ou} (e1 : t env W = some (false, W1)) (e2 : s2 env W1 = some o) : sIf t s s2 env W = some o := by simp [sIf, e1, e2]
theorem fwNil : sNil env W = some (.nx env W) := rfl
/-- if test: return False, the test being false -/
theorem fwPass (e1 : t env W = some (false, W1)) : sIf t s sNil env W = some (.nx env W1) := fwE e1 fwNil
theorem fwSeqR {d : PyData} (e : s env W = some (.rt d W1)) : sSeq s s2 env W = some (.rt d W1) := by simp [sSeq, e]
theorem fwApp {ds : List PyData} (ho : env[i]? = some (.ow (.list ds))) (e : f env W = some (d, k, W1)) (hk : esc k = true) (hl : ds.length < 16777216) : sApp i f env W = some (.nx (env.set i (.ow (.list (ds ++ [d])))) W1) := by
  unfold sApp
  rw [e, Option.bind_some]
  dsimp only
  rw [ho]
  dsimp only
  rw [if_pos ⟨hk, hl⟩]
theorem fwExt {ds es : List PyData} (ho : env[i]? = some (.ow (.list ds))) (e : f env W = some (.list es, k, W1)) (hl : ds.length + es.length ≤ 16777216) : sExt i f env W = some (.nx (env.set i (.ow (.list (ds ++ es)))) W1) := by
  unfold sExt
  rw [e]
  dsimp only
  rw [ho]
  dsimp only
  rw [if_pos hl]
theorem fwSeqL {ds : List PyData} (e : f env W = some (.list ds, .im, W1)) : iSeq f env W = some (ds, .im, W1) := by simp [iSeq, e, kdI]
theorem fwSeqF {ds : List PyData} (e : f env W = some (.list ds, .fr, W1)) : iSeq f env W = some (ds, .im, W1) := by simp [iSeq, e, kdI]
theorem fwSeqT {ds : List PyData} (e : f env W = some (.tuple ds, k, W1)) : iSeq f env W = some (ds, .im, W1) := by simp [iSeq, e]
theorem fwR2 {lo hi : Int} (e1 : f env W = some (.int lo, k1, W1)) (e2 : g env W1 = some (.int hi, k2, W2)) (h1 : lo ≤ 1000000) (h2 : -1000000 ≤ lo) (h3 : hi ≤ 1000000) (h4 : -1000000 ≤ hi) : iR2 f g env W = some (rgI lo (hi - lo).toNat, .im, W2) := by
  unfold iR2
  rw [e1]
  dsimp only
  rw [e2]
  dsimp only
  rw [if_pos ⟨h1, h2, h3, h4⟩]
theorem fwR1 {hi : Int} (e1 : f env W = some (.int hi, k1, W1)) (h3 : hi ≤ 1000000) (h4 : -1000000 ≤ hi) : iR1 f env W = some (rgI 0 hi.toNat, .im, W1) := by
  unfold iR1
  rw [e1]
  dsimp only
  rw [if_pos ⟨h3, h4⟩]
theorem fwFor {it : Ci} {tg : Tg} {ds : List PyData} (e : it env W = some (ds, k, W1)) (hk : esc k = true) : sFor it tg s env W = forL tg s ds env W1 := by
  unfold sFor
  rw [e, Option.bind_some]
  dsimp only
  rw [if_pos hk]
theorem fwLst0 : cCall oLst [] env W = some (.list [], .fr, W) := by simp [cCall, cArgs, oLst]
theorem fwTup0 : cCall oTup [] env W = some (.tuple [], .im, W) := by simp [cCall, cArgs, oTup]
theorem fwTup1 (e1 : f env W = some (d1, k1, W1)) (x1 : esc k1 = true) : cCall oTup [f] env W = some (.tuple [d1], .im, W1) := fw1 e1 (by simp [oTup, x1])
theorem fwTup2 (e1 : f env W = some (d1, k1, W1)) (x1 : esc k1 = true) (e2 : g env W1 = some (d2, k2, W2)) (x2 : esc k2 = true) : cCall oTup [f, g] env W = some (.tuple [d1, d2], .im, W2) := fw2 e1 e2 (by simp [oTup, x1, x2])
theorem fwIx0 {ds : List PyData} (k k' : Kd) : oIx [(.list (d :: ds), k), (.int 0, k')] = some (d, .im) := by
  have e : L2.atI (d :: ds) (0 : Int) = some d := L2.atI_nat (j := 0) rfl
  simp only [oIx, e, Option.map_some]
theorem fwIx0T {ds : List PyData} (k k' : Kd) : oIx [(.tuple (d :: ds), k), (.int 0, k')] = some (d, .im) := by
  have e : L2.atI (d :: ds) (0 : Int) = some d := L2.atI_nat (j := 0) rfl
  simp only [oIx, e, Option.map_some]
end
/-! ### lists and tuples of numbers compared -/
theorem eqT (a b : List Int) (k k' : Kd) : oEq [(T a, k), (T b, k')] = some (.bool (decide (a = b)), .im) := by
  have h := ev_eq (α := PySem.W.Tup Int) (by decide) ⟨a⟩ ⟨b⟩ k k'
  have e : decide (PySem.W.Tup.mk a = PySem.W.Tup.mk b) = decide (a = b) := decide_eq_decide.mpr ⟨fun h => PySem.W.Tup.mk.inj h, fun h => by rw [h]⟩
  rw [e] at h
  exact h
theorem neT (a b : List Int) (k k' : Kd) : oNe [(T a, k), (T b, k')] = some (.bool (!decide (a = b)), .im) := by
  have h := ev_ne (α := PySem.W.Tup Int) (by decide) ⟨a⟩ ⟨b⟩ k k'
  have e : decide (PySem.W.Tup.mk a = PySem.W.Tup.mk b) = decide (a = b) := decide_eq_decide.mpr ⟨fun h => PySem.W.Tup.mk.inj h, fun h => by rw [h]⟩
  rw [e] at h
  exact h
theorem eqL (a b : List Int) (k k' : Kd) : oEq [(.list (a.map PyData.int), k), (.list (b.map PyData.int), k')] = some (.bool (decide (a = b)), .im) := ev_eq (α := List Int) (by decide) a b k k'
theorem neL (a b : List Int) (k k' : Kd) : oNe [(.list (a.map PyData.int), k), (.list (b.map PyData.int), k')] = some (.bool (!decide (a = b)), .im) := ev_ne (α := List Int) (by decide) a b k k'
theorem niT (x : Int) (xs : List Int) (k k' : Kd) : oNotIn [(.int x, k), (T xs, k')] = some (.bool (!decide (x ∈ xs)), .im) := ev_niT (α := Int) (by decide) x xs k k'
theorem inT (x : Int) (xs : List Int) (k k' : Kd) : oIn [(.int x, k), (T xs, k')] = some (.bool (decide (x ∈ xs)), .im) := ev_inT (α := Int) (by decide) x xs k k'
theorem nnil (rs : List (List Int)) (k k' : Kd) : oNe [(.list (rs.map T), k), (.list [], k')] = some (.bool (!rs.isEmpty), .im) := by
  have hh := ev_ne (α := List (PySem.W.Tup Int)) (by decide) (rs.map PySem.W.Tup.mk) [] k k'
  have e1 : (D (rs.map PySem.W.Tup.mk) : PyData) = .list (rs.map T) := by
    show PyData.list ((rs.map PySem.W.Tup.mk).map _) = _
    rw [List.map_map]; rfl
  have e2 : decide (rs.map PySem.W.Tup.mk = []) = rs.isEmpty := by cases rs <;> simp
  rw [e1, e2] at hh
  exact hh
/-- [x for x in a if x not in b] -/
theorem notin_lc {env : SEnv} {W : List Int} {i : Nat} {fb : Ex} {as bs : List Int} (hb : ∀ x, fb (env.set i (.pl (.int x))) W = some (T bs, .im, W)) (hi : ∀ x, cVar i (env.set i (.pl (.int x))) W = some (.int x, .im, W)) :
    lcL (gN i) (bOf (cCall oNotIn [cVar i, fb])) (cVar i) (as.map PyData.int) env W = some ((as.filter fun x => !decide (x ∈ bs)).map PyData.int, W) := lcL_fm PyData.int _ PyData.int as (fun x _ => ⟨_, rfl, fwB (fw2 (hi x) (hb x) (niT x bs _ _)), fun _ => ⟨.im, hi x, rfl⟩⟩)
theorem in_lc {env : SEnv} {W : List Int} {i : Nat} {fb : Ex} {as bs : List Int} (hb : ∀ x, fb (env.set i (.pl (.int x))) W = some (T bs, .im, W)) (hi : ∀ x, cVar i (env.set i (.pl (.int x))) W = some (.int x, .im, W)) :
    lcL (gN i) (bOf (cCall oIn [cVar i, fb])) (cVar i) (as.map PyData.int) env W = some ((as.filter fun x => decide (x ∈ bs)).map PyData.int, W) := lcL_fm PyData.int _ PyData.int as (fun x _ => ⟨_, rfl, fwB (fw2 (hi x) (hb x) (inT x bs _ _)), fun _ => ⟨.im, hi x, rfl⟩⟩)
end PX

namespace PX
open PySem PySem.Spec PyProof.Rows L2
/-! ### isinstance(x, T), T one of int, bool, str, tuple -/
def tyD : PyData → String
  | .none => "NoneType"
  | .bool _ => "bool"
  | .int _ => "int"
  | .str _ => "str"
  | .list _ => "list"
  | .tuple _ => "tuple"
  | .dict _ => "dict"
def isiD (T : String) (d : PyData) : Bool := tyD d == T || (T == "int" && tyD d == "bool")
def noD0 : PyData → Bool
  | .dict _ => false
  | _ => true
def oIsi (T : String) : Op
  | [(d, _)] => if noD0 d && (T == "int" || T == "bool" || T == "str" || T == "tuple") then some (.bool (isiD T d), .im) else none
  | _ => none
section
variable {X : Cx} {a : Expr} {f : Ex} {p p2 pos : Pos}
theorem rp_ty {K : FW} {H : Hp} {v : V} {d : PyData} (h : Rp K H v d) (n : noD0 d = true) : TyX K H v (.type (tyD d)) := by
  cases h with
  | non => exact .base .non
  | bl b => exact .base (.bl b)
  | int i => exact .base (.int i)
  | str x h => exact .base (.str x)
  | lst ha hr => exact .base (.lst ha)
  | tup ha hr =>
    rcases ha.sqT with (h | ⟨o, h⟩) | ⟨o, its, n, e, c, _⟩
    · exact .base (.tup h)
    · exact .fTuple h
    · exact .kTuple e c
  | dK ha hr => cases n
  | dT ha hr => cases n
theorem kitB_ok {T : String} (hT : (T == "int" || T == "bool" || T == "str" || T == "tuple") = true) (d : PyData) (n : noD0 d = true) : kitB (tyD d) T = some (isiD T d) := by
  simp only [Bool.or_eq_true, beq_iff_eq] at hT
  have key : ∀ t ∈ ["NoneType", "bool", "int", "str", "list", "tuple"], ∀ T ∈ ["int", "bool", "str", "tuple"], kitB t T = some (t == T || (T == "int" && t == "bool")) := by decide +kernel
  have ht : tyD d ∈ ["NoneType", "bool", "int", "str", "list", "tuple"] := by cases d <;> simp [tyD] <;> cases n
  have hT' : T ∈ ["int", "bool", "str", "tuple"] := by rcases hT with ((h | h) | h) | h <;> simp [h]
  exact key _ ht _ hT'
theorem px_isi {T : String} {x : Str} (hg : Gl X "isinstance") (hm : X.mg "isinstance" = none) (hg2 : Gl X x) (hm2 : X.mg x = none) (hv : bootBuiltins x = some (.type T)) (ha : PX X a f) (hn : x ≠ "__name__" := by decide) (hd : (x == ("__debug__" : Str)) = false := by decide)
    (h1 : starEach [a, .Name x p2] X.env = (false, eval a X.env) :: starEach [.Name x p2] X.env := by rfl) (h2 : starEach [.Name x p2] X.env = (false, eval (.Name x p2) X.env) :: starEach [] X.env := by rfl) (hpl : (backTo pos (starEach [.Name x p2] X.env)).any (·.1) = false := by rfl) :
    PX X (.Call (.Name "isinstance" p) [a, .Name x p2] [] pos) (cCall (oIsi T) [f]) :=
  PE.imp (pe_callB call_isi hg hm PyProof.Rows.boot_isinstance (pa_cons ha (pa_cons (pe_bltn (v := .ty T) hg2 hm2 hv rfl hn hd) pa_nil h2) h1) (by decide) (by decide) h1 hpl) fun σ H Q q => by
    obtain ⟨B, Gb, G, env, W, d, k, W', S, e, c⟩ := q
    obtain ⟨d1, k1, e1, e2⟩ := cCall_one e
    have e3 : (if (noD0 d1 && (T == "int" || T == "bool" || T == "str" || T == "tuple")) = true then some (PyData.bool (isiD T d1), Kd.im) else none) = some (d, k) := e2
    by_cases hc : (noD0 d1 && (T == "int" || T == "bool" || T == "str" || T == "tuple")) = true
    · rw [if_pos hc] at e3
      rw [Bool.and_eq_true] at hc
      cases e3
      refine ⟨B, Gb, G, env, W, _, _, W', S, e1, fun v1 G1 H1 s1 S1 h1' => ?_⟩
      exact ⟨v1, .ty T, .type (tyD d1), .type T, _, rfl, .ty T, rp_ty (h1'.rp S1) hc.1, kit_ty (kitB_ok hc.2 d1 hc.1), (c.sub s1).bool S1⟩
    · rw [if_neg hc] at e3
      cases e3
end
end PX

namespace PX
open PySem
/-! ### draws as values -/
def nx : List Int → Int → Int
  | [], _ => 0
  | x :: _, m => x % m
theorem nx_bd (W : List Int) {m : Int} (h : 0 < m) : 0 ≤ nx W m ∧ nx W m < m := by
  cases W with
  | nil => exact ⟨Int.le_refl _, h⟩
  | cons x r => exact ⟨Int.emod_nonneg _ (by omega), Int.emod_lt_of_pos _ h⟩
section
variable {env env' e1 : SEnv} {W W1 W2 W3 : List Int} {f g h : Ex} {d d1 d2 d3 dr : PyData} {k k1 k2 k3 kr : Kd} {op : Op} {s s2 s3 : Sx} {i j : Nat} {t t2 : Ct} {Q : Ou → Prop} {own own2 : Bool} {sl sl2 : Sl}
theorem fwNext {m : Int} (hw : env[i]? = some .wd) (hf : f env W = some (.int m, k, W1)) (hm : 0 < m) : cNext i f env W = some (.int (nx W1 m), .im, W1.tail) := by
  unfold cNext
  rw [hw, hf]
  dsimp only
  rw [if_pos hm]
  cases W1 <;> rfl
theorem fwVar (h : env[i]? = some (.pl d)) : cVar i env W = some (d, .im, W) := by unfold cVar; rw [h]
theorem fwVarO (h : env[i]? = some (.ow d)) : cVar i env W = some (d, .pk i, W) := by unfold cVar; rw [h]
theorem fwK : cK d env W = some (d, .im, W) := rfl
theorem fwIf {b : Bool} (e1 : t env W = some (b, W1)) (e2 : f env W1 = some (d1, k, W2)) (e3 : g env W1 = some (d2, k, W2)) : cIf t f g env W = some (if b = true then d1 else d2, k, W2) := by
  cases b with
  | true => exact fwIfT e1 e2
  | false => exact fwIfF e1 e3
theorem fwTup3 (e1 : f env W = some (d1, k1, W1)) (x1 : esc k1 = true) (e2 : g env W1 = some (d2, k2, W2)) (x2 : esc k2 = true) (e3 : h env W2 = some (d3, k3, W3)) (x3 : esc k3 = true) : cCall oTup [f, g, h] env W = some (.tuple [d1, d2, d3], .im, W3) := fw3 e1 e2 e3 (by simp [oTup, x1, x2, x3])
theorem fwLst1 (e1 : f env W = some (d1, k1, W1)) (x1 : esc k1 = true) : cCall oLst [f] env W = some (.list [d1], .fr, W1) := fw1 e1 (by simp [oLst, x1])
theorem fwLst2 (e1 : f env W = some (d1, k1, W1)) (x1 : esc k1 = true) (e2 : g env W1 = some (d2, k2, W2)) (x2 : esc k2 = true) : cCall oLst [f, g] env W = some (.list [d1, d2], .fr, W2) := fw2 e1 e2 (by simp [oLst, x1, x2])
theorem fwIx1T {ds : List PyData} (k k' : Kd) : oIx [(.tuple (d1 :: d :: ds), k), (.int 1, k')] = some (d, .im) := by
  have e : L2.atI (d1 :: d :: ds) (1 : Int) = some d := L2.atI_nat (j := 1) rfl
  simp only [oIx, e, Option.map_some]
theorem fwIx2T {ds : List PyData} (k k' : Kd) : oIx [(.tuple (d1 :: d2 :: d :: ds), k), (.int 2, k')] = some (d, .im) := by
  have e : L2.atI (d1 :: d2 :: d :: ds) (2 : Int) = some d := L2.atI_nat (j := 2) rfl
  simp only [oIx, e, Option.map_some]
theorem fwIx1L {ds : List PyData} (k k' : Kd) : oIx [(.list (d1 :: d :: ds), k), (.int 1, k')] = some (d, .im) := by
  have e : L2.atI (d1 :: d :: ds) (1 : Int) = some d := L2.atI_nat (j := 1) rfl
  simp only [oIx, e, Option.map_some]
theorem fwIxN {ds : List PyData} {n : Nat} (h : ds[n]? = some d) (k k' : Kd) : oIx [(.tuple ds, k), (.int (n : Nat), k')] = some (d, .im) := by
  have e : L2.atI ds (n : Int) = some d := L2.atI_nat h
  simp only [oIx, e, Option.map_some]
theorem fwIxNL {ds : List PyData} {n : Nat} (h : ds[n]? = some d) (k k' : Kd) : oIx [(.list ds, k), (.int (n : Nat), k')] = some (d, .im) := by
  have e : L2.atI ds (n : Int) = some d := L2.atI_nat h
  simp only [oIx, e, Option.map_some]
theorem mulI (a b : Int) (h : b.natAbs < 18446744073709551616) (k k' : Kd) : oMul [(.int a, k), (.int b, k')] = some (.int (a * b), .im) := oMul_e a b k k' h
theorem divI (a b : Int) (h0 : b ≠ 0) (h1 : b.natAbs < 1073741824) (k k' : Kd) : oDiv [(.int a, k), (.int b, k')] = some (.int (a.fdiv b), .im) := by
  unfold oDiv
  exact if_pos ⟨h0, h1⟩
theorem modI (a b : Int) (hb : 0 < b) (k k' : Kd) : oMod [(.int a, k), (.int b, k')] = some (.int (a % b), .im) := by
  unfold oMod
  dsimp only
  rw [if_pos (by omega), Int.fmod_eq_emod_of_nonneg a (by omega)]
theorem absI (a : Int) (k : Kd) : oAbs [(.int a, k)] = some (.int (a.natAbs : Int), .im) := by
  have : (if a < 0 then -a else a) = (a.natAbs : Int) := by split <;> omega
  show some (PyData.int (if a < 0 then -a else a), Kd.im) = _
  rw [this]
theorem addI (a b : Int) (k k' : Kd) : oAdd [(.int a, k), (.int b, k')] = some (.int (a + b), .im) := rfl
theorem subI (a b : Int) (k k' : Kd) : oSub [(.int a, k), (.int b, k')] = some (.int (a - b), .im) := rfl
theorem negI (a : Int) (k : Kd) : oNeg [(.int a, k)] = some (.int (-a), .im) := rfl
theorem ltI (a b : Int) (k k' : Kd) : oLt [(.int a, k), (.int b, k')] = some (.bool (decide (a < b)), .im) := rfl
theorem leI (a b : Int) (k k' : Kd) : oLe [(.int a, k), (.int b, k')] = some (.bool (decide (a ≤ b)), .im) := rfl
theorem gtI (a b : Int) (k k' : Kd) : oGt [(.int a, k), (.int b, k')] = some (.bool (decide (b < a)), .im) := rfl
theorem geI (a b : Int) (k k' : Kd) : oGe [(.int a, k), (.int b, k')] = some (.bool (decide (b ≤ a)), .im) := rfl
theorem isNonN (k k' : Kd) : oIs [(.none, k), (.none, k')] = some (.bool true, .im) := rfl
theorem lenL {ds : List PyData} (k : Kd) : oLen [(.list ds, k)] = some (.int ds.length, .im) := rfl
theorem lenT {ds : List PyData} (k : Kd) : oLen [(.tuple ds, k)] = some (.int ds.length, .im) := rfl
theorem fwSetG (e : f env W = some (d, k, W1)) (hs : slOf own d k = some sl) : sSet i own f env W = some (.nx (env.set i sl) W1) := by
  unfold sSet
  rw [e, Option.bind_some]
  cases k with
  | im => cases hs; rfl
  | fr => cases hs; rfl
  | pk j => cases hs
theorem fwParG (e1 : f env W = some (d1, k1, W1)) (h1 : slOf own d1 k1 = some sl) (e2 : g env W1 = some (d2, k2, W2)) (h2 : slOf own2 d2 k2 = some sl2) : sPar i own j own2 f g env W = some (.nx ((env.set i sl).set j sl2) W2) := by
  unfold sPar
  rw [e1, Option.bind_some, e2, Option.bind_some, h1, Option.bind_some, h2, Option.map_some]
/-! ### a run and what is wanted at its end -/
def Runs (s : Sx) (env : SEnv) (W : List Int) (Q : Ou → Prop) : Prop := ∃ o, s env W = some o ∧ Q o
theorem ru_seq (h : s env W = some (.nx e1 W1)) (h2 : Runs s2 e1 W1 Q) : Runs (sSeq s s2) env W Q := by
  obtain ⟨o, q1, q2⟩ := h2
  exact ⟨o, by unfold sSeq; rw [h]; exact q1, q2⟩
theorem ru_nil (q : Q (.nx env W)) : Runs sNil env W Q := ⟨_, rfl, q⟩
theorem ru_ret (e : f env W = some (d, k, W1)) (hk : esc k = true) (q : Q (.rt d W1)) : Runs (sSeq (sRetK f) s2) env W Q := ⟨_, fwSeqR (fwRet e hk), q⟩
theorem ru_set (e : f env W = some (d, k, W1)) (hs : slOf own d k = some sl) (h : Runs s2 (env.set i sl) W1 Q) : Runs (sSeq (sSet i own f) s2) env W Q := ru_seq (fwSetG e hs) h
theorem ru_par (e1 : f env W = some (d1, k1, W1)) (h1 : slOf own d1 k1 = some sl) (e2 : g env W1 = some (d2, k2, W2)) (h2 : slOf own2 d2 k2 = some sl2) (h : Runs s2 ((env.set i sl).set j sl2) W2 Q) : Runs (sSeq (sPar i own j own2 f g) s2) env W Q := ru_seq (fwParG e1 h1 e2 h2) h
theorem ru_wipe {is : List Nat} (h : Runs s (wipeE env is) W Q) : Runs (sWipe is s) env W Q := h
theorem ru_frz (e : env[i]? = some (.ow d)) (h : Runs s (env.set i (.pl d)) W Q) : Runs (sFrz i s) env W Q := by
  obtain ⟨o, q1, q2⟩ := h
  exact ⟨o, by unfold sFrz; rw [e]; exact q1, q2⟩
theorem ru_frz0 (e : env[i]? = some (.pl d)) (h : Runs s env W Q) : Runs (sFrz i s) env W Q := by
  obtain ⟨o, q1, q2⟩ := h
  exact ⟨o, by unfold sFrz; rw [e]; exact q1, q2⟩
theorem ru_frzS (h : Runs (sFrz i (sSeq s s2)) env W Q) : Runs (sSeq (sFrz i s) s2) env W Q := by
  obtain ⟨o, q1, q2⟩ := h
  refine ⟨o, ?_, q2⟩
  unfold sFrz at q1
  unfold sSeq sFrz
  cases he : env[i]? with
  | none => rw [he] at q1; exact q1
  | some z => rw [he] at q1; cases z <;> exact q1
theorem ru_wipeS {is : List Nat} (h : Runs (sWipe is (sSeq s s2)) env W Q) : Runs (sSeq (sWipe is s) s2) env W Q := h
theorem ru_assoc (h : Runs (sSeq s (sSeq s2 s3)) env W Q) : Runs (sSeq (sSeq s s2) s3) env W Q := by
  obtain ⟨o, q1, q2⟩ := h
  refine ⟨o, ?_, q2⟩
  unfold sSeq at *
  cases he : s env W with
  | none => rw [he] at q1; exact q1
  | some z => rw [he] at q1; cases z <;> exact q1
theorem ru_nilS (h : Runs s2 env W Q) : Runs (sSeq sNil s2) env W Q := h
theorem ru_pass (e : t env W = some (false, W1)) (h : Runs s2 env W1 Q) : Runs (sSeq (sIf t s sNil) s2) env W Q := ru_seq (fwPass e) h
theorem ru_ifT (e : t env W = some (true, W1)) (h : Runs (sSeq s s2) env W1 Q) : Runs (sSeq (sIf t s s3) s2) env W Q := by
  obtain ⟨o, q1, q2⟩ := h
  refine ⟨o, ?_, q2⟩
  unfold sSeq sIf at *
  rw [e]
  exact q1
theorem ru_ifF (e : t env W = some (false, W1)) (h : Runs (sSeq s3 s2) env W1 Q) : Runs (sSeq (sIf t s s3) s2) env W Q := by
  obtain ⟨o, q1, q2⟩ := h
  refine ⟨o, ?_, q2⟩
  unfold sSeq sIf at *
  rw [e]
  exact q1
/-- both ways -/
theorem ru_if {b : Bool} (e : t env W = some (b, W1)) (h : b = true → Runs (sSeq s s2) env W1 Q) (h' : b = false → Runs (sSeq s3 s2) env W1 Q) : Runs (sSeq (sIf t s s3) s2) env W Q := by
  cases b with
  | true => exact ru_ifT e (h rfl)
  | false => exact ru_ifF e (h' rfl)
theorem ru_aug {o : Int → Int → Int} {x y : Int} (h : env[i]? = some (.pl (.int x))) (e : f env W = some (.int y, k, W1)) (h2 : Runs s2 (env.set i (.pl (.int (o x y)))) W1 Q) : Runs (sSeq (sAug i o f) s2) env W Q := ru_seq (by unfold sAug; rw [h, e]) h2
theorem ru_app {ds : List PyData} (ho : env[i]? = some (.ow (.list ds))) (e : f env W = some (d, k, W1)) (hk : esc k = true) (hl : ds.length < 16777216) (h2 : Runs s2 (env.set i (.ow (.list (ds ++ [d])))) W1 Q) : Runs (sSeq (sApp i f) s2) env W Q := ru_seq (fwApp ho e hk hl) h2
theorem ru_ext {ds es : List PyData} (ho : env[i]? = some (.ow (.list ds))) (e : f env W = some (.list es, k, W1)) (hl : ds.length + es.length ≤ 16777216) (h2 : Runs s2 (env.set i (.ow (.list (ds ++ es)))) W1 Q) : Runs (sSeq (sExt i f) s2) env W Q := ru_seq (fwExt ho e hl) h2
theorem ru_asg {tg : Tg} {e' : SEnv} (e : f env W = some (d, k, W1)) (hk : esc k = true) (ht : tg d env = some e') (h2 : Runs s2 e' W1 Q) : Runs (sSeq (sAsg f tg) s2) env W Q := ru_seq (by
  unfold sAsg
  rw [e, Option.bind_some]
  cases k with
  | im => dsimp only; rw [ht]; rfl
  | fr => dsimp only; rw [ht]; rfl
  | pk j => exact absurd hk Bool.false_ne_true) h2
/-- the end of a def -/
def Rt (d : PyData) : Ou → Prop := fun o => ∃ W, o = .rt d W
theorem rt_i : Rt d (.rt d W) := ⟨W, rfl⟩
theorem runF_of {n np : Nat} {ds : List PyData} (hl : ds.length = np) (h : Runs s (env0 n ds) [] (Rt d)) : runF n np s ds = some d := by
  obtain ⟨o, q1, W, rfl⟩ := h
  refine (runF_eq hl).trans ?_
  rw [q1]
  rfl
def Nxt (R : SEnv → Prop) : Ou → Prop := fun o => ∃ e W, o = .nx e W ∧ R e
theorem nxt_of {R : SEnv → Prop} (h : Runs s env W (Nxt R)) : ∃ e2 W2, s env W = some (.nx e2 W2) ∧ R e2 := by
  obtain ⟨o, q1, e, W', rfl, q2⟩ := h
  exact ⟨e, W', q1, q2⟩
/-- exactly this end -/
theorem end_of {o : Ou} (h : Runs s env W (fun x => x = o)) : s env W = some o := by
  obtain ⟨o', q1, rfl⟩ := h
  exact q1
end
end PX

namespace PX
open PySem
/-! ### pairs of numbers: the least and the greatest -/
def Q2 (p : Int × Int) : PyData := .tuple [.int p.1, .int p.2]
def lt2 (x y : Int × Int) : Bool := decide (x.1 < y.1 ∨ (x.1 = y.1 ∧ x.2 < y.2))
theorem dl2 (x y : Int × Int) : PySem.W.dataLt (Q2 x) (Q2 y) = lt2 x y := by
  unfold Q2 lt2
  rw [PySem.W.dataLt_pair (by simp [PySem.W.alike]) (by simp [PySem.W.alike]), PySem.W.dataLt_int, PySem.W.dataLt_int]
  simp only [PyData.eqv, beq_iff_eq]
  by_cases h1 : x.1 = y.1
  · rw [if_pos h1]
    by_cases h2 : x.2 = y.2
    · rw [if_pos h2]; simp [h1, h2]
    · rw [if_neg h2]; simp [h1]
  · rw [if_neg h1]; simp [h1]
theorem minOk2 (as : List (Int × Int)) : minOk (as.map Q2) = true := by
  unfold minOk
  rw [Bool.and_eq_true, Bool.and_eq_true]
  refine ⟨flats_D (α := Int × Int) (by decide) as, ?_, ?_⟩
  · unfold alikeB
    rw [List.all_map]
    refine List.all_eq_true.mpr fun r _ => ?_
    show ((as.map Q2).all fun e => PySem.W.alike (Q2 r) e) = true
    rw [List.all_map]
    refine List.all_eq_true.mpr fun q _ => ?_
    show PySem.W.alike (Q2 r) (Q2 q) = true
    simp [Q2, PySem.W.alike, PySem.W.alikeAll]
  · rw [List.all_map]
    exact List.all_eq_true.mpr fun r _ => rfl
def min2 (a : Int × Int) (as : List (Int × Int)) : Int × Int := as.foldl (fun a y => if lt2 y a = true then y else a) a
def max2 (a : Int × Int) (as : List (Int × Int)) : Int × Int := as.foldl (fun a y => if lt2 a y = true then y else a) a
theorem minD2 : ∀ (as : List (Int × Int)) (a : Int × Int), PySem.W.minD (Q2 a) (as.map Q2) = Q2 (min2 a as)
  | [], _ => rfl
  | b :: r, a => by
    show PySem.W.minD (if PySem.W.dataLt (Q2 b) (Q2 a) = true then Q2 b else Q2 a) (r.map Q2) = Q2 (min2 (if lt2 b a = true then b else a) r)
    rw [dl2, ← minD2 r]
    cases lt2 b a <;> rfl
theorem maxD2 : ∀ (as : List (Int × Int)) (a : Int × Int), PySem.W.maxD (Q2 a) (as.map Q2) = Q2 (max2 a as)
  | [], _ => rfl
  | b :: r, a => by
    show PySem.W.maxD (if PySem.W.dataLt (Q2 a) (Q2 b) = true then Q2 b else Q2 a) (r.map Q2) = Q2 (max2 (if lt2 a b = true then b else a) r)
    rw [dl2, ← maxD2 r]
    cases lt2 a b <;> rfl
theorem oMin2 (a : Int × Int) (as : List (Int × Int)) (k : Kd) : oMin [(.list ((a :: as).map Q2), k)] = some (Q2 (min2 a as), .im) := by
  have := minOk2 (a :: as)
  rw [List.map_cons] at *
  unfold oMin
  dsimp only
  rw [if_pos this, minD2]
theorem oMax2 (a : Int × Int) (as : List (Int × Int)) (k : Kd) : oMax [(.list ((a :: as).map Q2), k)] = some (Q2 (max2 a as), .im) := by
  have := minOk2 (a :: as)
  rw [List.map_cons] at *
  unfold oMax
  dsimp only
  rw [if_pos this, maxD2]
/-- turned round, the greatest is the least -/
theorem min2_map (φ : Int × Int → Int × Int) (h : ∀ x y, lt2 (φ y) (φ x) = lt2 x y) : ∀ (as : List (Int × Int)) (a : Int × Int), min2 (φ a) (as.map φ) = φ (max2 a as)
  | [], _ => rfl
  | b :: r, a => by
    show min2 (if lt2 (φ b) (φ a) = true then φ b else φ a) (r.map φ) = φ (max2 (if lt2 a b = true then b else a) r)
    rw [h, ← min2_map φ h r]
    cases lt2 a b <;> rfl
theorem pairs_eqnil (rs : List (Int × Int)) (k k' : Kd) : oEq [(.list (rs.map Q2), k), (.list [], k')] = some (.bool rs.isEmpty, .im) := by
  have hh := ev_eq (α := List (Int × Int)) (by decide) rs [] k k'
  have e2 : decide (rs = []) = rs.isEmpty := by cases rs <;> simp
  rw [e2] at hh
  exact hh
theorem eqQ2 (x y : Int × Int) (k k' : Kd) : oEq [(Q2 x, k), (Q2 y, k')] = some (.bool (decide (x = y)), .im) := ev_eq (α := Int × Int) (by decide) x y k k'
theorem neQ2 (x y : Int × Int) (k k' : Kd) : oNe [(Q2 x, k), (Q2 y, k')] = some (.bool (!decide (x = y)), .im) := ev_ne (α := Int × Int) (by decide) x y k k'
theorem ints_eqnil (rs : List Int) (k k' : Kd) : oEq [(.list (rs.map PyData.int), k), (.list [], k')] = some (.bool rs.isEmpty, .im) := by
  have hh := ev_eq (α := List Int) (by decide) rs [] k k'
  have e2 : decide (rs = []) = rs.isEmpty := by cases rs <;> simp
  rw [e2] at hh
  exact hh
theorem ints_nenil (rs : List Int) (k k' : Kd) : oNe [(.list (rs.map PyData.int), k), (.list [], k')] = some (.bool (!rs.isEmpty), .im) := by
  have hh := ev_ne (α := List Int) (by decide) rs [] k k'
  have e2 : decide (rs = []) = rs.isEmpty := by cases rs <;> simp
  rw [e2] at hh
  exact hh
/-! ### ranges -/
/-- lo, lo + 1, .. -/
def rgZ (lo : Int) (n : Nat) : List Int := (List.range n).map fun i : Nat => lo + (i : Int)
theorem rgI_Z (lo : Int) (n : Nat) : rgI lo n = (rgZ lo n).map PyData.int := rgI_map lo n
theorem rgZ_mem {lo : Int} {n : Nat} {x : Int} : x ∈ rgZ lo n ↔ lo ≤ x ∧ x < lo + n := by
  unfold rgZ
  rw [List.mem_map]
  constructor
  · rintro ⟨i, hi, rfl⟩
    have := List.mem_range.mp hi
    omega
  · intro h
    exact ⟨(x - lo).toNat, List.mem_range.mpr (by omega), by omega⟩
theorem rgZ_len (lo : Int) (n : Nat) : (rgZ lo n).length = n := by unfold rgZ; rw [List.length_map, List.length_range]
theorem rgZ_add (lo : Int) (a b : Nat) : rgZ lo (a + b) = rgZ lo a ++ rgZ (lo + a) b := by
  unfold rgZ
  rw [List.range_add, List.map_append, List.map_map]
  congr 1
  refine List.map_congr_left fun i _ => ?_
  simp only [Function.comp_apply]
  omega
theorem rgZ_get {lo : Int} {n i : Nat} (h : i < n) : (rgZ lo n)[i]? = some (lo + (i : Int)) := by
  unfold rgZ
  rw [List.getElem?_map, List.getElem?_range h]
  rfl
theorem rgZ_lt (lo : Int) (n : Nat) : (rgZ lo n).Pairwise (· < ·) := by
  unfold rgZ
  rw [List.pairwise_map]
  exact List.pairwise_lt_range.imp fun h => by omega
theorem rgZ_nodup (lo : Int) (n : Nat) : (rgZ lo n).Nodup := (rgZ_lt lo n).imp fun h => by omega
/-- those of a range within bounds -/
theorem rgZ_filter (p : Int → Bool) (A B : Int) (n : Nat) (hA : 0 ≤ A) (hAB : A ≤ B + 1) (hB : B < n) (hp : ∀ i : Int, 0 ≤ i → i < (n : Int) → (p i = true ↔ A ≤ i ∧ i ≤ B)) : (rgZ 0 n).filter p = rgZ A (B + 1 - A).toNat := by
  have e : n = A.toNat + ((B + 1 - A).toNat + (n - (B + 1).toNat)) := by omega
  rw [e, rgZ_add, rgZ_add, List.filter_append, List.filter_append]
  have e1 : (rgZ 0 A.toNat).filter p = [] := List.filter_eq_nil_iff.mpr fun x hx => by
    have h := rgZ_mem.mp hx
    rw [hp x (by omega) (by omega)]
    omega
  have e0 : (0 : Int) + (A.toNat : Int) = A := by omega
  rw [e0]
  have e2 : (rgZ A (B + 1 - A).toNat).filter p = rgZ A (B + 1 - A).toNat := List.filter_eq_self.mpr fun x hx => by
    have h := rgZ_mem.mp hx
    exact (hp x (by omega) (by omega)).mpr (by omega)
  have e3 : (rgZ (A + ((B + 1 - A).toNat : Int)) (n - (B + 1).toNat)).filter p = [] := List.filter_eq_nil_iff.mpr fun x hx => by
    have h := rgZ_mem.mp hx
    rw [hp x (by omega) (by omega)]
    omega
  rw [e1, e2, e3, List.nil_append, List.append_nil]
/-- the first and the last of a list -/
theorem ix_last {ds : List PyData} {d : PyData} (k k' : Kd) : oIx [(.list (ds ++ [d]), k), (.int (-1), k')] = some (d, .im) := by
  have e : L2.atI (ds ++ [d]) (-1 : Int) = some d := by
    unfold L2.atI
    have e2 : L2.ixN (ds ++ [d]).length (-1) = some ds.length := by
      unfold L2.ixN
      rw [List.length_append]
      simp
      omega
    rw [e2]
    simp
  simp only [oIx, e, Option.map_some]
theorem rgZ_last (lo : Int) (n : Nat) : rgZ lo (n + 1) = rgZ lo n ++ [lo + (n : Int)] := by
  rw [rgZ_add]
  simp [rgZ]
theorem rgZ_head (lo : Int) (n : Nat) : rgZ lo (n + 1) = lo :: rgZ (lo + 1) n := by
  rw [Nat.add_comm n 1, rgZ_add]
  simp [rgZ]
/-- f(first), f(second), .. of a comprehension with nothing left out -/
theorem lcL_map {α : Type} {t : Tg} {e : Ex} {env : SEnv} {W : List Int} (emb : α → PyData) (r : α → PyData) (xs : List α) (h : ∀ a ∈ xs, ∃ e1 kd, t (emb a) env = some e1 ∧ e e1 W = some (r a, kd, W) ∧ esc kd = true) : lcL t kTrue e (xs.map emb) env W = some (xs.map r, W) := by
  have := lcL_fm (t := t) (c := kTrue) (e := e) (env := env) (W := W) emb (fun _ => true) r xs (fun a ha => by
    obtain ⟨e1, kd, h1, h2, h3⟩ := h a ha
    exact ⟨e1, h1, rfl, fun _ => ⟨kd, h2, h3⟩⟩)
  rwa [show xs.filter (fun _ => true) = xs by simp] at this
end PX
namespace PX
open PySem
section
variable {env : SEnv} {W W1 W2 : List Int} {f g : Ex} {k1 k2 : Kd}
theorem fwR1Z {hi : Int} (e1 : f env W = some (.int hi, k1, W1)) (h3 : hi ≤ 1000000) (h4 : -1000000 ≤ hi) : iR1 f env W = some ((rgZ 0 hi.toNat).map PyData.int, .im, W1) := by rw [← rgI_Z]; exact fwR1 e1 h3 h4
theorem fwR2Z {lo hi : Int} (e1 : f env W = some (.int lo, k1, W1)) (e2 : g env W1 = some (.int hi, k2, W2)) (h1 : lo ≤ 1000000) (h2 : -1000000 ≤ lo) (h3 : hi ≤ 1000000) (h4 : -1000000 ≤ hi) : iR2 f g env W = some ((rgZ lo (hi - lo).toNat).map PyData.int, .im, W2) := by rw [← rgI_Z]; exact fwR2 e1 e2 h1 h2 h3 h4
end
end PX
namespace PX
open PySem
/-- a list made of a list, compared with [] -/
theorem lst_eqnil {α β : Type} [DecidableEq β] [PySem.W.Datum β] (hd : PySem.W.Datum.depth (List β) ≤ 60) (f : α → PyData) (g : α → β) (h : ∀ a, f a = D (g a)) (xs : List α) (k k' : Kd) : oEq [(.list (xs.map f), k), (.list [], k')] = some (.bool xs.isEmpty, .im) := by
  have hh := ev_eq (α := List β) hd (xs.map g) [] k k'
  have e1 : (D (xs.map g) : PyData) = .list (xs.map f) := by
    show PyData.list ((xs.map g).map _) = _
    rw [List.map_map]
    congr 1
    exact List.map_congr_left fun a _ => (h a).symm
  have e2 : decide (xs.map g = []) = xs.isEmpty := by cases xs <;> simp
  rw [e1, e2] at hh
  exact hh
end PX

namespace PX
open PySem
section
variable {env : SEnv} {W W1 W2 : List Int} {f g h : Ex} {d1 d2 d3 : PyData} {k1 k3 : Kd} {op op' : Op}
theorem fwChain {b c : Bool} (e1 : f env W = some (d1, k1, W1)) (e2 : g env W1 = some (d2, .im, W2)) (o1 : op [(d1, k1), (d2, .im)] = some (.bool b, .im)) (e3 : b = true → h env W2 = some (d3, k3, W2)) (o2 : b = true → op' [(d2, .im), (d3, k3)] = some (.bool c, .im)) : cChain op op' f g h env W = some (.bool (b && c), .im, W2) := by
  unfold cChain
  rw [e1, Option.bind_some, e2, Option.bind_some]
  dsimp only
  rw [o1]
  dsimp only
  cases b with
  | true => rw [if_pos rfl, e3 rfl, Option.bind_some, o2 rfl]; rfl
  | false => rfl
end
theorem lenI (xs : List Int) (k : Kd) : oLen [(T xs, k)] = some (.int xs.length, .im) := by
  show some (PyData.int ((xs.map PyData.int).length : Nat), Kd.im) = _
  rw [List.length_map]
theorem lenIL (xs : List Int) (k : Kd) : oLen [(.list (xs.map PyData.int), k)] = some (.int xs.length, .im) := by
  show some (PyData.int ((xs.map PyData.int).length : Nat), Kd.im) = _
  rw [List.length_map]
theorem lenM {α : Type} (f : α → PyData) (xs : List α) (k : Kd) : oLen [(.tuple (xs.map f), k)] = some (.int xs.length, .im) := by
  show some (PyData.int ((xs.map f).length : Nat), Kd.im) = _
  rw [List.length_map]
theorem lenML {α : Type} (f : α → PyData) (xs : List α) (k : Kd) : oLen [(.list (xs.map f), k)] = some (.int xs.length, .im) := by
  show some (PyData.int ((xs.map f).length : Nat), Kd.im) = _
  rw [List.length_map]
/-- the draws may go on, the rounds are counted -/
theorem forL_drawC {α : Type} {t : Tg} {g : Sx} (emb : α → PyData) (N : Nat) (R : Nat → SEnv → Prop) : ∀ (xs : List α) (n : Nat) (env : SEnv) (W : List Int), n + xs.length ≤ N → R n env → (∀ a ∈ xs, ∀ n env W, n < N → R n env → ∃ e1 e2 W', t (emb a) env = some e1 ∧ g e1 W = some (.nx e2 W') ∧ R (n + 1) e2) →
    ∃ e' W', forL t g (xs.map emb) env W = some (.nx e' W') ∧ R (n + xs.length) e'
  | [], _, env, W, _, h, _ => ⟨env, W, rfl, h⟩
  | a :: xs, n, env, W, hN, h, st => by
    rw [List.length_cons] at hN
    obtain ⟨e1, e2, W', h1, h2, h3⟩ := st a (by simp) n env W (by omega) h
    obtain ⟨e', W2, h4, h5⟩ := forL_drawC emb N R xs (n + 1) e2 W' (by omega) h3 fun b hb => st b (by simp [hb])
    refine ⟨e', W2, ?_, by rw [List.length_cons, Nat.add_comm xs.length 1, ← Nat.add_assoc]; exact h5⟩
    simp only [List.map_cons, forL, h1, Option.bind_some, h2]
    exact h4
/-- law(): so many turns, then True -/
theorem law_of {m : Int} {turn : Sx} {is : List Nat} {e0 : SEnv} {W : List Int} (R : SEnv → Prop) (hm : 0 ≤ m) (h2 : m ≤ 1000) (h0 : R e0) (ht : ∀ env W a, R env → Runs turn (env.set 2 (.pl (.int a))) W (Nxt R)) :
    ∃ W', sSeq (sFor (iR1 (cK (.int m))) (gN 2) turn) (sWipe is (sSeq (sRetK (cK (.bool true))) sNil)) e0 W = some (.rt (.bool true) W') := by
  have hit : iR1 (cK (.int m)) e0 W = some ((rgZ 0 m.toNat).map PyData.int, .im, W) := fwR1Z rfl (by omega) (by omega)
  obtain ⟨e', W', h1, _⟩ := forL_draw (t := gN 2) (g := turn) PyData.int R (rgZ 0 m.toNat) e0 W h0 (fun a _ env W hR => by
    obtain ⟨e2, W2, q1, q2⟩ := nxt_of (ht env W a hR)
    exact ⟨_, e2, W2, rfl, q1, q2⟩)
  refine ⟨W', ?_⟩
  rw [sSeq_nx ((fwFor hit rfl).trans h1)]
  exact fwSeqR (fwRet rfl rfl)
end PX

namespace PX
open PySem
/-! ### sums, the greatest and the least of numbers -/
theorem sumI (xs : List Int) (k : Kd) : oSum [(.list (xs.map PyData.int), k)] = some (.int xs.sum, .im) := by
  unfold oSum
  dsimp only
  rw [intsOf_map]
  rfl
theorem sumT (xs : List Int) (k : Kd) : oSum [(T xs, k)] = some (.int xs.sum, .im) := by
  show (intsOf (xs.map PyData.int)).map _ = _
  rw [intsOf_map]
  rfl
theorem sumM {α : Type} (g : α → Int) (xs : List α) (k : Kd) : oSum [(.list (xs.map fun a => PyData.int (g a)), k)] = some (.int (xs.map g).sum, .im) := by
  have := sumI (xs.map g) k
  rw [List.map_map] at this
  exact this
theorem minOkI (xs : List Int) : minOk (xs.map PyData.int) = true := by
  unfold minOk
  rw [Bool.and_eq_true, Bool.and_eq_true]
  refine ⟨flats_D (α := Int) (by decide) xs, ?_, ?_⟩
  · unfold alikeB
    rw [List.all_map]
    refine List.all_eq_true.mpr fun r _ => ?_
    show ((xs.map PyData.int).all fun e => PySem.W.alike (.int r) e) = true
    rw [List.all_map]
    exact List.all_eq_true.mpr fun q _ => by simp [PySem.W.alike]
  · rw [List.all_map]
    exact List.all_eq_true.mpr fun r _ => rfl
theorem oMaxI (a : Int) (xs : List Int) (k : Kd) : oMax [(.list ((a :: xs).map PyData.int), k)] = some (.int (xs.foldl max a), .im) := by
  have h := minOkI (a :: xs)
  rw [List.map_cons] at *
  unfold oMax
  dsimp only
  rw [if_pos h, PySem.W.maxD_ints]
theorem oMinI (a : Int) (xs : List Int) (k : Kd) : oMin [(.list ((a :: xs).map PyData.int), k)] = some (.int (xs.foldl min a), .im) := by
  have h := minOkI (a :: xs)
  rw [List.map_cons] at *
  unfold oMin
  dsimp only
  rw [if_pos h, PySem.W.minD_ints]
theorem max2I (a b : Int) (k k' : Kd) : oMax [(.int a, k), (.int b, k')] = some (.int (max a b), .im) := by
  show some (PyData.int (if b > a then b else a), Kd.im) = _
  congr 3
  split <;> omega
theorem min2I (a b : Int) (k k' : Kd) : oMin [(.int a, k), (.int b, k')] = some (.int (min a b), .im) := by
  show some (PyData.int (if b < a then b else a), Kd.im) = _
  congr 3
  split <;> omega
theorem foldl_max_le : ∀ (xs : List Int) (a : Int), a ≤ xs.foldl max a ∧ ∀ x ∈ xs, x ≤ xs.foldl max a
  | [], a => ⟨Int.le_refl _, fun x h => by simp at h⟩
  | y :: r, a => by
    obtain ⟨h1, h2⟩ := foldl_max_le r (max a y)
    rw [List.foldl_cons]
    refine ⟨by omega, fun x hx => ?_⟩
    rcases List.mem_cons.mp hx with e | e
    · omega
    · exact h2 x e
theorem foldl_max_mem : ∀ (xs : List Int) (a : Int), xs.foldl max a = a ∨ xs.foldl max a ∈ xs
  | [], a => .inl rfl
  | y :: r, a => by
    rw [List.foldl_cons]
    rcases foldl_max_mem r (max a y) with h | h
    · rcases (show max a y = a ∨ max a y = y by omega) with e | e
      · exact .inl (by rw [h, e])
      · exact .inr (by rw [h, e]; simp)
    · exact .inr (by simp [h])
theorem foldl_max_lub {xs : List Int} {a b : Int} (h0 : a ≤ b) (h : ∀ x ∈ xs, x ≤ b) : xs.foldl max a ≤ b := by
  rcases foldl_max_mem xs a with e | e
  · rw [e]; exact h0
  · exact h _ e
/-! ### lists put together -/
theorem addL (a b : List PyData) (h : a.length + b.length ≤ 16777216) (k k' : Kd) : oAdd [(.list a, k), (.list b, k')] = some (.list (a ++ b), .fr) := by
  show (if a.length + b.length ≤ 16777216 then _ else _) = _
  rw [if_pos h]
theorem addT (a b : List PyData) (h : a.length + b.length ≤ 16777216) (k k' : Kd) : oAdd [(.tuple a, k), (.tuple b, k')] = some (.tuple (a ++ b), .im) := by
  show (if a.length + b.length ≤ 16777216 then _ else _) = _
  rw [if_pos h]
/-! ### the first of the greatest -/
theorem first_max {α : Type} (f : α → Int) : ∀ (xs : List α) (b : α), (b :: xs).find? (fun s => decide (f s = (xs.map f).foldl max (f b))) = some (xs.foldl (fun b s => if f b < f s then s else b) b)
  | [], b => by simp
  | y :: r, b => by
    rw [List.map_cons, List.foldl_cons, List.foldl_cons]
    by_cases h : f b < f y
    · have e : max (f b) (f y) = f y := by omega
      rw [e, if_pos h]
      have hm := (foldl_max_le (r.map f) (f y)).1
      rw [List.find?_cons_of_neg (by simp; omega)]
      exact first_max f r y
    · have e : max (f b) (f y) = f b := by omega
      rw [e, if_neg h]
      have ih := first_max f r b
      have hm := (foldl_max_le (r.map f) (f b)).1
      by_cases hb : f b = (r.map f).foldl max (f b)
      · rw [List.find?_cons_of_pos (by simpa using hb)] at ih ⊢
        exact ih
      · rw [List.find?_cons_of_neg (by simpa using hb)] at ih ⊢
        rw [List.find?_cons_of_neg (by simp; omega)]
        exact ih
theorem foldl_if_filter {α β : Type} (p : α → Bool) (q : β → α → Bool) (g : β → α → β) : ∀ (xs : List α) (b : β), xs.foldl (fun b s => if (q b s && p s) = true then g b s else b) b = (xs.filter p).foldl (fun b s => if q b s = true then g b s else b) b
  | [], _ => rfl
  | y :: r, b => by
    rw [List.foldl_cons, foldl_if_filter p q g r]
    cases hp : p y with
    | true => rw [List.filter_cons_of_pos hp, List.foldl_cons, Bool.and_true]
    | false => rw [List.filter_cons_of_neg (by rw [hp]; exact Bool.false_ne_true), Bool.and_false]; rfl
/-! ### slices -/
theorem cutD_to (ds : List PyData) (n : Nat) : cutD ds none (some (n : Int)) = ds.take n := by
  unfold cutD
  rw [HT.sIx_none, HT.sIx_nat]
  simp only [List.drop_zero, Nat.sub_zero]
  rcases Nat.le_total n ds.length with h | h
  · rw [Nat.min_eq_left h]
  · rw [Nat.min_eq_right h, List.take_of_length_le (Nat.le_refl _), List.take_of_length_le h]
section
variable {env : SEnv} {W W1 W2 W3 : List Int} {f g h : Ex} {k k1 k2 : Kd} {d : PyData}
theorem fwTo {ds : List PyData} {n : Nat} (e1 : f env W = some (.tuple ds, k1, W1)) (e2 : g env W1 = some (.int (n : Nat), k2, W2)) : cSlice f none (some g) env W = some (.tuple (ds.take n), .im, W2) := by
  unfold cSlice
  rw [e1, Option.bind_some]
  simp only [PX.part, Option.bind_some, e2, oSl, Option.map_some, cutD_to]
theorem fwToL {ds : List PyData} {n : Nat} (e1 : f env W = some (.list ds, k1, W1)) (e2 : g env W1 = some (.int (n : Nat), k2, W2)) : cSlice f none (some g) env W = some (.list (ds.take n), .fr, W2) := by
  unfold cSlice
  rw [e1, Option.bind_some]
  simp only [PX.part, Option.bind_some, e2, oSl, Option.map_some, cutD_to]
theorem cutD_but (ds : List PyData) : cutD ds none (some (-1)) = ds.dropLast := by
  unfold cutD
  rw [HT.sIx_none]
  have e : HT.sIx ds.length ds.length (some (-1)) = ds.length - 1 := by
    unfold HT.sIx
    simp
    omega
  rw [e, List.drop_zero, Nat.sub_zero, List.dropLast_eq_take]
theorem fwBut {ds : List PyData} (e1 : f env W = some (.tuple ds, k1, W1)) (e2 : g env W1 = some (.int (-1), k2, W2)) : cSlice f none (some g) env W = some (.tuple ds.dropLast, .im, W2) := by
  unfold cSlice
  rw [e1, Option.bind_some]
  simp only [PX.part, Option.bind_some, e2, oSl, Option.map_some, cutD_but]
theorem fwCAnd {b c : Bool} (e1 : f env W = some (.bool b, k1, W1)) (e2 : b = true → g env W1 = some (.bool c, .im, W1)) : cAnd f g env W = some (.bool (b && c), .im, W1) := by
  unfold cAnd
  rw [e1]
  cases b with
  | true => dsimp only; rw [if_pos rfl, e2 rfl]; rfl
  | false => rfl
theorem fwCNot {b : Bool} (e1 : f env W = some (.bool b, k1, W1)) : cNot f env W = some (.bool (!b), .im, W1) := by
  unfold cNot
  rw [e1]
theorem fwR3 {lo hi : Int} (e1 : f env W = some (.int lo, k, W1)) (e2 : g env W1 = some (.int hi, k1, W2)) (e3 : h env W2 = some (.int (-1), k2, W3)) (h1 : lo ≤ 1000000) (h2 : -1000000 ≤ lo) (h3 : hi ≤ 1000000) (h4 : -1000000 ≤ hi) : iR3 f g h env W = some (((List.range (lo - hi).toNat).map fun i : Nat => lo - (i : Int)).map PyData.int, .im, W3) := by
  unfold iR3
  rw [e1]
  simp only [e2, e3]
  rw [if_pos ⟨h1, h2, h3, h4⟩]
  unfold rgD
  rw [List.map_map]
  congr 2
  refine List.map_congr_left fun i _ => ?_
  show PyData.int (lo + (i : Nat) * (-1)) = PyData.int (lo - (i : Int))
  congr 1
  omega
end
theorem allBo {α : Type} (p : α → Bool) (xs : List α) (k : Kd) : oAll [(.list (xs.map fun a => PyData.bool (p a)), k)] = some (.bool (xs.all p), .im) := by
  have e : ∀ xs : List α, boolsOf (xs.map fun a => PyData.bool (p a)) = some (xs.map p) := fun xs => by
    induction xs with
    | nil => rfl
    | cons x r ih => rw [List.map_cons, boolsOf, ih]; rfl
  unfold oAll
  dsimp only
  rw [e, Option.map_some, List.all_map]
  rfl
/-- a list or a tuple of pairs -/
def SqQ (d : PyData) (as : List (Int × Int)) : Prop := d = .list (as.map Q2) ∨ d = .tuple (as.map Q2)
theorem iSeq_q {f : Ex} {env : SEnv} {W W' : List Int} {d : PyData} {as : List (Int × Int)} (h : SqQ d as) (e : f env W = some (d, .im, W')) : iSeq f env W = some (as.map Q2, .im, W') := by
  rcases h with rfl | rfl
  · exact fwSeqL e
  · exact fwSeqT e
theorem len_q {d : PyData} {as : List (Int × Int)} (h : SqQ d as) (k : Kd) : oLen [(d, k)] = some (.int as.length, .im) := by
  rcases h with rfl | rfl
  · exact lenML _ _ _
  · exact lenM _ _ _
theorem ixI {xs : List Int} {i : Int} (h0 : 0 ≤ i) (h1 : i < xs.length) (k k' : Kd) : oIx [(.list (xs.map PyData.int), k), (.int i, k')] = some (.int ((xs[i.toNat]?).getD 0), .im) := by
  obtain ⟨n, rfl⟩ : ∃ n : Nat, i = n := ⟨i.toNat, by omega⟩
  have hn : n < xs.length := by omega
  rw [show ((n : Nat) : Int).toNat = n from rfl, List.getElem?_eq_getElem hn]
  exact fwIxNL (by rw [List.getElem?_map, List.getElem?_eq_getElem hn]; rfl) _ _
theorem ixT {xs : List Int} {i : Int} (h0 : 0 ≤ i) (h1 : i < xs.length) (k k' : Kd) : oIx [(T xs, k), (.int i, k')] = some (.int ((xs[i.toNat]?).getD 0), .im) := by
  obtain ⟨n, rfl⟩ : ∃ n : Nat, i = n := ⟨i.toNat, by omega⟩
  have hn : n < xs.length := by omega
  rw [show ((n : Nat) : Int).toNat = n from rfl, List.getElem?_eq_getElem hn]
  exact fwIxN (by rw [List.getElem?_map, List.getElem?_eq_getElem hn]; rfl) _ _
def pAt (as : List (Int × Int)) (k : Int) : Int × Int := (as[k.toNat]?).getD (0, 0)
theorem ix_q {d : PyData} {as : List (Int × Int)} (h : SqQ d as) {i : Int} (h0 : 0 ≤ i) (h1 : i < as.length) (k k' : Kd) : oIx [(d, k), (.int i, k')] = some (Q2 (pAt as i), .im) := by
  obtain ⟨n, rfl⟩ : ∃ n : Nat, i = n := ⟨i.toNat, by omega⟩
  have hn : n < as.length := by omega
  have e : pAt as n = as[n] := by
    unfold pAt
    rw [show ((n : Nat) : Int).toNat = n from rfl, List.getElem?_eq_getElem hn]
    rfl
  rw [e]
  rcases h with rfl | rfl
  · exact fwIxNL (by rw [List.getElem?_map, List.getElem?_eq_getElem hn]; rfl) _ _
  · exact fwIxN (by rw [List.getElem?_map, List.getElem?_eq_getElem hn]; rfl) _ _
end PX

namespace PX
open PySem PySem.Spec PyProof.Rows L2
/-! ### (number, number, row of numbers): the least -/
def trD (a b : Int) (s : List Int) : PyData := .tuple [.int a, .int b, T s]
def ltTr (x y : Int × Int × List Int) : Bool := decide (x.1 < y.1 ∨ (x.1 = y.1 ∧ (x.2.1 < y.2.1 ∨ (x.2.1 = y.2.1 ∧ x.2.2 < y.2.2))))
def tr (x : Int × Int × List Int) : PyData := trD x.1 x.2.1 x.2.2
theorem dl_tr (x y : Int × Int × List Int) : PySem.W.dataLt (tr x) (tr y) = ltTr x y := by
  obtain ⟨a, b, s⟩ := x
  obtain ⟨a', b', s'⟩ := y
  unfold tr trD ltTr
  have al : PySem.W.alike (T s) (T s') = true := by rw [PySem.W.alike]; exact PySem.W.alike_ints s s'
  rw [PySem.W.dataLt_tuple, PySem.W.dataLt_cons (by simp [PySem.W.alike]), PySem.W.dataLt_cons (by simp [PySem.W.alike]), PySem.W.dataLt_cons al, PySem.W.dataLt_int, PySem.W.dataLt_int, dataLt_T, eqv_T]
  have e : PyProof.Rows.lexLt itemOrd (PySem.W.keyToksAll []) (PySem.W.keyToksAll []) = false := lex_irrefl _
  rw [e]
  simp only [PyData.eqv, beq_iff_eq]
  by_cases h1 : a = a'
  · rw [if_pos h1]
    by_cases h2 : b = b'
    · rw [if_pos h2]
      by_cases h3 : s = s'
      · subst h3
        have : ¬ s < s := List.lt_irrefl s
        simp [h1, h2, this]
      · simp [h1, h2, h3]
    · rw [if_neg h2]; simp [h1, h2]
  · rw [if_neg h1]; simp [h1]
theorem flat_tr (x : Int × Int × List Int) : flat (tr x) = true := by
  have h := flat_D (α := PySem.W.Tup Int) (by decide) (PySem.W.Tup.mk x.2.2)
  have h2 : (T x.2.2).depth ≤ 1 := PySem.W.Datum.depth_le (PySem.W.Tup.mk x.2.2)
  unfold flat at *
  rw [Bool.and_eq_true] at *
  have h3 : noDs (x.2.2.map PyData.int) = true := by
    have h4 : noD (T x.2.2) = true := h.1
    rwa [noD] at h4
  refine ⟨by simp [tr, trD, noD, noDs, h3], ?_⟩
  rw [decide_eq_true_eq]
  unfold tr trD
  simp only [PyData.depth, PyData.depthAll] at h2 ⊢
  omega
theorem minOk_tr (xs : List (Int × Int × List Int)) : minOk (xs.map tr) = true := by
  unfold minOk
  rw [Bool.and_eq_true, Bool.and_eq_true]
  refine ⟨?_, ?_, ?_⟩
  · rw [List.all_map]
    exact List.all_eq_true.mpr fun r _ => flat_tr r
  · unfold alikeB
    rw [List.all_map]
    refine List.all_eq_true.mpr fun r _ => ?_
    show ((xs.map tr).all fun e => PySem.W.alike (tr r) e) = true
    rw [List.all_map]
    refine List.all_eq_true.mpr fun q _ => ?_
    have al : PySem.W.alike (T r.2.2) (T q.2.2) = true := by rw [PySem.W.alike]; exact PySem.W.alike_ints _ _
    show PySem.W.alike (tr r) (tr q) = true
    unfold tr trD
    simp [PySem.W.alike, PySem.W.alikeAll]
    simpa [PySem.W.alike] using al
  · rw [List.all_map]
    exact List.all_eq_true.mpr fun r _ => rfl
theorem minD_tr : ∀ (xs : List (Int × Int × List Int)) (a : Int × Int × List Int), PySem.W.minD (tr a) (xs.map tr) = tr (xs.foldl (fun a y => if ltTr y a = true then y else a) a)
  | [], _ => rfl
  | b :: r, a => by
    show PySem.W.minD (if PySem.W.dataLt (tr b) (tr a) = true then tr b else tr a) (r.map tr) = tr (r.foldl _ (if ltTr b a = true then b else a))
    rw [dl_tr, ← minD_tr r]
    cases ltTr b a <;> rfl
theorem oMin_tr (a : Int × Int × List Int) (xs : List (Int × Int × List Int)) (k : Kd) : oMin [(.list ((a :: xs).map tr), k)] = some (tr (xs.foldl (fun a y => if ltTr y a = true then y else a) a), .im) := by
  have h := minOk_tr (a :: xs)
  rw [List.map_cons] at *
  unfold oMin
  dsimp only
  rw [if_pos h, minD_tr]
/-- sets by their sizes: the least (less worth, size, set) is the first of the greatest worth -/
theorem min_sets (w : List Int → Int) : ∀ (xs : List (List Int)) (b : List Int), (b :: xs).Pairwise (fun a c => a.length < c.length ∨ (a.length = c.length ∧ a < c)) →
    ((xs.map fun s => ((0 - w s, (s.length : Int), s) : Int × Int × List Int)).foldl (fun a y => if ltTr y a = true then y else a) (0 - w b, (b.length : Int), b)) = (fun s => (0 - w s, (s.length : Int), s)) (xs.foldl (fun b s => if w b < w s then s else b) b)
  | [], _, _ => rfl
  | y :: r, b, hp => by
    rw [List.map_cons, List.foldl_cons, List.foldl_cons]
    have hby : b.length < y.length ∨ (b.length = y.length ∧ b < y) := (List.pairwise_cons.mp hp).1 y (by simp)
    have hyr := (List.pairwise_cons.mp hp).2
    have hbr : (b :: r).Pairwise (fun a c => a.length < c.length ∨ (a.length = c.length ∧ a < c)) := List.pairwise_cons.mpr ⟨fun c hc => (List.pairwise_cons.mp hp).1 c (by simp [hc]), (List.pairwise_cons.mp hyr).2⟩
    have key : ltTr (0 - w y, (y.length : Int), y) (0 - w b, (b.length : Int), b) = decide (w b < w y) := by
      unfold ltTr
      refine decide_eq_decide.mpr ?_
      show (0 - w y < 0 - w b ∨ (0 - w y = 0 - w b ∧ ((y.length : Int) < b.length ∨ ((y.length : Int) = b.length ∧ y < b)))) ↔ _
      constructor
      · rintro (h | ⟨_, h | ⟨h1, h2⟩⟩)
        · omega
        · omega
        · rcases hby with h3 | ⟨_, h3⟩
          · omega
          · exact absurd (List.lt_trans h2 h3) (List.lt_irrefl y)
      · intro h
        exact .inl (by omega)
    rw [key]
    by_cases h : w b < w y
    · rw [if_pos h, if_pos (by simpa using h)]
      exact min_sets w r y hyr
    · rw [if_neg h, if_neg (by simpa using h)]
      exact min_sets w r b hbr
theorem allS_sz (n : Nat) : (allS (rgZ 0 n)).Pairwise (fun a c => a.length < c.length ∨ (a.length = c.length ∧ a < c)) := by
  have := allS_lt (rgZ 0 n) (rgZ_lt 0 n)
  rw [List.pairwise_map] at this
  refine this.imp fun h => ?_
  rw [szP_lt] at h
  simpa using h
end PX
namespace PX
open PySem
/-- with draws -/
theorem lcL_drawG {α β : Type} {t : Tg} {c : Ct} {e : Ex} {env : SEnv} (emb : α → PyData) (r : β → PyData) (P : β → Prop) : ∀ (xs : List α) (W : List Int), (∀ a ∈ xs, ∀ W, ∃ e1 b kd W', t (emb a) env = some e1 ∧ c e1 W = some (true, W) ∧ e e1 W = some (r b, kd, W') ∧ esc kd = true ∧ P b) →
    ∃ (bs : List β) (W' : List Int), lcL t c e (xs.map emb) env W = some (bs.map r, W') ∧ bs.length = xs.length ∧ ∀ b ∈ bs, P b
  | [], W, _ => ⟨[], W, rfl, rfl, fun x hx => by simp at hx⟩
  | a :: xs, W, h => by
    obtain ⟨e1, x, kd, W', h1, h2, h3, h4, h5⟩ := h a (by simp) W
    obtain ⟨ns, W2, i1, i2, i3⟩ := lcL_drawG emb r P xs W' fun b hb => h b (by simp [hb])
    refine ⟨x :: ns, W2, ?_, by rw [List.length_cons, List.length_cons, i2], fun y hy => ?_⟩
    · rw [List.map_cons, lcL, h1, Option.bind_some, h2, Option.bind_some]
      dsimp only
      rw [if_pos rfl, h3, Option.bind_some]
      dsimp only
      rw [if_pos h4, i1]
      rfl
    · rcases List.mem_cons.mp hy with e | e
      · rw [e]; exact h5
      · exact i3 y e
theorem tup_mem (x : List Int) (rs : List (List Int)) : decide (PySem.W.Tup.mk x ∈ rs.map PySem.W.Tup.mk) = decide (x ∈ rs) := decide_eq_decide.mpr ⟨fun h => by
  obtain ⟨y, hy, e⟩ := List.mem_map.mp h
  cases e
  exact hy, fun h => List.mem_map.mpr ⟨x, h, rfl⟩⟩
theorem niTL (x : List Int) (rs : List (List Int)) (k k' : Kd) : oNotIn [(T x, k), (.list (rs.map T), k')] = some (.bool (!decide (x ∈ rs)), .im) := by
  have h := ev_niL (α := PySem.W.Tup Int) (by decide) ⟨x⟩ (rs.map PySem.W.Tup.mk) k k'
  rw [tup_mem, List.map_map] at h
  exact h
theorem inTL (x : List Int) (rs : List (List Int)) (k k' : Kd) : oIn [(T x, k), (.list (rs.map T), k')] = some (.bool (decide (x ∈ rs)), .im) := by
  have h := ev_inL (α := PySem.W.Tup Int) (by decide) ⟨x⟩ (rs.map PySem.W.Tup.mk) k k'
  rw [tup_mem, List.map_map] at h
  exact h
end PX
namespace PX
open PySem
section
variable {env : SEnv} {W W1 W2 : List Int} {f : Ex} {fs : List Ex} {d dr : PyData} {k kr : Kd} {ts : List Dk} {op : Op}
theorem fwA0 : cArgs [] env W = some ([], W) := rfl
theorem fwA (e1 : f env W = some (d, k, W1)) (e2 : cArgs fs env W1 = some (ts, W2)) : cArgs (f :: fs) env W = some ((d, k) :: ts, W2) := by simp [cArgs, e1, e2]
theorem fwN (e : cArgs fs env W = some (ts, W1)) (o : op ts = some (dr, kr)) : cCall op fs env W = some (dr, kr, W1) := by simp [cCall, e, o]
end
end PX

namespace PX
open PySem PySem.Spec PyProof.Rows L2
/-! ### {}, dict(pairs), dict(d), numbers of the module -/
def cDnew : Ex := fun _ W => some (.dict [], .fr, W)
def cDnewT : Ex := fun _ W => some (.dict [(.none, .none)], .fr, W)
section
variable {X : Cx} {pos : Pos}
theorem px_dnew : PX X (.Dict [] [] pos) cDnew := PE.imp pe_dnewK fun σ H Q q => by
  obtain ⟨B, Gb, G, env, W, d, k, W', S, e, c⟩ := q
  cases e
  exact fun p hp => c.fr S hp (show RpO X.KW G (.dK []) (.dict []) from RpD.nil)
theorem dn_empty {P : Program} {w : World} {H : Hp} (h : Heap) (hb : sysModules < h.objs.size) : ObjOk P w H (h.push { cls := .type "dict", data := .dict #[] }) h.objs.size (HN w h.objs.size []) :=
  dn_new (Nat.zero_le _) (beq_eq_false_iff_ne.mpr (Ne.symm (Nat.ne_of_lt hb))) .nil ⟨_, #[], 0, Heap.get?_push_size _ rfl, ⟨rfl, rfl, rfl⟩, rfl, rfl, (fun _ h => by cases h), List.nodup_nil⟩
def tDNewN (w : World) : TE := fun _ H Q => ∀ p, H p = none → Q (.ref p) (upd H p (HN w p []))
theorem pe_dnewN : PE X (.Dict [] [] pos) (tDNewN X.w) := ⟨fun pins s σ H Q I h =>
  wpAny_Dict_empty ⟨.ref s.heap.objs.size, _, I.laid (a := s.heap.objs.size) (o := HN X.w s.heap.objs.size []) (t' := s.toks) (fun _ _ q => Heap.get?_push_of_some _ q) (Nat.le_refl _) (dn_empty s.heap I.big), rfl, h _ (I.hok.fresh (Nat.le_refl _))⟩⟩
theorem px_dnewT : PX X (.Dict [] [] pos) cDnewT := PE.imp pe_dnewN fun σ H Q q => by
  obtain ⟨B, Gb, G, env, W, d, k, W', S, e, c⟩ := q
  cases e
  exact fun p hp => c.fr S hp (show RpO X.KW G (HN X.w p []) (.dict [(.none, .none)]) from ⟨p, [], [], rfl, rfl, .nil⟩)
theorem px_globI {x : Str} {i : Int} (hg : Gl X x) (hm : ∃ t, X.mg x = some (.int i t)) (hd : (x == ("__debug__" : Str)) = false := by decide) : PX X (.Name x pos) (cK (.int i)) := by
  obtain ⟨t, hm⟩ := hm
  exact px_c (pe_glob (v := .int i) hg hm ⟨t, rfl⟩ hd) fun _ => .int i
end
def pairsK : List PyData → Option (List (Key × PyData))
  | [] => some []
  | .tuple [a, b] :: r => (keyOf a).bind fun k => (pairsK r).map ((k, b) :: ·)
  | _ => none
def mergeE (es : List (PyData × PyData)) (ps : List (Key × PyData)) : List (PyData × PyData) := ps.foldl (fun es p => dput es (keyD p.1) p.2) es
def oDict : Op
  | [(.list ds, _)] => (pairsK ds).map fun ps => (.dict (mergeE [] ps), .fr)
  | [(.dict es, _)] => if isT es then none else some (.dict es, .fr)
  | _ => none
inductive RpP (K : FW) (G : Hp) : List (Key × V) → List (Key × PyData) → Prop
  | nil : RpP K G [] []
  | cons {k : Key} {v : V} {d : PyData} {kvs : List (Key × V)} {ps : List (Key × PyData)} : keyOk k = true → Rp K G v d → RpP K G kvs ps → RpP K G ((k, v) :: kvs) ((k, d) :: ps)
theorem RpP.merge {K : FW} {G : Hp} : ∀ {kvs : List (Key × V)} {ps : List (Key × PyData)} {acc : List (Key × V)} {es : List (PyData × PyData)}, RpP K G kvs ps → RpD K G acc es → RpD K G (mergeK acc kvs) (mergeE es ps)
  | _, _, _, _, .nil, h => h
  | _, _, acc, es, @RpP.cons _ _ k v d kvs ps o a b, h => (show RpD K G (mergeK (putK acc k v) kvs) (mergeE (dput es (keyD k) d) ps) from RpP.merge b (h.put o a))
theorem pairs_rp {K : FW} {G H : Hp} (sg : Same G H) : ∀ {ds : List PyData} {ys : List V} {ps : List (Key × PyData)}, RpL K G ys ds → pairsK ds = some ps →
    ∃ (as : List Addr) (kvs : List (Key × V)), ys = as.map V.ref ∧ Paired (fun p kv => SqT K H p [kV kv.1, kv.2]) as kvs ∧ RpP K G kvs ps
  | [], ys, ps, h, e => by
    cases h
    cases e
    exact ⟨[], [], rfl, .nil, .nil⟩
  | d :: r, ys, ps, h, e => by
    cases h with
    | cons ra rb =>
      unfold pairsK at e
      split at e
      · rename_i q; cases q
      · rename_i a b r' q
        cases q
        rw [Option.bind_eq_some_iff] at e
        obtain ⟨k, e1, e2⟩ := e
        rw [Option.map_eq_some_iff] at e2
        obtain ⟨ps', e2, rfl⟩ := e2
        obtain ⟨as, kvs, e3, e4, e5⟩ := pairs_rp sg rb e2
        have ek := keyOf_eq e1
        subst ek
        cases ra with
        | tup hz rl =>
          rename_i p xs
          cases rl with
          | cons rx rl2 =>
            cases rl2 with
            | cons ry rl3 =>
              cases rl3
              rename_i x y
              obtain ⟨ok, rfl⟩ := keyOf_ok rx
              exact ⟨p :: as, (k, y) :: kvs, by rw [e3]; rfl, .cons ((Sub.of sg).sqT hz.sqT) e4, .cons ok ry e5⟩
      · cases e
theorem so_dict {X : Cx} (hc : X.calm = true) : CallR X (.type "dict") (rV X.KW oDict) := by
  intro pins s σ H xs us Q I r h
  obtain ⟨B, Gb, G, σ1, env, W, ds, d, k, S, p, e, c⟩ := h
  unfold oDict at e
  split at e
  · match xs, p with
    | [x], p =>
      rw [Option.map_eq_some_iff] at e
      obtain ⟨ps, e1, e2⟩ := e
      cases e2
      obtain ⟨a, ys, rfl, h1, h2⟩ := p.1.list S
      obtain ⟨as, kvs, rfl, e4, e5⟩ := pairs_rp S.sg h2 e1
      exact call_dictP hc pins s σ H _ us Q I r ⟨a, as, kvs, rfl, .of h1, e4, fun p hp => c.fr S hp (show RpO X.KW G (.dK (mergeK [] kvs)) (.dict (mergeE [] ps)) from RpP.merge e5 .nil)⟩
  · match xs, p with
    | [x], p =>
      split at e
      · cases e
      · rename_i hn
        cases e
        obtain ⟨a, kvs, rfl, h1, h2⟩ := p.1.dictD S (by simpa using hn)
        exact call_dictD pins s σ H _ us Q I r ⟨a, kvs, rfl, h1, fun p hp => c.fr S hp (show RpO X.KW G (.dK kvs) (.dict _) from h2)⟩
  · cases e
end PX

namespace PX
open PySem PySem.Spec PyProof.Rows L2
/-! ### a, b, c, .. = e, f, g, .. -/
def slsOf : List (Nat × Bool) → List Dk → Option (List Sl)
  | [], [] => some []
  | (_, o) :: is, (d, k) :: ds => (slOf o d k).bind fun s => (slsOf is ds).map (s :: ·)
  | _, _ => none
def setSls : List (Nat × Bool) → List Sl → SEnv → SEnv
  | (i, _) :: is, s :: ss, env => setSls is ss (env.set i s)
  | _, _, env => env
def setVs : List (Nat × Bool) → List V → L2.St → L2.St
  | (i, _) :: is, v :: vs, σ => setVs is vs (σ.set i (some v))
  | _, _, σ => σ
def sParN (is : List (Nat × Bool)) (fs : List Ex) : Sx := fun env W => (cArgs fs env W).bind fun q => (slsOf is q.1).map fun ss => .nx (setSls is ss env) q.2
section
variable {K : FW} {B Gb G G' H H' : Hp} {σ σ' : L2.St} {env env' : SEnv} {W : List Int}
theorem Pend.map2 {B' : Hp} {vs : List V} {ds : List Dk} (h : Pend K B G H σ env vs ds) (f : ∀ v' d' k', VOk K B G H σ env v' d' k' → (∃ q ∈ vs.zip (ds.map (·.2)), q = (v', k')) → VOk K B' G' H' σ' env' v' d' k') : Pend K B' G' H' σ' env' vs ds := by
  induction vs generalizing ds with
  | nil => cases ds with
    | nil => trivial
    | cons => exact h
  | cons v vs ih => cases ds with
    | nil => exact h
    | cons t ds =>
      obtain ⟨h1, h2, h3⟩ := h
      refine ⟨f _ _ _ h1 ⟨_, by simp, rfl⟩, h2, ih h3 fun v' d' k' a ⟨q, hq, e⟩ => f v' d' k' a ⟨q, ?_, e⟩⟩
      simp only [List.map_cons, List.zip_cons_cons, List.mem_cons]
      exact .inr hq
theorem sls_kinds : ∀ {is : List (Nat × Bool)} {ds : List Dk} {ss : List Sl}, slsOf is ds = some ss → ∀ t ∈ ds, ∀ i, t.2 ≠ .pk i
  | [], [], _, _, t, ht, _ => by simp at ht
  | [], _ :: _, _, e, _, _, _ => by simp [slsOf] at e
  | _ :: _, [], _, e, _, _, _ => by simp [slsOf] at e
  | (j, o) :: is, (d, k) :: ds, ss, e, t, ht, i => by
    rw [slsOf, Option.bind_eq_some_iff] at e
    obtain ⟨s, e1, e2⟩ := e
    rw [Option.map_eq_some_iff] at e2
    obtain ⟨ss', e2, _⟩ := e2
    rcases List.mem_cons.mp ht with rfl | ht
    · intro hk
      dsimp only at hk
      subst hk
      cases e1
    · exact sls_kinds e2 t ht i
theorem setN : ∀ {is : List (Nat × Bool)} {vs : List V} {ds : List Dk} {ss : List Sl} {G : Hp} {σ : L2.St} {env : SEnv}, Sta K B Gb G H σ env W → Pend K B G H σ env vs ds → slsOf is ds = some ss → ∃ G', Same G G' ∧ Sta K B Gb G' H (setVs is vs σ) (setSls is ss env) W
  | [], [], [], ss, G, σ, env, S, _, e => by
    cases e
    exact ⟨G, Same.refl _, S⟩
  | [], _, _ :: _, _, _, _, _, _, _, e => by simp [slsOf] at e
  | _ :: _, _, [], _, _, _, _, _, _, e => by simp [slsOf] at e
  | [], _ :: _, [], _, _, _, _, _, p, _ => p.elim
  | _ :: _, [], _ :: _, _, _, _, _, _, p, _ => p.elim
  | (i, o) :: is, v :: vs, (d, k) :: ds, ss, G, σ, env, S, p, e => by
    have hk := sls_kinds e
    rw [slsOf, Option.bind_eq_some_iff] at e
    obtain ⟨s, e1, e2⟩ := e
    rw [Option.map_eq_some_iff] at e2
    obtain ⟨ss', e2, rfl⟩ := e2
    obtain ⟨h1, ap, h3⟩ := p
    obtain ⟨G2, t2, S2, f2, o2, m2, w2⟩ := slOf_fit S h1 e1
    have S3 := S2.setSl i s v f2 fun os q ev j' _ => o2 os q ev j'
    have p3 : Pend K B G2 H (σ.set i (some v)) (env.set i s) vs ds := h3.map2 fun v' d' k' a ⟨q, hq, eq⟩ => by
      have hne : k = .fr → k' = .fr → v' ≠ v := fun z1 z2 => by
        have := ap z1 q hq (by rw [eq]; exact z2)
        rw [eq] at this
        exact this
      have a2 := m2 v' d' k' a hne
      cases k' with
      | im => exact a2
      | pk j =>
        have : ∃ t ∈ ds, t.2 = .pk j := by
          rw [eq] at hq
          have := (List.of_mem_zip hq).2
          obtain ⟨t, ht, et⟩ := List.mem_map.mp this
          exact ⟨t, ht, et⟩
        obtain ⟨t, ht, et⟩ := this
        exact absurd et (hk t (by simp [ht]) j)
      | fr =>
        obtain ⟨pa, ob, rfl, b1, b2, b3, b4, b5⟩ := a2
        refine ⟨pa, ob, rfl, b1, b2, b3, b4, fun j hj => ?_⟩
        rcases Own.set S2.len hj with ⟨_, os, ev⟩ | ⟨_, hj⟩
        · exact hne (w2 os) rfl ev.symm
        · exact b5 j hj
    obtain ⟨G3, t3, S4⟩ := setN S3 p3 e2
    exact ⟨G3, t2.trans t3, S4⟩
end
/-- targets that are names -/
def gNs : List (Nat × Bool) → TGs
  | [] => gNil
  | (i, _) :: is => gCons (gName i) (gNs is)
theorem gNs_run : ∀ {is : List (Nat × Bool)} {vs : List V} {σ : L2.St} {H : Hp} {Q : L2.St → Hp → Prop}, vs.length = is.length → Q (setVs is vs σ) H → gNs is vs σ H Q
  | [], [], _, _, _, _, q => ⟨rfl, q⟩
  | [], _ :: _, _, _, _, h, _ => by simp at h
  | _ :: _, [], _, _, _, h, _ => by simp at h
  | (i, o) :: is, v :: vs, σ, H, Q, h, q => ⟨v, vs, rfl, gNs_run (by simpa using h) q⟩
theorem sls_len : ∀ {is : List (Nat × Bool)} {ds : List Dk} {ss : List Sl}, slsOf is ds = some ss → ds.length = is.length
  | [], [], _, _ => rfl
  | [], _ :: _, _, e => by simp [slsOf] at e
  | _ :: _, [], _, e => by simp [slsOf] at e
  | (j, o) :: is, (d, k) :: ds, ss, e => by
    rw [slsOf, Option.bind_eq_some_iff] at e
    obtain ⟨s, e1, e2⟩ := e
    rw [Option.map_eq_some_iff] at e2
    obtain ⟨ss', e2, _⟩ := e2
    rw [List.length_cons, List.length_cons, sls_len e2]
section
variable {X : Cx} {es ts : List Expr} {fs : List Ex} {pos : Pos} {is : List (Nat × Bool)} {kt k2 : Nat} {pt pt2 : Pos}
theorem psx_parN (hc : X.calm = true) (ha : PXs X es fs) (hg : PGs X ts (gNs is)) (hl : is.length ≤ 1000 := by decide) (hn : (assignEach ts X.env).length = is.length := by rfl) (hst : (assignEach ts X.env).findIdx? (·.1) = none := by rfl)
    (hs : swapsWithSole [.Tuple ts kt pt] (.Tuple es k2 pt2) pos.line X.env = pure false := by rfl) (hw : swappedStores [.Tuple ts kt pt] (.Tuple es k2 pt2) X.env = pure none := by rfl)
    (h1 : (assignEach [.Tuple ts kt pt] X.env).map (·.2) = [assign (.Tuple ts kt pt) X.env] := by rfl) : PSX X (.Assign [.Tuple ts kt pt] (.Tuple es k2 pt2) pos) (sParN is fs) := PS.imp (ps_asg (pe_tup ha) (pg_tup hc hg hn hst) hs hw h1) fun D σ H q => by
  obtain ⟨B, Gb, G, env, W, o, S, e, p⟩ := q
  unfold sParN at e
  rw [Option.bind_eq_some_iff] at e
  obtain ⟨⟨ds, W1⟩, e1, e⟩ := e
  rw [Option.map_eq_some_iff] at e
  obtain ⟨ss, e2, e⟩ := e
  cases e
  dsimp only at e2
  refine ⟨B, Gb, G, env, W, ds, W1, S, e1, fun vs G1 H1 t1 S1 p1 => ?_⟩
  have hvl : vs.length = is.length := by rw [p1.length]; exact sls_len e2
  refine ⟨?_, fun a hp => ⟨a, vs, rfl, .of upd_same, hvl, gNs_run hvl ?_⟩⟩
  · rw [hvl, sizeLine_eq]
    omega
  · have S2 := S1.laid (o := .tup vs) hp
    have p2 : Pend X.KW B G1 (upd H1 a (.tup vs)) σ env vs ds := p1.map2 fun v' d' k' h _ => h.move (H2 := H1) S1 (Same.refl _) (same_upd hp) fun q ev ek => by
      subst ek
      obtain ⟨_, _, ev2, b1, _⟩ := h
      rw [ev] at ev2
      cases ev2
      exact b1
    obtain ⟨G3, t3, S3⟩ := setN S2 p2 e2
    exact p _ G3 _ (t1.trans t3) S3
end
end PX

namespace PX
open PySem PySem.Spec PyProof.Rows L2
/-! ### rows of texts -/
abbrev S (xs : List Str) : PyData := .tuple (xs.map PyData.str)
theorem eqStr (a b : Str) (k k' : Kd) : oEq [(.str a, k), (.str b, k')] = some (.bool (decide (a = b)), .im) := ev_eq (α := Str) (by decide) a b k k'
theorem neStr (a b : Str) (k k' : Kd) : oNe [(.str a, k), (.str b, k')] = some (.bool (!decide (a = b)), .im) := ev_ne (α := Str) (by decide) a b k k'
theorem tupS (a b : List Str) : decide (PySem.W.Tup.mk a = PySem.W.Tup.mk b) = decide (a = b) := decide_eq_decide.mpr ⟨fun h => PySem.W.Tup.mk.inj h, fun h => by rw [h]⟩
theorem eqS (a b : List Str) (k k' : Kd) : oEq [(S a, k), (S b, k')] = some (.bool (decide (a = b)), .im) := by
  have h := ev_eq (α := PySem.W.Tup Str) (by decide) ⟨a⟩ ⟨b⟩ k k'
  rw [tupS] at h
  exact h
theorem neS (a b : List Str) (k k' : Kd) : oNe [(S a, k), (S b, k')] = some (.bool (!decide (a = b)), .im) := by
  have h := ev_ne (α := PySem.W.Tup Str) (by decide) ⟨a⟩ ⟨b⟩ k k'
  rw [tupS] at h
  exact h
theorem eqSL (a b : List Str) (k k' : Kd) : oEq [(.list (a.map PyData.str), k), (.list (b.map PyData.str), k')] = some (.bool (decide (a = b)), .im) := ev_eq (α := List Str) (by decide) a b k k'
theorem neSL (a b : List Str) (k k' : Kd) : oNe [(.list (a.map PyData.str), k), (.list (b.map PyData.str), k')] = some (.bool (!decide (a = b)), .im) := ev_ne (α := List Str) (by decide) a b k k'
theorem inS (x : Str) (xs : List Str) (k k' : Kd) : oIn [(.str x, k), (S xs, k')] = some (.bool (decide (x ∈ xs)), .im) := ev_inT (α := Str) (by decide) x xs k k'
theorem niS (x : Str) (xs : List Str) (k k' : Kd) : oNotIn [(.str x, k), (S xs, k')] = some (.bool (!decide (x ∈ xs)), .im) := ev_niT (α := Str) (by decide) x xs k k'
theorem inSL (x : Str) (xs : List Str) (k k' : Kd) : oIn [(.str x, k), (.list (xs.map PyData.str), k')] = some (.bool (decide (x ∈ xs)), .im) := ev_inL (α := Str) (by decide) x xs k k'
theorem niSL (x : Str) (xs : List Str) (k k' : Kd) : oNotIn [(.str x, k), (.list (xs.map PyData.str), k')] = some (.bool (!decide (x ∈ xs)), .im) := ev_niL (α := Str) (by decide) x xs k k'
theorem flatS (xs : List Str) : flat (S xs) = true := flat_D (α := PySem.W.Tup Str) (by decide) ⟨xs⟩
theorem flatSL (xs : List Str) : flat (.list (xs.map PyData.str)) = true := flat_D (α := List Str) (by decide) xs
theorem strs_nil (xs : List Str) (k k' : Kd) : oEq [(.list (xs.map PyData.str), k), (.list [], k')] = some (.bool xs.isEmpty, .im) := by
  have hh := eqSL xs [] k k'
  have e2 : decide (xs = []) = xs.isEmpty := by cases xs <;> simp
  rw [e2] at hh
  exact hh
theorem strs_nnil (xs : List Str) (k k' : Kd) : oNe [(.list (xs.map PyData.str), k), (.list [], k')] = some (.bool (!xs.isEmpty), .im) := by
  have hh := neSL xs [] k k'
  have e2 : decide (xs = []) = xs.isEmpty := by cases xs <;> simp
  rw [e2] at hh
  exact hh
theorem rows_nnil (xs : List (List Str)) (k k' : Kd) : oNe [(.list (xs.map S), k), (.list [], k')] = some (.bool (!xs.isEmpty), .im) := by
  have hh := ev_ne (α := List (PySem.W.Tup Str)) (by decide) (xs.map PySem.W.Tup.mk) [] k k'
  have e1 : (D (xs.map PySem.W.Tup.mk) : PyData) = .list (xs.map S) := by
    show PyData.list ((xs.map PySem.W.Tup.mk).map _) = _
    rw [List.map_map]; rfl
  have e2 : decide (xs.map PySem.W.Tup.mk = []) = xs.isEmpty := by cases xs <;> simp
  rw [e1, e2] at hh
  exact hh
theorem sortB_S (xs : List Str) : sortB (xs.map PyData.str) = true := by
  unfold sortB
  rw [Bool.and_eq_true, Bool.and_eq_true, Bool.or_eq_true]
  refine ⟨flats_D (α := Str) (by decide) xs, ?_, .inr ?_⟩
  · unfold alikeB
    rw [List.all_map]
    refine List.all_eq_true.mpr fun r _ => ?_
    show ((xs.map PyData.str).all fun e => PySem.W.alike (.str r) e) = true
    rw [List.all_map]
    exact List.all_eq_true.mpr fun q _ => by simp [PySem.W.alike]
  · rw [List.all_map]
    exact List.all_eq_true.mpr fun r _ => rfl
def sortS (xs : List Str) : List Str := xs.mergeSort (fun a b => PySem.W.dataLe false id (.str a) (.str b))
theorem sortD_S (xs : List Str) : sortD (xs.map PyData.str) = (sortS xs).map PyData.str := by
  unfold sortD sortS
  rw [List.map_mergeSort]
  intro a _ b _
  rfl
theorem sortS_perm (xs : List Str) : (sortS xs).Perm xs := List.mergeSort_perm _ _
theorem sortedS (xs : List Str) (k : Kd) : oSorted [(.list (xs.map PyData.str), k)] = some (.list ((sortS xs).map PyData.str), .fr) := by
  show (if sortB (xs.map PyData.str) then _ else _) = _
  rw [if_pos (sortB_S xs), sortD_S]
theorem sortedT (xs : List Str) (k : Kd) : oSorted [(S xs, k)] = some (.list ((sortS xs).map PyData.str), .fr) := by
  show (if sortB (xs.map PyData.str) then _ else _) = _
  rw [if_pos (sortB_S xs), sortD_S]
theorem lenS (xs : List Str) (k : Kd) : oLen [(S xs, k)] = some (.int xs.length, .im) := lenM _ _ _
theorem fwIx0S {x : Str} {xs : List Str} (k k' : Kd) : oIx [(S (x :: xs), k), (.int 0, k')] = some (.str x, .im) := fwIx0T _ _
theorem ix_lastT {ds : List PyData} {d : PyData} (k k' : Kd) : oIx [(.tuple (ds ++ [d]), k), (.int (-1), k')] = some (d, .im) := by
  have e : L2.atI (ds ++ [d]) (-1 : Int) = some d := by
    unfold L2.atI
    have e2 : L2.ixN (ds ++ [d]).length (-1) = some ds.length := by
      unfold L2.ixN
      rw [List.length_append]
      simp
      omega
    rw [e2]
    simp
  simp only [oIx, e, Option.map_some]
theorem ixSn {xs : List Str} {x : Str} {n : Nat} (h : xs[n]? = some x) (k k' : Kd) : oIx [(S xs, k), (.int (n : Nat), k')] = some (.str x, .im) := fwIxN (by rw [List.getElem?_map, h]; rfl) _ _
/-! ### dicts with texts as keys -/
def dS (ns : List Str) (f : Str → PyData) : PyData := .dict (ns.map fun x => (.str x, f x))
theorem isT_S (ns : List Str) (f : Str → PyData) : isT (ns.map fun x => (PyData.str x, f x)) = false := by cases ns <;> rfl
theorem ents_S (ns : List Str) (f : Str → PyData) : ents (ns.map fun x => (PyData.str x, f x)) = ns.map fun x => (PyData.str x, f x) := by
  unfold ents
  rw [isT_S]
  rfl
theorem keyFit_S (ns : List Str) (f : Str → PyData) (x : Str) : keyFit (ns.map fun x => (PyData.str x, f x)) (.str x) = true := by
  unfold keyFit
  rw [isT_S]
  rfl
theorem eqv_str (a b : Str) : PyData.eqv (.str a) (.str b) = decide (a = b) := PySem.W.Datum.eqv a b
theorem dget_S {ns : List Str} (f : Str → PyData) (x : Str) : dget (ns.map fun x => (PyData.str x, f x)) (.str x) = if x ∈ ns then some (f x) else none := by
  unfold dget
  induction ns with
  | nil => rfl
  | cons y r ih =>
    rw [List.map_cons]
    by_cases h : y = x
    · subst h
      rw [List.find?_cons_of_pos (by rw [eqv_str]; simp), if_pos (by simp)]
      rfl
    · rw [List.find?_cons_of_neg (by rw [eqv_str]; simpa using h), ih]
      have : (x ∈ y :: r) ↔ x ∈ r := by
        rw [List.mem_cons]
        exact ⟨fun h2 => h2.resolve_left fun e => h e.symm, .inr⟩
      simp only [this]
theorem ixD {ns : List Str} (f : Str → PyData) {x : Str} (h : x ∈ ns) (k k' : Kd) : oIx [(dS ns f, k), (.str x, k')] = some (f x, .im) := by
  show (if keyFit _ _ then (dget (ents _) _).map fun d => (d, Kd.im) else none) = _
  rw [if_pos (keyFit_S ns f x), ents_S, dget_S, if_pos h]
  rfl
theorem inD (ns : List Str) (f : Str → PyData) (x : Str) (k k' : Kd) : oIn [(.str x, k), (dS ns f, k')] = some (.bool (decide (x ∈ ns)), .im) := by
  show (if keyFit _ _ then some (PyData.bool (dget (ents _) _).isSome, Kd.im) else none) = _
  rw [if_pos (keyFit_S ns f x), ents_S, dget_S]
  by_cases h : x ∈ ns
  · rw [if_pos h, decide_eq_true h]; rfl
  · rw [if_neg h, decide_eq_false h]; rfl
theorem sortedD (ns : List Str) (f : Str → PyData) (k : Kd) : oSorted [(dS ns f, k)] = some (.list ((sortS ns).map PyData.str), .fr) := by
  have e : keysD (ns.map fun x => (PyData.str x, f x)) = ns.map PyData.str := by
    unfold keysD
    rw [List.map_map]
    rfl
  show (if isT _ then none else if sortB (keysD _) then some (PyData.list (sortD (keysD _)), Kd.fr) else none) = _
  rw [isT_S, if_neg Bool.false_ne_true, e, if_pos (sortB_S ns), sortD_S]
theorem dput_S_new {ns : List Str} {f g : Str → PyData} {x : Str} {v : PyData} (h : x ∉ ns) (hg : ∀ y ∈ ns, g y = f y) (hx : g x = v) : dputE (ns.map fun x => (PyData.str x, f x)) (.str x) v = (ns ++ [x]).map fun x => (PyData.str x, g x) := by
  unfold dputE
  rw [isT_S]
  show dput (ns.map fun x => (PyData.str x, f x)) (.str x) v = _
  unfold dput
  have : ((ns.map fun x => (PyData.str x, f x)).any fun e => PyData.eqv e.1 (.str x)) = false := by
    rw [List.any_map, List.any_eq_false]
    intro y hy
    show ¬ PyData.eqv (.str y) (.str x) = true
    rw [eqv_str, decide_eq_true_eq]
    intro e
    exact h (e ▸ hy)
  rw [this, if_neg Bool.false_ne_true, List.map_append]
  congr 1
  · exact List.map_congr_left fun y hy => by rw [hg y hy]
  · show [(PyData.str x, v)] = [(PyData.str x, g x)]
    rw [hx]
theorem dput_S_old {ns : List Str} {f g : Str → PyData} {x : Str} {v : PyData} (h : x ∈ ns) (hg : ∀ y ∈ ns, y ≠ x → g y = f y) (hx : g x = v) : dputE (ns.map fun x => (PyData.str x, f x)) (.str x) v = ns.map fun x => (PyData.str x, g x) := by
  unfold dputE
  rw [isT_S]
  show dput (ns.map fun x => (PyData.str x, f x)) (.str x) v = _
  unfold dput
  have : ((ns.map fun x => (PyData.str x, f x)).any fun e => PyData.eqv e.1 (.str x)) = true := by
    rw [List.any_map, List.any_eq_true]
    exact ⟨x, h, by show PyData.eqv (.str x) (.str x) = true; rw [eqv_str]; simp⟩
  rw [this, if_pos rfl, List.map_map]
  refine List.map_congr_left fun y hy => ?_
  show (if PyData.eqv (.str y) (.str x) = true then (PyData.str y, v) else (PyData.str y, f y)) = (PyData.str y, g y)
  rw [eqv_str]
  by_cases e : y = x
  · subst e; simp [hx]
  · simp [e, hg y hy e]
section
variable {env : SEnv} {W W1 W2 : List Int} {fk fv : Ex} {k1 k2 : Kd} {d kd : PyData} {i : Nat} {es : List (PyData × PyData)} {s2 : Sx} {Q : Ou → Prop}
theorem ru_dput (ho : env[i]? = some (.ow (.dict es))) (ev : fv env W = some (d, k1, W1)) (ek : fk env W1 = some (kd, .im, W2)) (h1 : esc k1 = true) (h2 : keyFit es kd = true) (h3 : es.length < 16777216) (h : Runs s2 (env.set i (.ow (.dict (dputE es kd d)))) W2 Q) : Runs (sSeq (sDPut i fk fv) s2) env W Q := ru_seq (by
  unfold sDPut
  rw [ev, Option.bind_some]
  dsimp only
  rw [ho]
  dsimp only
  rw [ek, Option.bind_some]
  dsimp only
  rw [if_pos ⟨h1, h2, h3⟩]) h
theorem ru_parN {is : List (Nat × Bool)} {fs : List Ex} {ts : List Dk} {ss : List Sl} (ea : cArgs fs env W = some (ts, W1)) (hs : slsOf is ts = some ss) (h : Runs s2 (setSls is ss env) W1 Q) : Runs (sSeq (sParN is fs) s2) env W Q := ru_seq (by
  unfold sParN
  rw [ea, Option.bind_some]
  dsimp only
  rw [hs]
  rfl) h
/-- x = y, y this def's own thing, used no more as such -/
theorem ru_move {j : Nat} {f : Ex} {own : Bool} {e0 : PyData} (e : f env W = some (d, .pk j, W1)) (hj : env[j]? = some (.ow e0)) (h : Runs s2 ((env.set j (.pl d)).set i (.pl d)) W1 Q) : Runs (sSeq (sSet i own f) s2) env W Q := ru_seq (by
  unfold sSet
  rw [e, Option.bind_some]
  dsimp only
  rw [hj]) h
theorem fwZip {ds es : List PyData} {f g : Ex} (e1 : f env W = some (.list ds, k1, W1)) (e2 : g env W1 = some (.list es, k2, W2)) (h1 : esc k1 = true) (h2 : esc k2 = true) : iZip f g env W = some (List.zipWith (fun d e => PyData.tuple [d, e]) ds es, .im, W2) := by
  unfold iZip
  rw [e1]
  simp only [e2, h1, h2, Bool.and_self, if_true]
theorem fwZipT {ds es : List PyData} {f g : Ex} (e1 : f env W = some (.tuple ds, k1, W1)) (e2 : g env W1 = some (.tuple es, k2, W2)) (h1 : esc k1 = true) (h2 : esc k2 = true) : iZip f g env W = some (List.zipWith (fun d e => PyData.tuple [d, e]) ds es, .im, W2) := by
  unfold iZip
  rw [e1]
  simp only [e2, h1, h2, Bool.and_self, if_true]
theorem fwCOr {b c : Bool} {f g : Ex} (e1 : f env W = some (.bool b, k1, W1)) (e2 : b = false → g env W1 = some (.bool c, .im, W1)) : cOr f g env W = some (.bool (b || c), .im, W1) := by
  unfold cOr
  rw [e1]
  cases b with
  | true => rfl
  | false => dsimp only; rw [if_neg Bool.false_ne_true, e2 rfl]; rfl
theorem cutD_tail (ds : List PyData) : cutD ds (some 1) none = ds.drop 1 := by
  have := cutD_from ds 0
  simpa using this
theorem fwTailT {ds : List PyData} {f g : Ex} (e1 : f env W = some (.tuple ds, k1, W1)) (e2 : g env W1 = some (.int 1, k2, W2)) : cSlice f (some g) none env W = some (.tuple (ds.drop 1), .im, W2) := by
  unfold cSlice
  rw [e1, Option.bind_some]
  simp only [PX.part, Option.bind_some, e2, oSl, Option.map_some, cutD_tail]
theorem fwTailL {ds : List PyData} {f g : Ex} (e1 : f env W = some (.list ds, k1, W1)) (e2 : g env W1 = some (.int 1, k2, W2)) : cSlice f (some g) none env W = some (.list (ds.drop 1), .fr, W2) := by
  unfold cSlice
  rw [e1, Option.bind_some]
  simp only [PX.part, Option.bind_some, e2, oSl, Option.map_some, cutD_tail]
end
end PX
namespace PX
theorem fwWhileF {m : Nat} {t : Ct} {g : Sx} {env : SEnv} {W W1 : List Int} (h : t env W = some (false, W1)) : whileL (m + 1) t g env W = some (.nx env W1) := by simp [whileL, h]
theorem fwWhileT {m : Nat} {t : Ct} {g : Sx} {env e2 : SEnv} {W W1 W2 : List Int} (h : t env W = some (true, W1)) (h2 : g env W1 = some (.nx e2 W2)) : whileL (m + 1) t g env W = whileL m t g e2 W2 := by simp [whileL, h, h2]
end PX
namespace PX
open PySem
theorem ru_retO {i : Nat} {f : Ex} {env : SEnv} {W W1 : List Int} {d e0 : PyData} {s2 : Sx} {Q : Ou → Prop} (e : f env W = some (d, .pk i, W1)) (h : env[i]? = some (.ow e0)) (q : Q (.rt d W1)) : Runs (sSeq (sRetK f) s2) env W Q := ⟨_, fwSeqR (by unfold sRetK; rw [e, Option.bind_some]; dsimp only; rw [h]), q⟩
end PX
namespace PX
open PySem PySem.Spec PyProof.Rows L2
theorem mergeE_S (f : Str → PyData) : ∀ (xs done : List Str), (done ++ xs).Nodup → mergeE (done.map fun x => (PyData.str x, f x)) (xs.map fun x => ((Sum.inr x : Key), f x)) = (done ++ xs).map fun x => (PyData.str x, f x)
  | [], done, _ => by rw [List.append_nil]; rfl
  | x :: r, done, h => by
    have hx : x ∉ done := fun hd => by
      rw [List.nodup_append] at h
      exact h.2.2 x hd x (by simp) rfl
    show mergeE (dput (done.map fun x => (PyData.str x, f x)) (.str x) (f x)) (r.map fun x => ((Sum.inr x : Key), f x)) = _
    have e : dput (done.map fun x => (PyData.str x, f x)) (.str x) (f x) = (done ++ [x]).map fun x => (PyData.str x, f x) := by
      have := dput_S_new (ns := done) (f := f) (g := f) (x := x) (v := f x) hx (fun _ _ => rfl) rfl
      unfold dputE at this
      rw [isT_S] at this
      exact this
    rw [e, mergeE_S f r (done ++ [x]) (by rw [List.append_assoc]; exact h), List.append_assoc]
    rfl
/-- dict([(name, ..) for name in names]) -/
theorem dict_S {ns : List Str} (hn : ns.Nodup) (f : Str → PyData) (k : Kd) : oDict [(.list (ns.map fun x => .tuple [.str x, f x]), k)] = some (dS ns f, .fr) := by
  have e : pairsK (ns.map fun x => PyData.tuple [.str x, f x]) = some (ns.map fun x => ((Sum.inr x : Key), f x)) := by
    clear hn
    induction ns with
    | nil => rfl
    | cons x r ih =>
      rw [List.map_cons, pairsK, ih]
      rfl
  show (pairsK _).map _ = _
  rw [e]
  show some (PyData.dict (mergeE [] (ns.map fun x => ((Sum.inr x : Key), f x))), Kd.fr) = _
  have := mergeE_S f ns [] (by simpa using hn)
  rw [List.map_nil, List.nil_append] at this
  rw [this]
  rfl
/-- a loop over a range with draws, the number known -/
theorem forL_drawI {t : Tg} {g : Sx} (R : Nat → SEnv → Prop) : ∀ (m lo : Nat) (env : SEnv) (W : List Int), R lo env → (∀ n env W, lo ≤ n → n < lo + m → R n env → ∃ e1 e2 W', t (.int (n : Nat)) env = some e1 ∧ g e1 W = some (.nx e2 W') ∧ R (n + 1) e2) →
    ∃ e' W', forL t g ((rgZ lo m).map PyData.int) env W = some (.nx e' W') ∧ R (lo + m) e'
  | 0, lo, env, W, h, _ => ⟨env, W, rfl, h⟩
  | m + 1, lo, env, W, h, st => by
    obtain ⟨e1, e2, W', h1, h2, h3⟩ := st lo env W (Nat.le_refl _) (by omega) h
    obtain ⟨e', W2, h4, h5⟩ := forL_drawI R m (lo + 1) e2 W' h3 fun n env W a b => st n env W (by omega) (by omega)
    refine ⟨e', W2, ?_, by rw [show lo + (m + 1) = lo + 1 + m by omega]; exact h5⟩
    rw [rgZ_head, List.map_cons]
    simp only [forL, h1, Option.bind_some, h2]
    exact h4
end PX

namespace PX
open PySem PySem.Spec PyProof.Rows L2
/-! ### a, b = a list -/
def gTupL (K : FW) (n : Nat) (t : TGs) : TG := fun v σ H Q => ∃ a xs, v = .ref a ∧ SqL K H a xs ∧ xs.length = n ∧ t xs σ H Q
theorem pg_tupL {X : Cx} {es : List Expr} {k : Nat} {t : TGs} {n : Nat} {pos : Pos} (hc : X.calm = true) (h : PGs X es t)
    (hn : (assignEach es X.env).length = n := by rfl) (hst : (assignEach es X.env).findIdx? (·.1) = none := by rfl) : PG X (.Tuple es k pos) (gTupL X.KW n t) := by
  refine ⟨fun pins s σ H v u Q I r hw => ?_⟩
  obtain ⟨a, xs, e1, hq, hl, hw⟩ := hw
  subst e1
  cases r
  obtain ⟨its, rv, ht, hz⟩ := I.list hq
  have hsz : (assignEach es X.env).length = its.toArray.size := by simp [hn, ← hl, rv.length]
  rw [assign_Tuple]
  refine wpAny_bind (wpAny_standAt ?_)
  unfold unpack
  rw [hsz, hst]
  refine wpAny_bind (wpAny_holding (PySem.W.kun_itemsOf (I.ok.hd hc) ht.isList fun h' hx => ?_))
  have I1 : Inv X pins σ H { s with heap := h' } := I.kept (t' := s.toks) fun b o e => hx b o (Nat.ne_of_lt (Heap.lt_size e)) e
  exact h.run pins _ σ H xs _ Q I1 (by simpa using rv) hw
def gTL (n : Nat) (u : List PyData → SEnv → Option SEnv) : Tg := fun d env => match d with
  | .list ds => if ds.length = n then u ds env else none
  | _ => none
theorem pgx_tupL {X : Cx} {es : List Expr} {u : List PyData → SEnv → Option SEnv} {pos : Pos} {k n : Nat} {vs : List Nat} (hc : X.calm = true) (h : PGsX X es u vs) (hn : (assignEach es X.env).length = n := by rfl) (hst : (assignEach es X.env).findIdx? (·.1) = none := by rfl) : PGX X (.Tuple es k pos) (gTL n u) vs where
  pg := PG.imp (pg_tupL hc h.pg hn hst) fun v σ H Q q => by
    obtain ⟨B, Gb, G, env, W, d, env', S, r, e, c⟩ := q
    unfold gTL at e
    split at e
    · split at e
      · rename_i hl
        cases r with
        | lst a b => exact ⟨_, _, rfl, .of (S.sg _ _ a), b.length.trans hl, B, Gb, G, env, W, _, env', S, b, e, c⟩
      · cases e
    · cases e
  ok := fun d env env' e => by
    unfold gTL at e
    split at e
    · split at e
      · exact h.ok _ _ _ e
      · cases e
    · cases e
end PX

namespace PX
open PySem PySem.Spec PyProof.Rows L2
/-! ### a dict that a loop walks: locked while the loop runs -/
/-- a dict, with keys of either sort -/
def Dct (w : HO) : Prop := (∃ kvs, w = .dK kvs) ∨ ∃ kvs, w = .dT kvs
/-- the same dict, locked or not -/
def Twin (u u' : HO) : Prop := ∃ w od, Dct w ∧ ((u = w ∧ u' = .frz od w) ∨ (u = .frz od w ∧ u' = w))
theorem Twin.symm {u u' : HO} (h : Twin u u') : Twin u' u := by
  obtain ⟨w, od, hw, ⟨a, b⟩ | ⟨a, b⟩⟩ := h
  · exact ⟨w, od, hw, .inr ⟨b, a⟩⟩
  · exact ⟨w, od, hw, .inl ⟨b, a⟩⟩
theorem Twin.ntup {u u' : HO} (h : Twin u u') : ∀ xs, u ≠ .tup xs := by
  obtain ⟨w, od, ⟨kvs, rfl⟩ | ⟨kvs, rfl⟩, ⟨rfl, rfl⟩ | ⟨rfl, rfl⟩⟩ := h <;> exact fun _ z => nomatch z
theorem Twin.nlst {u u' : HO} (h : Twin u u') : ∀ xs, u ≠ .lst xs := by
  obtain ⟨w, od, ⟨kvs, rfl⟩ | ⟨kvs, rfl⟩, ⟨rfl, rfl⟩ | ⟨rfl, rfl⟩⟩ := h <;> exact fun _ z => nomatch z
/-- in a part of the heap that has d -/
def swp (B : Hp) (d : Addr) (u : HO) : Hp := fun a => if a = d ∧ B d ≠ none then some u else B a
theorem swp_ne {B : Hp} {d a : Addr} {u : HO} (h : a ≠ d) : swp B d u a = B a := by unfold swp; rw [if_neg fun z => h z.1]
theorem swp_none {B : Hp} {d a : Addr} {u : HO} : swp B d u a = none ↔ B a = none := by
  by_cases h : a = d
  · subst h
    unfold swp
    by_cases hb : B a = none
    · rw [if_neg fun z => z.2 hb]
    · rw [if_pos ⟨rfl, hb⟩]
      simp [hb]
  · rw [swp_ne h]
theorem swp_back {B : Hp} {d : Addr} {u u' : HO} (h : ∀ o, B d = some o → o = u) : swp (swp B d u') d u = B := by
  funext a
  by_cases ha : a = d
  · subst ha
    cases hb : B a with
    | none => exact swp_none.mpr (swp_none.mpr hb)
    | some o =>
      have : swp B a u' a ≠ none := fun z => by rw [swp_none] at z; rw [hb] at z; cases z
      unfold swp at *
      rw [if_pos ⟨rfl, this⟩, h o hb]
  · rw [swp_ne ha, swp_ne ha]
section
variable {K : FW} {B Gb G H : Hp} {σ : L2.St} {env : SEnv} {W : List Int} {d : Addr} {u u' : HO}
theorem sub_swap (hG : G d = some u) (t : Twin u u') : Sub G (upd G d u') := by
  refine ⟨fun a xs e => ?_, fun a xs e => ?_, fun a xs e => ?_, fun a xs e => ?_, fun a xs e => ?_⟩
  · rw [upd_ne (fun z => by subst z; rw [hG] at e; cases e; exact t.nlst _ rfl)]; exact e
  · by_cases z : a = d
    · subst z
      obtain ⟨w, od, ⟨kvs, rfl⟩ | ⟨kvs, rfl⟩, ⟨rfl, rfl⟩ | ⟨rfl, rfl⟩⟩ := t <;> rcases e with e | ⟨o, e⟩ <;> rw [hG] at e <;> cases e
    · rcases e with e | ⟨o, e⟩
      · exact .inl (by rw [upd_ne z]; exact e)
      · exact .inr ⟨o, by rw [upd_ne z]; exact e⟩
  · rw [upd_ne (fun z => by subst z; rw [hG] at e; cases e; exact t.ntup _ rfl)]; exact e
  · by_cases z : a = d
    · subst z
      obtain ⟨w, od, ⟨kvs, rfl⟩ | ⟨kvs, rfl⟩, ⟨rfl, rfl⟩ | ⟨rfl, rfl⟩⟩ := t <;> rcases e with e | ⟨o, e⟩ <;> rw [hG] at e <;> cases e <;> first | exact .inr ⟨od, upd_same⟩ | exact .inl upd_same
    · rcases e with e | ⟨o, e⟩
      · exact .inl (by rw [upd_ne z]; exact e)
      · exact .inr ⟨o, by rw [upd_ne z]; exact e⟩
  · by_cases z : a = d
    · subst z
      obtain ⟨w, od, ⟨kvs, rfl⟩ | ⟨kvs, rfl⟩, ⟨rfl, rfl⟩ | ⟨rfl, rfl⟩⟩ := t <;> rcases e with e | ⟨o, e⟩ <;> rw [hG] at e <;> cases e <;> first | exact .inr ⟨od, upd_same⟩ | exact .inl upd_same
    · rcases e with e | ⟨o, e⟩
      · exact .inl (by rw [upd_ne z]; exact e)
      · exact .inr ⟨o, by rw [upd_ne z]; exact e⟩
theorem same_swp {A C : Hp} (s : Same A C) : Same (swp A d u') (upd C d u') := fun a o e => by
  by_cases z : a = d
  · subst z
    unfold swp at e
    by_cases hb : A a = none
    · rw [if_neg fun q => q.2 hb, hb] at e; cases e
    · rw [if_pos ⟨rfl, hb⟩] at e
      rw [upd_same]; exact e
  · rw [swp_ne z] at e
    rw [upd_ne z]
    exact s a o e
theorem gb_swp (hG : G d = some u) (t : Twin u u') (h : ∀ a o, B a = some o → G a ≠ none → Gb a ≠ none ∨ ∃ xs, o = .tup xs) (sb : ∀ o, B d = some o → o = u) : ∀ a o, swp B d u' a = some o → upd G d u' a ≠ none → swp Gb d u' a ≠ none ∨ ∃ xs, o = .tup xs := fun a o e hg => by
  by_cases z : a = d
  · subst z
    have hb : B a ≠ none := fun q => by rw [swp_none.mpr q] at e; cases e
    obtain ⟨o', ho'⟩ : ∃ o', B a = some o' := by
      cases hq : B a with
      | none => exact absurd hq hb
      | some o' => exact ⟨o', rfl⟩
    rcases h a o' ho' (by rw [hG]; exact fun q => nomatch q) with q | ⟨xs, q⟩
    · exact .inl fun z => q (swp_none.mp z)
    · have := sb o' ho'
      rw [q] at this
      exact absurd this.symm (t.ntup xs)
  · rw [swp_ne z] at e
    rw [upd_ne z] at hg
    rcases h a o e hg with q | q
    · exact .inl fun y => q (swp_none.mp y)
    · exact .inr q
theorem Sta.swap (S : Sta K B Gb G H σ env W) (hG : G d = some u) (t : Twin u u') : Sta K (swp B d u') (swp Gb d u') (upd G d u') (upd H d u') σ env W := by
  have sub := sub_swap hG t
  have hH : H d = some u := S.sg _ _ hG
  have hBu : ∀ o, B d = some o → o = u := fun o e => by have := S.sb _ _ e; rw [hH] at this; cases this; rfl
  have ne : ∀ p, G p = none → p ≠ d := fun p h z => by rw [z, hG] at h; cases h
  refine ⟨fun a o e => ?_, same_swp S.sb, same_swp S.sgb, gb_swp hG t S.gb hBu, S.len, fun i x e => ?_, fun i x e => ?_, fun i od' o' x e => ?_, fun i e => ?_, fun i ns e => ?_, S.one, S.sep⟩
  · by_cases z : a = d
    · subst z; rw [upd_same] at e ⊢; exact e
    · rw [upd_ne z] at e ⊢; exact S.sg _ _ e
  · obtain ⟨v, h1, h2⟩ := S.pl i x e
    exact ⟨v, h1, Rp.mono sub h2⟩
  · obtain ⟨p, o, h1, h2, h3, h4, h5⟩ := S.ow i x e
    have z := ne p h2
    exact ⟨p, o, h1, by rw [upd_ne z]; exact h2, swp_none.mpr h3, by rw [upd_ne z]; exact h4, h5.mono sub⟩
  · obtain ⟨p, h1, h2, h3, h4, h5, h6⟩ := S.lk i _ _ _ e
    have z := ne p h2
    exact ⟨p, h1, by rw [upd_ne z]; exact h2, swp_none.mpr h3, by rw [upd_ne z]; exact h4, h5.mono sub, h6⟩
  · obtain ⟨p, l, ns, k, h1, h2, h3, h4, h5, h6⟩ := S.wd i e
    have z := ne p h2
    exact ⟨p, l, ns, k, h1, by rw [upd_ne z]; exact h2, swp_none.mpr h3, by rw [upd_ne z]; exact h4, sub.lst _ _ h5, h6⟩
  · obtain ⟨p, h1, h2⟩ := S.sc i ns e
    refine ⟨p, h1, ?_⟩
    rcases h2 with h2 | h2
    · have : p ≠ d := fun z => by
        subst z
        obtain ⟨w, od, ⟨kvs, rfl⟩ | ⟨kvs, rfl⟩, ⟨rfl, rfl⟩ | ⟨rfl, rfl⟩⟩ := t <;> rcases h2 with h2 | ⟨o, h2⟩ <;> rw [hG] at h2 <;> cases h2
      rcases h2 with h2 | ⟨o, h2⟩
      · exact .inl (.inl (by rw [upd_ne this]; exact h2))
      · exact .inl (.inr ⟨o, by rw [upd_ne this]; exact h2⟩)
    · exact .inr h2
theorem VOk.swap {v : V} {x : PyData} {k : Kd} (h : VOk K B G H σ env v x k) (hG : G d = some u) (t : Twin u u') : VOk K (swp B d u') (upd G d u') (upd H d u') σ env v x k := by
  cases k with
  | im => exact Rp.mono (sub_swap hG t) h
  | pk i => exact h
  | fr =>
    obtain ⟨p, o, rfl, h1, h2, h3, h4, h5⟩ := h
    have z : p ≠ d := fun z => by rw [z, hG] at h1; cases h1
    exact ⟨p, o, rfl, by rw [upd_ne z]; exact h1, swp_none.mpr h2, by rw [upd_ne z]; exact h3, h4.mono (sub_swap hG t), h5⟩
theorem Fin.swap {v : V} {x : PyData} (f : Fin K B Gb G H v x) (hG : G d = some u) (t : Twin u u') : Fin K (swp B d u') (swp Gb d u') (upd G d u') (upd H d u') v x := by
  have hH : H d = some u := f.sg _ _ hG
  have hBu : ∀ o, B d = some o → o = u := fun o e => by have := f.sb _ _ e; rw [hH] at this; cases this; rfl
  refine ⟨fun a o e => ?_, same_swp f.sb, same_swp f.sgb, gb_swp hG t f.gb hBu, Rp.mono (sub_swap hG t) f.rp⟩
  by_cases z : a = d
  · subst z; rw [upd_same] at e ⊢; exact e
  · rw [upd_ne z] at e ⊢; exact f.sg _ _ e
theorem same_back {G2 : Hp} (hG : G d = some u) (s : Same (upd G d u') G2) : Same G (upd G2 d u) := fun a o e => by
  by_cases z : a = d
  · subst z; rw [hG] at e; rw [upd_same]; exact e
  · rw [upd_ne z]
    exact s a o (by rw [upd_ne z]; exact e)
end
/-- keys of a dict that stands in a slot -/
def iKey (i : Nat) : Ci := fun env W => match env[i]? with
  | some (.pl (.dict es)) => if isT es = false ∧ es.length ≤ 16777216 then some (keysD es, .im, W) else none
  | _ => none
theorem RpD.keys' {K : FW} {G : Hp} : ∀ {kvs : List (Key × V)} {es : List (PyData × PyData)}, RpD K G kvs es → ∀ (i : Nat) (k : Key) (v : V), kvs[i]? = some (k, v) → ∃ d, (keysD es)[i]? = some d ∧ Rp K G (kV k) d
  | _, _, .nil, i, k, v, h => by simp at h
  | _, _, .cons (k := k0) ok a b, 0, k, v, h => by
    simp at h
    obtain ⟨rfl, rfl⟩ := h
    refine ⟨keyD k0, rfl, ?_⟩
    cases k0 with
    | inl i => exact .int i
    | inr s => exact .str s ok
  | _, _, .cons ok a b, i + 1, k, v, h => by
    obtain ⟨d, h1, h2⟩ := RpD.keys' b i k v (by simpa using h)
    exact ⟨d, by simpa [keysD] using h1, h2⟩
section
variable {K : FW} {σ : L2.St} {H : Hp} {i : Nat}
/-- the locked dict of a slot -/
def LkAt (H : Hp) (σ : L2.St) (i : Nat) : Prop := ∃ a od kvs, σ[i]? = some (some (V.ref a)) ∧ H a = some (.frz od (.dK kvs))
theorem keys_of {R : It → Hp → Prop} (q : tI K (iKey i) σ H R) (l : LkAt H σ i) : iKeys (tVar i) σ H R := by
  obtain ⟨B, Gb, G, env, W, ds, k, W', S, e, c⟩ := q
  obtain ⟨a, od, kvs, h1, h2⟩ := l
  unfold iKey at e
  split at e
  · rename_i es he
    split at e
    · rename_i hnt
      cases e
      obtain ⟨v, h3, r⟩ := S.pl i _ he
      rw [h1] at h3
      cases h3
      have hfr : G a = some (.frz od (.dK kvs)) ∧ RpD K G kvs es := by
        cases r with
        | dK hr rd =>
          rcases hr with hr | ⟨o, hr⟩
          · have := S.sg _ _ hr; rw [h2] at this; cases this
          · have := S.sg _ _ hr; rw [h2] at this; cases this; exact ⟨hr, rd⟩
        | dT hr rd => exact absurd hnt.1 (by simp [isT])
      refine ⟨_, h1, a, od, rfl, .inl ⟨kvs, h2, c (Itk a od kvs) G H (fun G2 H2 => H2 a = some (.frz od (.dK kvs)) ∧ RpD K G2 kvs es) (Same.refl _) S ?_ ?_ ?_⟩⟩
      · refine ⟨fun j G2 H2 hj hc => ?_, fun G2 H2 hc => ?_, fun j G2 H2 x H3 hj hc hy => ?_⟩
        · exact ⟨hc.1, by have := hc.2.length; unfold keysD at hj; rw [List.length_map] at hj; omega⟩
        · exact ⟨hc.1, by have := hc.2.length; unfold keysD; rw [List.length_map]; omega⟩
        · obtain ⟨rfl, k, v, hk, rfl⟩ := hy
          obtain ⟨d, q1, q2⟩ := hc.2.keys' j k v hk
          exact ⟨d, q1, .inl ⟨rfl, q2⟩⟩
      · exact fun B2 Gb2 G2 H2 σ2 env2 W2 s2 S2 _ => ⟨S2.sg _ _ (s2 _ _ hfr.1), RpD.mono (Sub.of s2) hfr.2⟩
      · unfold keysD
        rw [List.length_map]
        exact hnt.2
    · cases e
  · cases e
end

section
variable {X : Cx} {tg : Expr} {f : Ci} {t : Tg} {g : Sx} {vs : List Nat}
theorem for_step {D : Ends} {σ : L2.St} {H : Hp} (q : tS X.KW (sFor f t g) D σ H) : tFor (tI X.KW f) (tG X.KW t vs) (tS X.KW g) D σ H := by
  obtain ⟨B, Gb, G, env, W, o, S, e, p⟩ := q
  unfold sFor at e
  rw [Option.bind_eq_some_iff] at e
  obtain ⟨⟨ds, k, W1⟩, e1, e⟩ := e
  dsimp only at e
  split at e
  · rename_i hk
    refine ⟨B, Gb, G, env, W, ds, k, W1, S, e1, fun J G1 H1 C s1 S1 w hld hlen => ?_⟩
    have hld' : ∀ {B Gb G2 H σ1 env1 W}, Same G1 G2 → Sta X.KW B Gb G2 H σ1 env1 W → C G2 H := fun s S => hld _ _ _ _ _ _ _ s S fun i z => by subst z; exact absurd hk Bool.false_ne_true
    refine ⟨fun i m σ H => m = ds.length - i ∧ i ≤ ds.length ∧ ∃ G2 env2 W2, Same G1 G2 ∧ Sta X.KW B Gb G2 H σ env2 W2 ∧ forL t g (ds.drop i) env2 W2 = some o, ⟨ds.length, rfl, Nat.zero_le _, G1, env, W1, Same.refl _, S1, e⟩, ?_⟩
    rintro i m σ H ⟨rfl, hi, G2, env2, W2, s2, S2, e2⟩
    by_cases hlt : i < ds.length
    · refine .inr ⟨w.goes i G2 H hlt (hld' s2 S2), fun σ' H' => ∃ G2 env2 W2, Same G1 G2 ∧ Sta X.KW B Gb G2 H' σ' env2 W2 ∧ forL t g (ds.drop (i + 1)) env2 W2 = some o, fun σ' H' h => ⟨ds.length - (i + 1), by omega, rfl, hlt, h⟩, fun x H' y => ?_⟩
      obtain ⟨d, G3, hd, s3, h3, S3, r⟩ := w.yield S2 (hld' s2 S2) hlt y
      rw [List.drop_eq_getElem_cons hlt, forL, Option.bind_eq_some_iff] at e2
      obtain ⟨env3, e4, e5⟩ := e2
      have ed : ds[i] = d := by
        rw [List.getElem?_eq_getElem hlt] at hd
        exact Option.some.inj hd
      rw [ed] at e4
      refine ⟨B, Gb, G3, env2, W2, d, env3, S3, r, e4, fun σ3 _ S4 => ?_⟩
      split at e5
      · rename_i e' W' eg
        exact ⟨B, Gb, G3, env3, W2, _, S4, eg, fun σ5 G5 H5 s5 S5 => ⟨G5, e', W', (s2.trans s3).trans s5, S5, e5⟩⟩
      · rename_i e' W' eg
        exact ⟨B, Gb, G3, env3, W2, _, S4, eg, fun σ5 G5 H5 s5 S5 => ⟨G5, e', W', (s2.trans s3).trans s5, S5, e5⟩⟩
      · rename_i e' W' eg
        cases e5
        exact ⟨B, Gb, G3, env3, W2, _, S4, eg, fun σ5 G5 H5 s5 S5 => p σ5 G5 H5 (((s1.trans s2).trans s3).trans s5) S5⟩
      · rename_i r' n1 n2 n3
        cases o with
        | nx a b => exact absurd e5 (n1 a b)
        | ct a b => exact absurd e5 (n2 a b)
        | bk a b => exact absurd e5 (n3 a b)
        | rt d W' => exact ⟨B, Gb, G3, env3, W2, _, S4, e5, post.sub p ((s1.trans s2).trans s3)⟩
    · have ei : i = ds.length := by omega
      subst ei
      rw [List.drop_length] at e2
      cases e2
      exact .inl ⟨w.stops G2 H (hld' s2 S2), p σ G2 H (s1.trans s2) S2⟩
  · cases e
end
section
variable {K : FW} {B Gb G H : Hp} {σ : L2.St} {env : SEnv} {W : List Int} {a : Addr} {kvs : List (Key × V)}
def lkEnds (D : Ends) (d : Addr) (od : Obj) (u : HO) : Ends := ⟨fun σ' H' => H' d = some (.frz od u) ∧ D.nx σ' (upd H' d u), fun v H' => H' d = some (.frz od u) ∧ D.rt v (upd H' d u), fun σ' H' => H' d = some (.frz od u) ∧ D.bk σ' (upd H' d u), fun σ' H' => H' d = some (.frz od u) ∧ D.ct σ' (upd H' d u)⟩
theorem twinW {w : HO} (hw : Dct w) (od : Obj) : Twin w (.frz od w) := ⟨w, od, hw, .inl ⟨rfl, rfl⟩⟩
theorem twin (kvs : List (Key × V)) (od : Obj) : Twin (.dK kvs) (.frz od (.dK kvs)) := twinW (.inl ⟨kvs, rfl⟩) od
theorem tE_lockW {w : HO} (hw : Dct w) {f : Ex} {Q : VK} {d : PyData} {k : Kd} {W' : List Int} (S : Sta K B Gb G H σ env W) (ev : f env W = some (d, k, W')) (c : Cont K B Gb G σ env W' d k Q) (hG : G a = some w) (od : Obj) : tE K f σ (upd H a (.frz od w)) (fun v H' => H' a = some (.frz od w) ∧ Q v (upd H' a w)) := by
  have hBu : ∀ o, B a = some o → o = w := fun o e => by have := S.sb _ _ e; rw [S.sg _ _ hG] at this; cases this; rfl
  have hGu : ∀ o, Gb a = some o → o = w := fun o e => by have := S.sgb _ _ e; rw [hG] at this; cases this; rfl
  refine ⟨_, _, _, env, W, d, k, W', S.swap hG (twinW hw od), ev, fun v G2 H2 s2 S2 h2 => ?_⟩
  have hG2 : G2 a = some (.frz od w) := s2 _ _ upd_same
  have S3 := S2.swap hG2 (twinW hw od).symm
  have h3 := h2.swap hG2 (twinW hw od).symm
  rw [swp_back hBu] at S3 h3
  rw [swp_back hGu] at S3
  exact ⟨S2.sg _ _ hG2, c v _ _ (same_back hG s2) S3 h3⟩
theorem tS_lockW {w : HO} (hw : Dct w) {g : Sx} {D : Ends} {o : Ou} (S : Sta K B Gb G H σ env W) (ev : g env W = some o) (p : post K B Gb G D o) (hG : G a = some w) (od : Obj) : tS K g (lkEnds D a od w) σ (upd H a (.frz od w)) := by
  have hBu : ∀ o, B a = some o → o = w := fun o e => by have := S.sb _ _ e; rw [S.sg _ _ hG] at this; cases this; rfl
  have hGu : ∀ o, Gb a = some o → o = w := fun o e => by have := S.sgb _ _ e; rw [hG] at this; cases this; rfl
  refine ⟨_, _, _, env, W, o, S.swap hG (twinW hw od), ev, ?_⟩
  have nx : ∀ {env1 : SEnv} {W1 : List Int} {P : L2.St → Hp → Prop}, Nx K B Gb G env1 W1 P → Nx K (swp B a (.frz od w)) (swp Gb a (.frz od w)) (upd G a (.frz od w)) env1 W1 (fun σ' H' => H' a = some (.frz od w) ∧ P σ' (upd H' a w)) := fun h σ2 G2 H2 s2 S2 => by
    have hG2 := s2 _ _ (upd_same (H := G) (a := a) (o := .frz od w))
    have S3 := S2.swap hG2 (twinW hw od).symm
    rw [swp_back hBu, swp_back hGu] at S3
    exact ⟨S2.sg _ _ hG2, h σ2 _ _ (same_back hG s2) S3⟩
  cases o with
  | nx e1 w1 => exact nx p
  | bk e1 w1 => exact nx p
  | ct e1 w1 => exact nx p
  | rt d w1 =>
      intro v G2 H2 s2 f
      have hG2 := s2 _ _ (upd_same (H := G) (a := a) (o := .frz od w))
      have f3 := f.swap hG2 (twinW hw od).symm
      rw [swp_back hBu, swp_back hGu] at f3
      exact ⟨f.sg _ _ hG2, p v _ _ (same_back hG s2) f3⟩
theorem tE_lock {f : Ex} {Q : VK} {d : PyData} {k : Kd} {W' : List Int} (S : Sta K B Gb G H σ env W) (ev : f env W = some (d, k, W')) (c : Cont K B Gb G σ env W' d k Q) (hG : G a = some (.dK kvs)) (od : Obj) : tE K f σ (upd H a (.frz od (.dK kvs))) (fun v H' => H' a = some (.frz od (.dK kvs)) ∧ Q v (upd H' a (.dK kvs))) := tE_lockW (.inl ⟨kvs, rfl⟩) S ev c hG od
theorem tS_lock {g : Sx} {D : Ends} {o : Ou} (S : Sta K B Gb G H σ env W) (ev : g env W = some o) (p : post K B Gb G D o) (hG : G a = some (.dK kvs)) (od : Obj) : tS K g (lkEnds D a od (.dK kvs)) σ (upd H a (.frz od (.dK kvs))) := tS_lockW (.inl ⟨kvs, rfl⟩) S ev p hG od
/-- the dict of a slot stands locked, or can be locked -/
theorem key_at {i : Nat} {ds : List PyData} {k : Kd} {W' : List Int} (S : Sta K B Gb G H σ env W) (e : iKey i env W = some (ds, k, W')) : LkAt H σ i ∨ ∃ a kvs, σ[i]? = some (some (V.ref a)) ∧ G a = some (.dK kvs) := by
  unfold iKey at e
  split at e
  · rename_i es he
    split at e
    · rename_i hnt
      obtain ⟨v, h3, r⟩ := S.pl i _ he
      cases r with
      | dK hr rd =>
        rcases hr with hr | ⟨o, hr⟩
        · exact .inr ⟨_, _, h3, hr⟩
        · exact .inl ⟨_, _, _, h3, S.sg _ _ hr⟩
      | dT hr rd => exact absurd hnt.1 (by simp [isT])
    · cases e
  · cases e
theorem lk_upd {i : Nat} (h : σ[i]? = some (some (V.ref a))) (od : Obj) : LkAt (upd H a (.frz od (.dK kvs))) σ i := ⟨a, od, kvs, h, upd_same⟩
end
theorem PE.or {X : Cx} {e : Expr} {t1 t2 : TE} (h1 : PE X e t1) (h2 : PE X e t2) : PE X e (fun σ H Q => t1 σ H Q ∨ t2 σ H Q) := ⟨fun pins s σ H Q I q => by
  rcases q with q | q
  · exact h1.run pins s σ H Q I q
  · exact h2.run pins s σ H Q I q⟩
theorem PS.or {X : Cx} {st : Stmt} {t1 t2 : TS} (h1 : PS X st t1) (h2 : PS X st t2) : PS X st (fun D σ H => t1 D σ H ∨ t2 D σ H) := ⟨fun pins s σ H D I q => by
  rcases q with q | q
  · exact h1.run pins s σ H D I q
  · exact h2.run pins s σ H D I q⟩
section
variable {X : Cx} {tg elt : Expr} {ifs : List Expr} {scope : Scope} {own : List (Str × Nat)} {pos pos' : Pos} {x : Str} {i : Nat} {t : Tg} {c : Ct} {e : Ex} {g : Sx} {body : List Stmt} {vs : List Nat}
theorem cLc_it {f : Ci} {vs : List Nat} {env : SEnv} {W W' : List Int} {d : PyData} {k : Kd} (h : cLc f t c e vs env W = some (d, k, W')) : ∃ ds k1 W1, f env W = some (ds, k1, W1) := by
  unfold cLc at h
  split at h
  · rw [Option.bind_eq_some_iff] at h
    obtain ⟨⟨ds, k1, W1⟩, h1, _⟩ := h
    exact ⟨ds, k1, W1, h1⟩
  · cases h
theorem px_lcD (hc : X.calm = true) (hN : X.N.Nodup) (hi : X.N[i]? = some x) (ok : BlkOk X.N X.env.scope scope own)
    (hg : ∀ (s : Shared) (H : Hp) (C : Addr) (cl : List (Str × Addr)) (fp : List Addr), PGX (X.blk s H scope (compEnvC scope cl C X.env) fp) tg t (own.map (·.2))) (ht : ∀ (s : Shared) (H : Hp) (C : Addr) (cl : List (Str × Addr)) (fp : List Addr), PTsX (X.blk s H scope (compEnvC scope cl C X.env) fp) ifs c)
    (he : ∀ (s : Shared) (H : Hp) (C : Addr) (cl : List (Str × Addr)) (fp : List Addr), PX (X.blk s H scope (compEnvC scope cl C X.env) fp) elt e)
    (hv : Vis X.env.scope x := by first | exact Or.inl rfl | exact Or.inr (Or.inl rfl) | exact Or.inr (Or.inr rfl)) (hd : (x == ("__debug__" : Str)) = false := by decide) (hcd : (x == ("__classdict__" : Str)) = false := by decide) (hs : ∀ y, foldedSetIterable (.Name x pos') X.env y = pure y := by intro _; rfl) :
    PX X (.ListComp elt [⟨tg, .Name x pos', ifs, 0⟩] scope pos) (cLc (iKey i) t c e (own.map (·.2))) := by
  have core := pe_lc (g := tG X.KW t (own.map (fun p : Str × Nat => p.2))) (tt := tT X.KW c) (te := tE X.KW e) (elt := elt) (pos := pos) hc hN (pi_keys (pe_var (pos := pos') hi hv hd hcd)) ok (fun s H C cl fp => (hg s H C cl fp).pg) ht he hs
  refine PE.imp (PE.or core (pe_lock core)) fun σ H Q q => ?_
  have okk := (hg X.s_0 H 0 [] []).ok
  have q0 := q
  obtain ⟨B, Gb, G, env, W, dd, kk, W', S, ev, cont⟩ := q
  obtain ⟨ds, k1, W1, e1⟩ := cLc_it ev
  rcases key_at S e1 with l | ⟨a, kvs, ha, hG⟩
  · exact .inl (keys_of (lc_step okk q0) l)
  · exact .inr ⟨a, .dK kvs, S.sg _ _ hG, trivial, fun od => keys_of (lc_step okk (tE_lock S ev cont hG od)) (lk_upd ha od)⟩
theorem psx_setLcD {j : Nat} {oo : Bool} {y : Str} {py spos : Pos} (hc : X.calm = true) (hN : X.N.Nodup) (hi : X.N[i]? = some x) (ok : BlkOk X.N X.env.scope scope own)
    (hg : ∀ (s : Shared) (H : Hp) (C : Addr) (cl : List (Str × Addr)) (fp : List Addr), PGX (X.blk s H scope (compEnvC scope cl C X.env) fp) tg t (own.map (·.2))) (ht : ∀ (s : Shared) (H : Hp) (C : Addr) (cl : List (Str × Addr)) (fp : List Addr), PTsX (X.blk s H scope (compEnvC scope cl C X.env) fp) ifs c)
    (he : ∀ (s : Shared) (H : Hp) (C : Addr) (cl : List (Str × Addr)) (fp : List Addr), PX (X.blk s H scope (compEnvC scope cl C X.env) fp) elt e)
    (hsw : swapsWith (.ListComp elt [⟨tg, .Name x pos', ifs, 0⟩] scope pos) (some (.Name y py)) spos.line X.env = pure true) (hy : X.N[j]? = some y := by rfl) (hyl : X.env.scope.names.lookup y = some .local := by rfl)
    (hv : Vis X.env.scope x := by first | exact Or.inl rfl | exact Or.inr (Or.inl rfl) | exact Or.inr (Or.inr rfl)) (hd : (x == ("__debug__" : Str)) = false := by decide) (hcd : (x == ("__classdict__" : Str)) = false := by decide) (hs : ∀ y, foldedSetIterable (.Name x pos') X.env y = pure y := by intro _; rfl) :
    PSX X (.Assign [.Name y py] (.ListComp elt [⟨tg, .Name x pos', ifs, 0⟩] scope pos) spos) (sSet j oo (cLc (iKey i) t c e (own.map (·.2)))) := by
  have core := ps_setLc (g := tG X.KW t (own.map (fun p : Str × Nat => p.2))) (tt := tT X.KW c) (te := tE X.KW e) hc hN hy hyl hsw (pi_keys (pe_var (pos := pos') hi hv hd hcd)) ok (fun s H C cl fp => (hg s H C cl fp).pg) ht he hs
  refine PS.imp (PS.or core (ps_lock core)) fun D σ H q => ?_
  have okk := (hg X.s_0 H 0 [] []).ok
  have q0 := q
  obtain ⟨B, Gb, G, env, W, o, S, ev, p⟩ := q
  have hit : ∃ ds k1 W1, iKey i env W = some (ds, k1, W1) := by
    unfold sSet at ev
    rw [Option.bind_eq_some_iff] at ev
    obtain ⟨⟨d, k, W2⟩, h1, _⟩ := ev
    exact cLc_it h1
  obtain ⟨ds, k1, W1, e1⟩ := hit
  rcases key_at S e1 with l | ⟨a, kvs, ha, hG⟩
  · exact .inl (keys_of (lc_step okk (set_step q0)) l)
  · exact .inr ⟨a, .dK kvs, S.sg _ _ hG, trivial, fun od => keys_of (lc_step okk (set_step (tS_lock S ev p hG od))) (lk_upd ha od)⟩
theorem psx_forD (hp : PassesOwn (model X.prog X.w) X.A X.env X.xe) (hc : X.calm = true) (hi : X.N[i]? = some x) (hg : PGX X tg t vs) (hb : PSsX X body g)
    (hv : Vis X.env.scope x := by first | exact Or.inl rfl | exact Or.inr (Or.inl rfl) | exact Or.inr (Or.inr rfl)) (hd : (x == ("__debug__" : Str)) = false := by decide) (hcd : (x == ("__classdict__" : Str)) = false := by decide)
    (hs : ∀ y, foldedSetIterable (.Name x pos') X.env y = pure y := by intro _; rfl) : PSX X (.For tg (.Name x pos') body [] pos) (sFor (iKey i) t g) := by
  have core := ps_for (pos := pos) hp hc (pi_keys (pe_var (pos := pos') hi hv hd hcd)) hg.pg hb hs
  refine PS.imp (PS.or core (ps_lock core)) fun D σ H q => ?_
  have q0 := q
  obtain ⟨B, Gb, G, env, W, o, S, ev, p⟩ := q
  have hit : ∃ ds k1 W1, iKey i env W = some (ds, k1, W1) := by
    unfold sFor at ev
    rw [Option.bind_eq_some_iff] at ev
    obtain ⟨⟨ds, k1, W1⟩, h1, _⟩ := ev
    exact ⟨ds, k1, W1, h1⟩
  obtain ⟨ds, k1, W1, e1⟩ := hit
  rcases key_at S e1 with l | ⟨a, kvs, ha, hG⟩
  · exact .inl (keys_of (for_step q0) l)
  · exact .inr ⟨a, .dK kvs, S.sg _ _ hG, trivial, fun od => keys_of (for_step (tS_lock S ev p hG od)) (lk_upd ha od)⟩
end
end PX

namespace PX
open PySem PySem.Spec PyProof.Rows L2
open PySem.SeqAt (EqIn)
/-! ### == of data with dicts within -/
def allO : List (Option Bool) → Option Bool
  | [] => some true
  | o :: os => o.bind fun a => (allO os).map fun b => a && b
def deq : Nat → PyData → PyData → Option Bool
  | 0, _, _ => none
  | n + 1, a, b => if flat a && flat b then some (PyData.eqv a b) else match a, b with
    | .list xs, .list ys => if xs.length = ys.length then allO (List.zipWith (deq n) xs ys) else none
    | .tuple xs, .tuple ys => if xs.length = ys.length then allO (List.zipWith (deq n) xs ys) else none
    | .dict es, .dict fs => if isT es = false ∧ isT fs = false then (if es.length = fs.length then allO (es.map fun e => match dget fs e.1 with | none => some false | some y => deq n e.2 y) else some false) else none
    | _, _ => none
theorem allO_cons {o : Option Bool} {os : List (Option Bool)} {b : Bool} (h : allO (o :: os) = some b) : ∃ x y, o = some x ∧ allO os = some y ∧ b = (x && y) := by
  unfold allO at h
  rw [Option.bind_eq_some_iff] at h
  obtain ⟨x, e1, h⟩ := h
  rw [Option.map_eq_some_iff] at h
  obtain ⟨y, e2, e3⟩ := h
  exact ⟨x, y, e1, e2, e3.symm⟩
section
variable {X : Cx} {pins : List (Addr × Obj)} {σ : L2.St} {H : Hp} {s : Shared}
/-- a dict in the heap, locked or not -/
theorem objK (I : Inv X pins σ H s) {a : Addr} {kvs : List (Key × V)} (h : Rd H a (.dK kvs)) : ObjOk X.prog X.w H s.heap a (.dK kvs) := by
  rcases h with h | ⟨o, h⟩
  · exact I.hok a _ h
  · exact (I.hok a _ h).2
theorem objT (I : Inv X pins σ H s) {a : Addr} {kvs : List (List Key × V)} (h : Rd H a (.dT kvs)) : ObjOk X.prog X.w H s.heap a (.dT kvs) := by
  rcases h with h | ⟨o, h⟩
  · exact I.hok a _ h
  · exact (I.hok a _ h).2
theorem kv_keys {κ : Type} {kvs : List (κ × V)} {vs : List (κ × Value)} (r : KV kvs vs) : vs.map (·.1) = kvs.map (·.1) := by
  unfold KV at r
  induction r with
  | nil => rfl
  | cons h _ ih => rw [List.map_cons, List.map_cons, ih, h.1]
theorem nodupK (I : Inv X pins σ H s) {a : Addr} {kvs : List (Key × V)} (h : Rd H a (.dK kvs)) : (kvs.map (·.1)).Nodup := by
  obtain ⟨_, _, vs, r, o, es, ep, _, _, _, _, _, nd⟩ := objK I h
  rw [kv_keys r] at nd
  exact nd
theorem pair_keys {α β κ : Type} {f : α → κ} {g : β → κ} {R : α → β → Prop} (h : ∀ a b, R a b → f a = g b) : ∀ {as : List α} {bs : List β}, Paired R as bs → as.map f = bs.map g
  | _, _, .nil => rfl
  | _, _, .cons r t => by rw [List.map_cons, List.map_cons, h _ _ r, pair_keys h t]
theorem nodupT (I : Inv X pins σ H s) {a : Addr} {kvs : List (List Key × V)} (h : Rd H a (.dT kvs)) : (kvs.map (·.1)).Nodup := by
  obtain ⟨_, _, xs, r, o, es, ep, _, _, _, _, nd⟩ := objT I h
  rw [pair_keys (f := fun p : List Key × V => p.1) (g := fun q : List Key × Addr × Value => q.1) (fun _ _ z => z.1) r]
  exact nd
theorem rd_inj {H : Hp} {a : Addr} {u v : HO} (hu : ∀ o w, u ≠ .frz o w) (hv : ∀ o w, v ≠ .frz o w) (h : Rd H a u) (k : Rd H a v) : u = v := by
  rcases h with h | ⟨o, h⟩ <;> rcases k with k | ⟨o', k⟩ <;> rw [h] at k <;> cases k
  · rfl
  · exact absurd rfl (hu _ _)
  · exact absurd rfl (hv _ _)
  · rfl
theorem sqT_inj (I : Inv X pins σ H s) {a : Addr} {xs ys : List V} (h : SqT X.KW H a xs) (k : SqT X.KW H a ys) : xs = ys := by
  obtain ⟨us, r1, ⟨o, e1, _, n, d1⟩, _⟩ := I.tuple h
  obtain ⟨ws, r2, ⟨o', e2, _, n', d2⟩, _⟩ := I.tuple k
  rw [e1] at e2; cases e2
  rw [d1] at d2; cases d2
  exact r1.inj r2
theorem paired_left {α β : Type} {F : α → β → Prop} : ∀ {as : List α} {bs : List β}, Paired F as bs → ∀ a ∈ as, ∃ b, F a b
  | _, _, .nil, _, h => nomatch h
  | _, _, .cons r t, a, h => by
    rcases List.mem_cons.mp h with rfl | h
    · exact ⟨_, r⟩
    · exact paired_left t a h
theorem valV_mem {κ : Type} [DecidableEq κ] : ∀ {kvs : List (κ × V)}, (kvs.map (·.1)).Nodup → ∀ p ∈ kvs, valV kvs p.1 = some p.2
  | [], _, _, h => nomatch h
  | q :: kvs, nd, p, hp => by
    rw [List.map_cons, List.nodup_cons] at nd
    unfold valV
    rw [List.find?_cons]
    rcases List.mem_cons.mp hp with rfl | hp
    · rw [decide_eq_true rfl]; rfl
    · have : q.1 ≠ p.1 := fun e => nd.1 (e ▸ List.mem_map_of_mem hp)
      rw [decide_eq_false this]
      exact valV_mem nd.2 p hp
theorem RpD.mem {K : FW} {G : Hp} : ∀ {kvs : List (Key × V)} {es : List (PyData × PyData)}, RpD K G kvs es → ∀ e ∈ es, ∃ p ∈ kvs, e.1 = keyD p.1 ∧ Rp K G p.2 e.2
  | _, _, .nil, _, h => nomatch h
  | _, _, .cons o a b, e, h => by
    rcases List.mem_cons.mp h with rfl | h
    · exact ⟨_, List.mem_cons_self, rfl, a⟩
    · obtain ⟨p, h1, h2⟩ := RpD.mem b e h
      exact ⟨p, List.mem_cons_of_mem _ h1, h2⟩
theorem allO_true {α : Type} {f : α → Option Bool} : ∀ {as : List α} {b : Bool}, (∀ a ∈ as, ∀ b, f a = some b → b = true) → allO (as.map f) = some b → b = true
  | [], _, _, h => by cases h; rfl
  | a :: as, b, hf, h => by
    rw [List.map_cons] at h
    obtain ⟨x, y, e1, e2, rfl⟩ := allO_cons h
    rw [hf a List.mem_cons_self x e1, allO_true (fun a' ha' => hf a' (List.mem_cons_of_mem _ ha')) e2]
    rfl
theorem ents_T {es : List (PyData × PyData)} : ents ((.none, .none) :: es) = es := by simp [ents, PX.isT]
theorem ents_D {K : FW} {G : Hp} {kvs : List (Key × V)} {es : List (PyData × PyData)} (h : RpD K G kvs es) : ents es = es := by unfold ents; rw [if_neg (by rw [h.notT]; exact Bool.false_ne_true)]
/-- what a value reads as is one -/
theorem deq_same (I : Inv X pins σ H s) : ∀ (n : Nat) {x : V} {v : Value} {a b : PyData} {r : Bool}, Rp X.KW H x a → Rp X.KW H x b → RelV x v → deq n a b = some r → r = true
  | 0, _, _, _, _, _, _, _, _, h => nomatch h
  | n + 1, x, v, a, b, r, ha, hb, rx, h => by
    unfold deq at h
    split at h
    · rename_i f
      cases h
      rw [Bool.and_eq_true] at f
      obtain ⟨⟨as, r1⟩, l1⟩ := ha.reads I (flat_noD f.1) rx
      obtain ⟨⟨bs, r2⟩, l2⟩ := hb.reads I (flat_noD f.2) rx
      rw [SeqAt.Reads.unique a b _ _ _ l1 r1 r2]
      exact SeqAt.eqv_refl b l2
    · have items : ∀ {xs : List V} {us : List Value} {as bs : List PyData} {r : Bool}, RpL X.KW H xs as → RpL X.KW H xs bs → Vals xs us → allO (List.zipWith (deq n) as bs) = some r → r = true := by
        intro xs
        induction xs with
        | nil => intro us as bs r h1 h2 _ h; cases h1; cases h2; cases h; rfl
        | cons x xs ih =>
          intro us as bs r h1 h2 rv h
          cases h1 with
          | cons a1 b1 =>
            cases h2 with
            | cons a2 b2 =>
              cases rv with
              | cons c1 c2 =>
                rw [List.zipWith_cons_cons] at h
                obtain ⟨p, q, e1, e2, rfl⟩ := allO_cons h
                rw [deq_same I n a1 a2 c1 e1, ih b1 b2 c2 e2]
                rfl
      split at h
      · split at h
        · cases ha with
          | lst a1 b1 =>
            cases hb with
            | lst a2 b2 =>
              rw [a1] at a2; cases a2
              obtain ⟨us, rv, _⟩ := I.list (.of a1)
              exact items b1 b2 rv h
        · cases h
      · split at h
        · cases ha with
          | tup a1 b1 =>
            cases hb with
            | tup a2 b2 =>
              obtain ⟨us, rv, hl, _⟩ := I.tuple a1.sqT
              have e := sqT_inj I a1.sqT a2.sqT
              subst e
              exact items b1 b2 rv h
        · cases h
      · split at h
        · rename_i ht
          cases ha with
          | dT a1 b1 => exact absurd ht.1 (by simp [isT])
          | dK a1 b1 =>
            cases hb with
            | dT a2 b2 => exact absurd ht.2 (by simp [isT])
            | dK a2 b2 =>
              have e := rd_inj (by exact fun _ _ z => nomatch z) (by exact fun _ _ z => nomatch z) a1 a2
              cases e
              rw [if_pos (b1.length.symm.trans b2.length)] at h
              obtain ⟨_, _, vs, rk, _⟩ := objK I a1
              refine allO_true (fun e he b hb => ?_) h
              obtain ⟨p, hp, e1, e2⟩ := b1.mem e he
              have g := b2.get p.1
              rw [valV_mem (nodupK I a1) p hp] at g
              rw [e1] at hb
              cases hd : dget _ (keyD p.1) with
              | none => rw [hd] at g; exact g.elim
              | some y =>
                rw [hd] at g hb
                obtain ⟨u, _, ru⟩ := paired_left rk p hp
                exact deq_same I n e2 g ru hb
        · cases h
      · cases h
/-- what two refs of data with dicts ask of their items -/
structure EqNs (n : Nat) (A : Around) : Prop where
  eq : ∀ {x y : V} {v u : Value} {a b : PyData} {r : Bool}, Rp X.KW H x a → Rp X.KW H y b → RelV x v → RelV y u → deq n a b = some r → EqIn X.prog X.w A s v u r
theorem zip_run {n : Nat} {A : Around} (q : EqNs (X := X) (H := H) (s := s) n A) : ∀ {xs ys : List V} {us ws : List Value} {as bs : List PyData} {r : Bool}, RpL X.KW H xs as → RpL X.KW H ys bs → Vals xs us → Vals ys ws → as.length = bs.length → allO (List.zipWith (deq n) as bs) = some r →
    ∃ e : Nat → Bool, (∀ j (h1 : j < us.length) (h2 : j < ws.length), EqIn X.prog X.w A s us[j] ws[j] (e j)) ∧ (List.range us.length).all e = r ∧ us.length = ws.length := by
  intro xs
  induction xs with
  | nil =>
    intro ys us ws as bs r h1 h2 r1 r2 hl h
    cases h1; cases r1
    cases h2 with
    | nil => cases r2; cases h; exact ⟨fun _ => true, fun j h => absurd h (Nat.not_lt_zero j), rfl, rfl⟩
    | cons _ _ => cases hl
  | cons x xs ih =>
    intro ys us ws as bs r h1 h2 r1 r2 hl h
    cases h1 with
    | cons a1 b1 =>
      cases h2 with
      | nil => cases hl
      | cons a2 b2 =>
        cases r1 with
        | cons c1 d1 =>
          cases r2 with
          | cons c2 d2 =>
            rw [List.zipWith_cons_cons] at h
            obtain ⟨p, q', e1, e2, rfl⟩ := allO_cons h
            obtain ⟨e, f1, f2, f3⟩ := ih b1 b2 d1 d2 (Nat.succ.inj hl) e2
            refine ⟨fun j => match j with | 0 => p | j + 1 => e j, fun j g1 g2 => ?_, ?_, by rw [List.length_cons, List.length_cons, f3]⟩
            · cases j with
              | zero => exact q.eq a1 a2 c1 c2 e1
              | succ j => exact f1 j (Nat.lt_of_succ_lt_succ g1) (Nat.lt_of_succ_lt_succ g2)
            · rw [List.length_cons, List.range_succ_eq_map, List.all_cons, List.all_map, ← f2]
              rfl
theorem hitsK {n : Nat} {A : Around} (q : EqNs (X := X) (H := H) (s := s) n A) {ls : List (Key × V)} {fs : List (PyData × PyData)} {vb : List (Key × Value)} (rf : RpD X.KW H ls fs) (rb : KV ls vb) : ∀ {ks : List (Key × V)} {es : List (PyData × PyData)} {va : List (Key × Value)} {r : Bool}, RpD X.KW H ks es → KV ks va →
    allO (es.map fun e => match dget fs e.1 with | none => some false | some y => deq n e.2 y) = some r → PySem.W.KeqHitsIn X.prog X.w A s vb va r := by
  intro ks
  induction ks with
  | nil => intro es va r h1 r1 h; cases h1; cases r1; cases h; exact .nil
  | cons p ks ih =>
    intro es va r h1 r1 h
    cases h1 with
    | @cons k v _ d ds o a b =>
      cases r1 with
      | @cons _ qq _ _ c1 d1 =>
        rw [List.map_cons] at h
        obtain ⟨p', q', e1, e2, rfl⟩ := allO_cons h
        obtain ⟨k', w'⟩ := qq
        obtain ⟨ek, rv⟩ := c1
        have ek : k = k' := ek
        subst ek
        have g := rf.get k
        have rr := rb.val k
        dsimp only at e1
        cases hd : dget fs (keyD k) with
        | none =>
          rw [hd] at g e1
          cases hv : valV ls k with
          | none =>
            rw [hv] at rr
            cases hw : valueAt vb k with
            | none => cases e1; rw [Bool.false_and]; exact .miss hw
            | some _ => rw [hw] at rr; exact rr.elim
          | some _ => rw [hv] at g; exact g.elim
        | some y =>
          rw [hd] at g e1
          cases hv : valV ls k with
          | none => rw [hv] at g; exact g.elim
          | some z =>
            rw [hv] at g rr
            obtain ⟨u, hu, ru⟩ := rr.some_of
            exact .hit hu (q.eq a g rv ru e1) (ih b d1 e2)
/-- == of two refs that are not plain data -/
theorem rc_run (I : Inv X pins σ H s) {n : Nat} {A : Around} (hu : A.units < cLine) (q : EqNs (X := X) (H := H) (s := s) n A.in1) {x y : V} {v u : Value} {a b : PyData} {r : Bool} (ha : Rp X.KW H x a) (hb : Rp X.KW H y b) (rx : RelV x v) (ry : RelV y u) (nf : ¬ (flat a && flat b) = true) (h : deq (n + 1) a b = some r) :
    ∃ l l', v = .ref l ∧ u = .ref l' ∧ ∀ (E Q : Value → Shared → Prop), Q (.bool r) s → wpAny (model X.prog X.w) A (richCompare .Eq v u) Q E s := by
  unfold deq at h
  rw [if_neg nf] at h
  split at h
  · split at h
    · rename_i hl
      cases ha with
      | lst a1 b1 =>
        cases hb with
        | lst a2 b2 =>
          obtain ⟨us, r1, p1, _⟩ := I.list (.of a1)
          obtain ⟨ws, r2, p2, _⟩ := I.list (.of a2)
          obtain ⟨e, f1, f2, f3⟩ := zip_run q b1 b2 r1 r2 hl h
          cases rx
          cases ry
          refine ⟨_, _, rfl, rfl, fun E Q hq => SeqAt.rcIn_lists (e := e) p1.isList p2.isList (by simpa using f3) hu (fun j h1 h2 => ?_) ?_⟩
          · simpa using f1 j (by simpa using h1) (by simpa using h2)
          · have : (us.toArray).size = us.length := by simp
            rw [this, f2]; exact hq
    · cases h
  · split at h
    · rename_i hl
      cases ha with
      | tup a1 b1 =>
        cases hb with
        | tup a2 b2 =>
          obtain ⟨us, r1, p1, _⟩ := I.tuple a1.sqT
          obtain ⟨ws, r2, p2, _⟩ := I.tuple a2.sqT
          obtain ⟨e, f1, f2, f3⟩ := zip_run q b1 b2 r1 r2 hl h
          cases rx
          cases ry
          refine ⟨_, _, rfl, rfl, fun E Q hq => SeqAt.rcIn_tuples (e := e) p1 p2 hu (fun j h1 h2 => ?_) ?_⟩
          · simpa using f1 j (by simpa using h1) (by simpa using h2)
          · have e1 : (us.toArray).size = us.length := by simp
            have e2 : (ws.toArray).size = us.length := by simp [f3]
            rw [e1, e2, Nat.min_self, f2, beq_self_eq_true, Bool.and_true]; exact hq
    · cases h
  · split at h
    · rename_i ht
      cases ha with
      | dT a1 b1 => exact absurd ht.1 (by simp [isT])
      | dK a1 b1 =>
        cases hb with
        | dT a2 b2 => exact absurd ht.2 (by simp [isT])
        | dK a2 b2 =>
          obtain ⟨_, ya, va, r1, da⟩ := objK I a1
          obtain ⟨_, yb, vb, r2, db⟩ := objK I a2
          cases rx
          cases ry
          refine ⟨_, _, rfl, rfl, fun E Q hq => ?_⟩
          have l1 : va.length = _ := r1.length.symm.trans b1.length
          have l2 : vb.length = _ := r2.length.symm.trans b2.length
          split at h
          · rename_i hl
            refine PySem.W.keq_eqIn (knd := mixKind X.prog X.w) (r := r) ya yb da db hu (fun _ => hitsK q b2 r2 b1 r1 h) ?_
            rw [l1, l2, hl, beq_self_eq_true, Bool.true_and]; exact hq
          · rename_i hl
            cases h
            refine PySem.W.keq_eqIn (knd := mixKind X.prog X.w) (r := true) ya yb da db hu (fun z => absurd (l1.symm.trans (z.trans l2)) hl) ?_
            rw [l1, l2, show (_ == _) = false from beq_eq_false_iff_ne.mpr hl, Bool.false_and]; exact hq
    · cases h
  · cases h
theorem eq_run (I : Inv X pins σ H s) : ∀ (n : Nat) (A : Around), A.units + n + 64 < cLine → EqNs (X := X) (H := H) (s := s) n A
  | 0, _, _ => ⟨fun _ _ _ _ h => nomatch h⟩
  | n + 1, A, hu => ⟨fun {x y v u a b r} ha hb rx ry h => by
    by_cases nf : (flat a && flat b) = true
    · unfold deq at h
      rw [if_pos nf] at h
      cases h
      rw [Bool.and_eq_true] at nf
      obtain ⟨⟨as, r1⟩, l1⟩ := ha.reads I (flat_noD nf.1) rx
      obtain ⟨⟨bs, r2⟩, l2⟩ := hb.reads I (flat_noD nf.2) ry
      exact (SeqAt.eqAt_reads a b A s _ _ _ _ r1 r2 l1 l2 (by have := flat_depth nf.1; omega)).inModel _ _
    · obtain ⟨l, l', rfl, rfl, f⟩ := rc_run I (by omega) (eq_run I n A.in1 (by show A.units + 1 + n + 64 < cLine; omega)) ha hb rx ry nf h
      by_cases e : l = l'
      · subst e
        have := rx.inj ry
        subst this
        rw [deq_same I (n + 1) ha hb rx h]
        exact (SeqAt.EqAt.same _).inModel _ _
      · exact SeqAt.EqIn.of_refs e f⟩
end
/-! ### the operations -/
def oEqD : Op
  | [(a, _), (b, _)] => (deq 8 a b).map fun r => (.bool r, .im)
  | _ => none
section
variable {X : Cx}
theorem so_eqD (hu : X.A.units + 200 < cLine) : OpR X (compareOp .Eq) (fun x y => rV X.KW oEqD [x, y]) := by
  intro pins s σ H x y v u Q I rx ry h
  obtain ⟨B, Gb, G, σ1, env, W, d1, k1, d2, k2, d, k, S, h1, h2, ap, e, c⟩ := rV.two h
  unfold oEqD at e
  rw [Option.map_eq_some_iff] at e
  obtain ⟨r, e, e2⟩ := e
  cases e2
  by_cases nf : (flat d1 && flat d2) = true
  · unfold deq at e
    rw [if_pos nf] at e
    cases e
    rw [Bool.and_eq_true] at nf
    have q1 := flat_shaped (h1.rp S) nf.1
    have q2 := flat_shaped (h2.rp S) nf.2
    exact op_eqD (by omega) pins s σ H x y v u Q I rx ry ⟨_, _, q1.1, q2.1, q1.2, q2.2, c.bool S⟩
  · obtain ⟨l, l', rfl, rfl, f⟩ := rc_run (n := 7) I (by omega) (eq_run I 7 X.A.in1 (by show X.A.units + 1 + 7 + 64 < cLine; omega)) (h1.rp S) (h2.rp S) rx ry nf e
    exact f _ _ ⟨.bl r, H, I, rfl, c.bool S⟩
end
end PX

namespace PX
open PySem PySem.Spec PyProof.Rows L2
open PySem.SeqAt (EqIn)
/-! ### != of data with dicts within -/
section
open PySem.AutoSeq1 (wpAny_loadPart')
open PySem.MeetsSeq PySem.MeetsSeq2 PySem.MeetsSeq3 PySem.SeqRoads2
variable {P : Program} {w : World}
theorem tup_neP (a1 a2 : Addr) (xs ys : Array Value) (m1 m2 : Nat) (o1 o2 : Option Addr) (t1 t2 : Array (Option Value)) (f : Nat → Bool) :
    MeetsIn P w (Builtin.«tuple.__ne__» ⟨[.ref a1, .ref a2], []⟩) (fun A R s => s.heap.get? a1 = some { cls := .type "tuple", dict := o1, data := .seq xs m1, slots := t1 } ∧
      s.heap.get? a2 = some { cls := .type "tuple", dict := o2, data := .seq ys m2, slots := t2 } ∧ (∀ j (h1 : j < xs.size) (h2 : j < ys.size), EqIn P w A.in1 s xs[j] ys[j] (f j)) ∧
      R (.ok (.ret (.bool (!((List.range (min xs.size ys.size)).all f && xs.size == ys.size))))) s) :=
  .of_wp fun A R s hh => by
    obtain ⟨hp, gs, dr, tk, os⟩ := s
    obtain ⟨g1, g2, ge, gr⟩ := hh
    have sub := AutoSeq1.sub_tuple_tuple
    have hz : (xs.toList.zip ys.toList).length = min xs.size ys.size := by simp
    wp_walk using wpAny_loadPart' g1, wpAny_loadPart' g2, wpAny_forIn_list _ (fun rest q s' => q.1 = none ∧ s' = ⟨hp, gs, dr, tk, os⟩ ∧ ∃ i, rest = (xs.toList.zip ys.toList).drop i ∧
      R (.ok (.ret (.bool (!(((List.range (min xs.size ys.size)).drop i).all f && xs.size == ys.size))))) ⟨hp, gs, dr, tk, os⟩) _
    case turn =>
      rintro ⟨p, q⟩ rest acc s' ⟨ha, rfl, i, er, hr⟩
      have il : i < (xs.toList.zip ys.toList).length := by
        rcases Nat.lt_or_ge i (xs.toList.zip ys.toList).length with z | z
        · exact z
        · rw [List.drop_of_length_le z] at er; cases er
      have im : i < min xs.size ys.size := hz ▸ il
      have i1 : i < xs.size := by omega
      have i2 : i < ys.size := by omega
      rw [List.drop_eq_getElem_cons il] at er
      injection er with epq erest
      have ep : p = xs[i] := by simpa using congrArg Prod.fst epq
      have eq : q = ys[i] := by simpa using congrArg Prod.snd epq
      subst ep eq
      rw [show (List.range (min xs.size ys.size)).drop i = i :: (List.range (min xs.size ys.size)).drop (i + 1) from by simp [List.drop_eq_getElem_cons, im], List.all_cons] at hr
      refine wpAny_bind (ge i i1 i2 _ _ ?_)
      cases hf : f i with
      | true =>
        rw [hf] at hr
        wp_walk
        exact ⟨rfl, rfl, i + 1, erest, by simpa using hr⟩
      | false =>
        rw [hf] at hr
        wp_walk
        exact ⟨_, rfl, by simpa using hr⟩
    case fin =>
      rintro ⟨c1, c2⟩ s' ⟨hc, rfl, i, er, hr⟩
      simp only at hc
      subst hc
      have ig : min xs.size ys.size ≤ i := by
        rcases Nat.lt_or_ge i (xs.toList.zip ys.toList).length with z | z
        · rw [List.drop_eq_getElem_cons z] at er; cases er
        · exact hz ▸ z
      rw [List.drop_of_length_le (by simpa using ig)] at hr
      wp_walk
      exact ⟨_, rfl, by simpa [Builtin.Tuple.tupleCompareSizes, bne] using hr⟩
    case h => exact ⟨rfl, rfl, 0, rfl, by simpa using gr⟩
theorem rcne_tuples {A : Around} {s : Shared} {E : Value → Shared → Prop} {a1 a2 : Addr} {xs ys : Array Value} {f : Nat → Bool} {Q : Value → Shared → Prop} (g1 : s.heap.IsTuple a1 xs) (g2 : s.heap.IsTuple a2 ys) (hu : A.units < cLine)
    (ge : ∀ j (h1 : j < xs.size) (h2 : j < ys.size), EqIn P w A.in1 s xs[j] ys[j] (f j)) (h : Q (.bool (!((List.range (min xs.size ys.size)).all f && xs.size == ys.size))) s) :
    wpAny (model P w) A (richCompare .NotEq (.ref a1) (.ref a2)) Q E s := by
  obtain ⟨⟨c1, o1, d1, t1⟩, k1, e1, m1, f1⟩ := id g1
  obtain ⟨⟨c2, o2, d2, t2⟩, k2, e2, m2, f2⟩ := id g2
  simp only at e1 f1 e2 f2
  subst e1 f1 e2 f2
  have ty1 : s.TypeIs (.ref a1) "tuple" := ⟨_, k1, rfl⟩
  have ty2 : s.TypeIs (.ref a2) "tuple" := ⟨_, k2, rfl⟩
  refine wpAny_richCompare_same_room (T := "tuple") (op := .NotEq) ty1 ty2 F.slot_tuple_ne (call_meetsIn F.slot_tuple_ne ty1 F.entry_tuple_ne (F.args_tuple_ne_2 _ _) (tup_neP a1 a2 xs ys m1 m2 o1 o2 t1 t2 f) ?_) hu
  exact ⟨k1, k2, ge, show _ ≠ Value.notImplemented ∧ Q _ s from ⟨(fun z => nomatch z), h⟩⟩
end
section
open PySem.W
variable {P : Program} {w : World} {κ : Type} [DecidableEq κ] {knd : KeyKind P w κ}
theorem rcne_dicts {A : Around} {E : Value → Shared → Prop} {s : Shared} {a b : Addr} {ka kb : List (κ × Value)} {r : Bool} {Q : Value → Shared → Prop} (ma : (a == sysModules) = false) (mb : (b == sysModules) = false)
    (qa : s.heap.DictOf knd a ka) (qb : s.heap.DictOf knd b kb) (hu : A.units < cLine) (hits : ka.length = kb.length → KeqHitsIn P w A.in1 s kb ka r) (h : Q (.bool (!(ka.length == kb.length && r))) s) :
    wpAny (model P w) A (richCompare .NotEq (.ref a) (.ref b)) Q E s := by
  refine wpAny_richCompare_same_room (op := .NotEq) qa.typeIs qb.typeIs F.slot_dict_ne (wpAny_call_entry F.slot_dict_ne qa.typeIs F.entry_dict_ne ?_ (F.args_dict_ne_2 _ _)) hu
  show wpAny _ _ (Builtin.Dict.dictSlotArgs "__ne__" _ >>= _) _ _ s
  refine wpAny_bind ?_
  unfold Builtin.Dict.dictSlotArgs
  refine wpAny_bind (wpAny_notOrdered_dict qa.typeIs (wpAny_pure ?_))
  refine wpAny_bind (wpAny_isInstance (T := "dict") qb.typeIs F.sub_dict_dict ?_)
  rw [Bool.not_true, if_neg Bool.false_ne_true]
  refine wpAny_bind (wpAny_pure (wpAny_bind (wpAny_pure (wpAny_bind (keq_samePairsIn ma mb qa qb hits ?_)))))
  exact wpAny_pure ⟨_, rfl, (fun z => nomatch z), by simpa using h⟩
end
section
variable {X : Cx} {pins : List (Addr × Obj)} {σ : L2.St} {H : Hp} {s : Shared}
theorem rcne_run (I : Inv X pins σ H s) {n : Nat} {A : Around} (hu : A.units < cLine) (q : EqNs (X := X) (H := H) (s := s) n A.in1) {x y : V} {v u : Value} {a b : PyData} {r : Bool} (ha : Rp X.KW H x a) (hb : Rp X.KW H y b) (rx : RelV x v) (ry : RelV y u) (nf : ¬ (flat a && flat b) = true) (nl : ∀ xs, a ≠ .list xs) (h : deq (n + 1) a b = some r)
    (E Q : Value → Shared → Prop) (hq : Q (.bool (!r)) s) : wpAny (model X.prog X.w) A (richCompare .NotEq v u) Q E s := by
  unfold deq at h
  rw [if_neg nf] at h
  split at h
  · exact absurd rfl (nl _)
  · split at h
    · rename_i hl
      cases ha with
      | tup a1 b1 =>
        cases hb with
        | tup a2 b2 =>
          obtain ⟨us, r1, p1, _⟩ := I.tuple a1.sqT
          obtain ⟨ws, r2, p2, _⟩ := I.tuple a2.sqT
          obtain ⟨e, f1, f2, f3⟩ := zip_run q b1 b2 r1 r2 hl h
          cases rx
          cases ry
          refine rcne_tuples (f := e) p1 p2 hu (fun j h1 h2 => ?_) ?_
          · simpa using f1 j (by simpa using h1) (by simpa using h2)
          · have e1 : (us.toArray).size = us.length := by simp
            have e2 : (ws.toArray).size = us.length := by simp [f3]
            rw [e1, e2, Nat.min_self, f2, beq_self_eq_true, Bool.and_true]; exact hq
    · cases h
  · split at h
    · rename_i ht
      cases ha with
      | dT a1 b1 => exact absurd ht.1 (by simp [isT])
      | dK a1 b1 =>
        cases hb with
        | dT a2 b2 => exact absurd ht.2 (by simp [isT])
        | dK a2 b2 =>
          obtain ⟨_, ya, va, r1, da⟩ := objK I a1
          obtain ⟨_, yb, vb, r2, db⟩ := objK I a2
          cases rx
          cases ry
          have l1 : va.length = _ := r1.length.symm.trans b1.length
          have l2 : vb.length = _ := r2.length.symm.trans b2.length
          split at h
          · rename_i hl
            refine rcne_dicts (knd := mixKind X.prog X.w) (r := r) ya yb da db hu (fun _ => hitsK q b2 r2 b1 r1 h) ?_
            rw [l1, l2, hl, beq_self_eq_true, Bool.true_and]; exact hq
          · rename_i hl
            cases h
            refine rcne_dicts (knd := mixKind X.prog X.w) (r := true) ya yb da db hu (fun z => absurd (l1.symm.trans (z.trans l2)) hl) ?_
            rw [l1, l2, show (_ == _) = false from beq_eq_false_iff_ne.mpr hl, Bool.false_and]; exact hq
    · cases h
  · cases h
end
def oNeD : Op
  | [(a, _), (b, _)] => if notLst a then (deq 8 a b).map fun r => (.bool (!r), .im) else none
  | _ => none
where notLst : PyData → Bool
  | .list _ => false
  | _ => true
section
variable {X : Cx}
theorem so_neD (hu : X.A.units + 200 < cLine) : OpR X (compareOp .NotEq) (fun x y => rV X.KW oNeD [x, y]) := by
  intro pins s σ H x y v u Q I rx ry h
  obtain ⟨B, Gb, G, σ1, env, W, d1, k1, d2, k2, d, k, S, h1, h2, ap, e, c⟩ := rV.two h
  simp only [oNeD] at e
  split at e
  · rename_i hn
    rw [Option.map_eq_some_iff] at e
    obtain ⟨r, e, e2⟩ := e
    cases e2
    by_cases nf : (flat d1 && flat d2) = true
    · unfold deq at e
      rw [if_pos nf] at e
      cases e
      rw [Bool.and_eq_true] at nf
      have q1 := flat_shaped (h1.rp S) nf.1
      have q2 := flat_shaped (h2.rp S) nf.2
      exact op_neD (by omega) pins s σ H x y v u Q I rx ry ⟨_, _, q1.1, q2.1, q1.2, q2.2, c.bool S⟩
    · exact rcne_run (n := 7) I (by omega) (eq_run I 7 X.A.in1 (by show X.A.units + 1 + 7 + 64 < cLine; omega)) (h1.rp S) (h2.rp S) rx ry nf (fun xs z => by subst z; exact absurd hn (by simp [oNeD.notLst])) e _ _ ⟨.bl (!r), H, I, rfl, c.bool S⟩
  · cases e
end
end PX

namespace PX
open PySem PySem.Spec PyProof.Rows L2
/-! ### [.. for k in d], d a dict of this def's own: locked while the row is made -/
section
variable {K : FW} {B Gb G H : Hp} {σ : L2.St} {env : SEnv} {W : List Int} {v : V} {d : PyData}
def ReFit (K : FW) (G : Hp) (o : HO) : Sl → Prop
  | .ow d => RpO K G o d
  | .lk od u d => o = .frz od u ∧ RpO K G u d ∧ ∃ es, d = .dict es
  | _ => False
theorem Sta.reslot (S : Sta K B Gb G H σ env W) {i : Nat} {p : Addr} {o : HO} {s0 s1 : Sl} (e : env[i]? = some s0) (h0 : s0.own = true) (hp : σ[i]? = some (some (V.ref p))) (f : ReFit K G o s1) :
    Sta K B Gb G (upd H p o) σ (env.set i s1) W := by
  have me : Own env σ i p := ⟨⟨_, e, h0⟩, hp⟩
  obtain ⟨h2, h3, _⟩ := S.own_at me
  have keep : ∀ (X : Hp), X p = none → Same X H → Same X (upd H p o) := fun X hx s a u q => by
    rw [upd_ne (ne_of_none q hx)]
    exact s _ _ q
  have ow' : ∀ {j q}, Own (env.set i s1) σ j q → Own env σ j q := fun {j q} ⟨⟨t, e1, o1⟩, q1⟩ => by
    rcases get_set e1 with ⟨rfl, rfl⟩ | ⟨ne, e1⟩
    · exact ⟨⟨_, e, h0⟩, q1⟩
    · exact ⟨⟨t, e1, o1⟩, q1⟩
  have other : ∀ {j q}, j ≠ i → Own env σ j q → q ≠ p := fun ne h z => ne (S.sep _ i p (z ▸ h) me)
  exact {
    sg := keep G h2 S.sg
    sb := keep B h3 S.sb
    sgb := S.sgb
    gb := S.gb
    len := by rw [List.length_set]; exact S.len
    pl := fun j d e => by
      rcases get_set e with ⟨_, z⟩ | ⟨ne, e⟩
      · cases z; exact (show False from f).elim
      · exact S.pl j d e
    ow := fun j d e' => by
      rcases get_set e' with ⟨rfl, z⟩ | ⟨ne, e'⟩
      · cases z
        exact ⟨p, o, hp, h2, h3, upd_same, f⟩
      · obtain ⟨q, u, a1, a2, a3, a4, a5⟩ := S.ow j d e'
        exact ⟨q, u, a1, a2, a3, by rw [upd_ne (other ne ⟨⟨_, e', rfl⟩, a1⟩)]; exact a4, a5⟩
    lk := fun j od o' d e' => by
      rcases get_set e' with ⟨rfl, z⟩ | ⟨ne, e'⟩
      · cases z
        obtain ⟨f1, f2, f3⟩ := f
        exact ⟨p, hp, h2, h3, by rw [upd_same, f1], f2, f3⟩
      · obtain ⟨q, a1, a2, a3, a4, a5⟩ := S.lk j od o' d e'
        exact ⟨q, a1, a2, a3, by rw [upd_ne (other ne ⟨⟨_, e', rfl⟩, a1⟩)]; exact a4, a5⟩
    wd := fun j e' => by
      rcases get_set e' with ⟨rfl, z⟩ | ⟨ne, e'⟩
      · cases z; exact (show False from f).elim
      · obtain ⟨q, l, ns, k, a1, a2, a3, a4, a5⟩ := S.wd j e'
        exact ⟨q, l, ns, k, a1, a2, a3, by rw [upd_ne (other ne ⟨⟨_, e', rfl⟩, a1⟩)]; exact a4, a5⟩
    sc := fun j ns e => by
      rcases get_set e with ⟨_, z⟩ | ⟨ne, e⟩
      · cases z; exact (show False from f).elim
      · exact S.sc j ns e
    one := fun j k e1 e2 => by
      rcases get_set e1 with ⟨_, z⟩ | ⟨_, e1⟩
      · cases z; exact (show False from f).elim
      · rcases get_set e2 with ⟨_, z⟩ | ⟨_, e2⟩
        · cases z; exact (show False from f).elim
        · exact S.one j k e1 e2
    sep := fun j k q h1 h2 => S.sep j k q (ow' h1) (ow' h2) }
end
def iKeyL (i : Nat) : Ci := fun env W => match env[i]? with
  | some (.lk _ _ (.dict es)) => if isT es = false ∧ es.length ≤ 16777216 then some (keysD es, .pk i, W) else none
  | _ => none
open Classical in
noncomputable def cLcO (i : Nat) (t : Tg) (c : Ct) (e : Ex) (vs : List Nat) : Ex := fun env W => match env[i]? with
  | some (.ow (.dict es)) => if noOwn env vs = true ∧ isT es = false ∧ es.length ≤ 16777216 then
      (if h : ∃ q, ∀ od o, lcL t c e (keysD es) (wipeE (env.set i (.lk od o (.dict es))) vs) W = some q then some (.list h.choose.1, .fr, h.choose.2) else none) else none
  | _ => none
theorem cLcO_eq {i : Nat} {t : Tg} {c : Ct} {e : Ex} {vs : List Nat} {env : SEnv} {W : List Int} {es : List (PyData × PyData)} {q : List PyData × List Int} (he : env[i]? = some (.ow (.dict es))) (hn : noOwn env vs = true) (ht : isT es = false) (hl : es.length ≤ 16777216)
    (h : ∀ od o, lcL t c e (keysD es) (wipeE (env.set i (.lk od o (.dict es))) vs) W = some q) : cLcO i t c e vs env W = some (.list q.1, .fr, q.2) := by
  have hx : ∃ q, ∀ od o, lcL t c e (keysD es) (wipeE (env.set i (.lk od o (.dict es))) vs) W = some q := ⟨q, h⟩
  unfold cLcO
  rw [he]
  dsimp only
  rw [if_pos ⟨hn, ht, hl⟩, dif_pos hx]
  have := (hx.choose_spec ⟨.none, none, .plain, #[]⟩ (.lst [])).symm.trans (h _ _)
  rw [Option.some.inj this]
section
variable {K : FW} {B Gb G H : Hp} {σ : L2.St} {env : SEnv} {W : List Int} {a : Addr} {kvs : List (Key × V)}
theorem keys_ofL {R : It → Hp → Prop} {i : Nat} (q : tI K (iKeyL i) σ H R) : iKeys (tVar i) σ H R := by
  obtain ⟨B, Gb, G, env, W, ds, k, W', S, e, c⟩ := q
  unfold iKeyL at e
  split at e
  · rename_i od o es he
    split at e
    · rename_i hnt
      cases e
      obtain ⟨a, h1, h2, h3, h4, h5, _⟩ := S.lk i _ _ _ he
      cases o <;> first | exact (show False from h5).elim | skip
      · rename_i kvs
        have rd : RpD K G kvs es := h5
        refine ⟨_, h1, a, od, rfl, .inl ⟨kvs, h4, c (Itk a od kvs) G H (fun G2 H2 => H2 a = some (.frz od (.dK kvs)) ∧ RpD K G2 kvs es) (Same.refl _) S ?_ ?_ ?_⟩⟩
        · refine ⟨fun j G2 H2 hj hc => ?_, fun G2 H2 hc => ?_, fun j G2 H2 x H3 hj hc hy => ?_⟩
          · exact ⟨hc.1, by have := hc.2.length; unfold keysD at hj; rw [List.length_map] at hj; omega⟩
          · exact ⟨hc.1, by have := hc.2.length; unfold keysD; rw [List.length_map]; omega⟩
          · obtain ⟨rfl, k, v, hk, rfl⟩ := hy
            obtain ⟨d, q1, q2⟩ := hc.2.keys' j k v hk
            exact ⟨d, q1, .inl ⟨rfl, q2⟩⟩
        · intro B2 Gb2 G2 H2 σ2 env2 W2 s2 S2 hk
          obtain ⟨k1, k2⟩ := hk i rfl
          obtain ⟨a', g1, _, _, g4, g5, _⟩ := S2.lk i _ _ _ (k1.trans he)
          rw [k2, h1] at g1
          cases g1
          exact ⟨g4, g5⟩
        · unfold keysD
          rw [List.length_map]
          exact hnt.2
      · obtain ⟨_, _, fs, _, z, _⟩ := h5
        rw [z] at hnt
        exact absurd hnt.1 (by simp [isT])
    · cases e
  · cases e
end
theorem noOwn_not {env : SEnv} {vs : List Nat} {i : Nat} {s : Sl} (h : noOwn env vs = true) (e : env[i]? = some s) (o : s.own = true) : i ∉ vs := fun z => by
  have := List.all_eq_true.mp h i z
  rw [e] at this
  dsimp only at this
  rw [o] at this
  exact absurd this (by decide)
theorem noOwn_set {env : SEnv} {vs : List Nat} {i : Nat} {s : Sl} (h : noOwn env vs = true) (hi : i ∉ vs) : noOwn (env.set i s) vs = true := by
  refine List.all_eq_true.mpr fun j hj => ?_
  have ne : i ≠ j := fun z => hi (z ▸ hj)
  rw [List.getElem?_set_ne ne]
  exact List.all_eq_true.mp h j hj
section
variable {X : Cx} {tg elt : Expr} {ifs : List Expr} {scope : Scope} {own : List (Str × Nat)} {pos pos' : Pos} {x : Str} {i : Nat} {t : Tg} {c : Ct} {e : Ex}
theorem px_lcO (hc : X.calm = true) (hN : X.N.Nodup) (hi : X.N[i]? = some x) (ok : BlkOk X.N X.env.scope scope own)
    (hg : ∀ (s : Shared) (H : Hp) (C : Addr) (cl : List (Str × Addr)) (fp : List Addr), PGX (X.blk s H scope (compEnvC scope cl C X.env) fp) tg t (own.map (·.2))) (ht : ∀ (s : Shared) (H : Hp) (C : Addr) (cl : List (Str × Addr)) (fp : List Addr), PTsX (X.blk s H scope (compEnvC scope cl C X.env) fp) ifs c)
    (he : ∀ (s : Shared) (H : Hp) (C : Addr) (cl : List (Str × Addr)) (fp : List Addr), PX (X.blk s H scope (compEnvC scope cl C X.env) fp) elt e)
    (hv : Vis X.env.scope x := by first | exact Or.inl rfl | exact Or.inr (Or.inl rfl) | exact Or.inr (Or.inr rfl)) (hd : (x == ("__debug__" : Str)) = false := by decide) (hcd : (x == ("__classdict__" : Str)) = false := by decide) (hs : ∀ y, foldedSetIterable (.Name x pos') X.env y = pure y := by intro _; rfl) :
    PX X (.ListComp elt [⟨tg, .Name x pos', ifs, 0⟩] scope pos) (cLcO i t c e (own.map (·.2))) := by
  have core := pe_lc (g := tG X.KW t (own.map (fun p : Str × Nat => p.2))) (tt := tT X.KW c) (te := tE X.KW e) (elt := elt) (pos := pos) hc hN (pi_keys (pe_var (pos := pos') hi hv hd hcd)) ok (fun s H C cl fp => (hg s H C cl fp).pg) ht he hs
  refine PE.imp (pe_lock core) fun σ H Q q => ?_
  have okk := (hg X.s_0 H 0 [] []).ok
  obtain ⟨B, Gb, G, env, W, d, k, W', S, ev, cont⟩ := q
  unfold cLcO at ev
  split at ev
  · rename_i es hes
    split at ev
    · rename_i hcond
      obtain ⟨hno, hT, hL⟩ := hcond
      split at ev
      · rename_i hx
        cases ev
        have hq := hx.choose_spec
        obtain ⟨p, o, h1, h2, h3, h4, h5⟩ := S.ow i _ hes
        have hni := noOwn_not hno hes rfl
        cases o <;> first | exact (show False from h5).elim | skip
        · rename_i kvs
          have rd : RpD X.KW G kvs es := h5
          refine ⟨p, .dK kvs, h4, trivial, fun od => ?_⟩
          have S1 := S.reslot (o := .frz od (.dK kvs)) (s1 := .lk od (.dK kvs) (.dict es)) hes rfl h1 ⟨rfl, rd, es, rfl⟩
          have e1 : (env.set i (.lk od (.dK kvs) (.dict es)))[i]? = some (.lk od (.dK kvs) (.dict es)) := List.getElem?_set_self (List.getElem?_eq_some_iff.mp hes).1
          have ev1 : cLc (iKeyL i) t c e (own.map (·.2)) (env.set i (.lk od (.dK kvs) (.dict es))) W = some (.list hx.choose.1, .fr, hx.choose.2) := by
            unfold cLc
            rw [if_pos (noOwn_set hno hni)]
            have : iKeyL i (env.set i (.lk od (.dK kvs) (.dict es))) W = some (keysD es, .pk i, W) := by unfold iKeyL; rw [e1]; exact if_pos ⟨hT, hL⟩
            rw [this, Option.bind_some]
            dsimp only
            rw [if_pos (by simpa [kOk] using hni), hq od (.dK kvs)]
            rfl
          have q0 : tE X.KW (cLc (iKeyL i) t c e (own.map (·.2))) σ (upd H p (.frz od (.dK kvs))) (fun v H' => H' p = some (.frz od (.dK kvs)) ∧ Q v (upd H' p (.dK kvs))) := by
            refine ⟨B, Gb, G, _, W, _, _, _, S1, ev1, fun v G2 H2 s2 S2 h2' => ?_⟩
            obtain ⟨p', g1, g2, g3, g4, g5, _⟩ := S2.lk i _ _ _ e1
            rw [h1] at g1
            cases g1
            refine ⟨g4, ?_⟩
            have S3 := S2.reslot (o := .dK kvs) (s1 := .ow (.dict es)) e1 rfl h1 g5
            have e2 : (env.set i (.lk od (.dK kvs) (.dict es))).set i (.ow (.dict es)) = env := by
              rw [List.set_set]
              refine List.ext_getElem? fun j => ?_
              by_cases ne : j = i
              · subst ne; rw [List.getElem?_set_self (List.getElem?_eq_some_iff.mp hes).1, hes]
              · rw [List.getElem?_set_ne (Ne.symm ne)]
            rw [e2] at S3
            refine cont v G2 _ s2 S3 ?_
            obtain ⟨r, ro, rfl, r1, r2, r3, r4, r5⟩ := h2'
            have np : r ≠ p := fun z => r5 i ⟨⟨_, e1, rfl⟩, by rw [z]; exact h1⟩
            refine ⟨r, ro, rfl, r1, r2, by rw [upd_ne np]; exact r3, r4, fun j ho => r5 j ?_⟩
            obtain ⟨⟨s', es', os'⟩, q'⟩ := ho
            by_cases ne : j = i
            · subst ne; exact ⟨⟨_, e1, rfl⟩, q'⟩
            · exact ⟨⟨s', by rw [List.getElem?_set_ne (Ne.symm ne)]; exact es', os'⟩, q'⟩
          exact keys_ofL (lc_step okk q0)
        · obtain ⟨_, _, fs, _, z, _⟩ := h5
          rw [z] at hT
          exact absurd hT (by simp [isT])
      · cases ev
    · cases ev
  · cases ev
end
/-! ### xs.insert(i, e) -/
def sIns (i : Nat) (fk f : Ex) : Sx := fun env W => (fk env W).bind fun a => (f env a.2.2).bind fun r => match a.1, env[i]? with
  | .int n, some (.ow (.list ds)) => if esc r.2.1 = true ∧ ds.length < 16777216 ∧ 0 ≤ n ∧ n ≤ 16777216 then some (.nx (env.set i (.ow (.list (ds.take n.toNat ++ [r.1] ++ ds.drop n.toNat)))) r.2.2) else none
  | _, _ => none
section
variable {X : Cx} {a b : Expr} {fk f : Ex} {pos : Pos}
theorem psx_ins {o : Expr} {i : Nat} {apos cpos : Pos} (ho : PX X o (cVar i)) (hk : PX X a fk) (he : PX X b f)
    (hbase : attributeBase o "insert" X.env (eval o X.env) = eval o X.env := by rfl)
    (hfew : ((backTo cpos (starEach [a, b] X.env)).all (fun x => !x.1) && (backToKw cpos (keywordEach [] X.env)).all (fun x => x.1.isSome)
      && decide (([a, b] : List Expr).length + ([] : List Keyword).length + (if ([] : List Keyword).isEmpty then 0 else 1) < 30)) = true := by rfl)
    (hline : (apos.endLine == cpos.line) = true := by rfl) (hs : starEach [a, b] X.env = (false, eval a X.env) :: starEach [b] X.env := by rfl) (hs2 : starEach [b] X.env = (false, eval b X.env) :: starEach [] X.env := by rfl) (hplain : (backTo cpos (starEach [b] X.env)).any (·.1) = false := by rfl)
    (hsw : swapsWith (.Call (.Attribute o "insert" apos) [a, b] [] cpos) none pos.line X.env = pure false := by rfl) : PSX X (.Expr (.Call (.Attribute o "insert" apos) [a, b] [] cpos) pos) (sIns i fk f) :=
  PS.imp (ps_expr (pe_bm PySem.F.plainAttrs_list PySem.F.slot_list_insert PySem.F.type_list_insert mt_insert ho (pxs_cons hk (pxs_cons he pxs_nil hs2) hs) hbase hfew hline hs hplain) hsw) fun D σ H q => by
  obtain ⟨B, Gb, G, env, W, o, S, e, p⟩ := q
  unfold sIns at e
  rw [Option.bind_eq_some_iff] at e
  obtain ⟨⟨dk, kk, W1⟩, e1, e⟩ := e
  rw [Option.bind_eq_some_iff] at e
  obtain ⟨⟨dv, kv, W2⟩, e2, e⟩ := e
  dsimp only at e e2
  split at e
  · rename_i n ds ed
    split at e
    · rename_i hc
      cases e
      have ev : cVar i env W = some (.list ds, .pk i, W) := by unfold cVar; rw [ed]
      refine ⟨B, Gb, G, env, W, _, _, W, S, ev, fun v1 G1 H1 s1 S1 h1 => ?_⟩
      obtain ⟨x, xs, rfl, hx, rx⟩ := h1.list S1
      refine ⟨.inl ⟨rfl, xs, .of hx⟩, B, Gb, G1, env, W, [(.int n, kk), (dv, kv)], W2, S1, by simp only [cArgs, e1, e2, Option.bind_some, Option.map_some], fun vs G2 H2 s2 S2 p2 => ?_⟩
      match vs, p2 with
      | [u, v], p2 =>
        have hu : u = .int n := p2.1.int S2
        subst hu
        obtain ⟨G3, s3, S3, rv, _⟩ := freeze1 S2 p2.2.2.1 hc.1
        obtain ⟨qa, ob, b1, b2, b3, b4, b5⟩ := S3.ow i _ ed
        have ex : qa = x := by
          have := h1.1
          rw [b1] at this
          cases this
          rfl
        subst ex
        cases ob <;> first | exact b5.elim | skip
        rename_i ys
        have b5 : RpL X.KW G3 ys ds := b5
        exact ⟨qa, ys, n, v, rfl, rfl, b4, by rw [sizeLine_eq, b5.length]; exact hc.2.1, hc.2.2.1, by omega, p σ G3 _ ((s1.trans s2).trans s3) (S3.change (o := .lst (ys.take n.toNat ++ [v] ++ ys.drop n.toNat)) ed b1 (((b5.take n.toNat).append (.single rv)).append (b5.drop n.toNat)))⟩
    · cases e
  · cases e
end
end PX

namespace PX
open PySem PySem.Spec PyProof.Rows L2
/-! ### loops over dicts with texts as keys -/
section
variable {env : SEnv} {W W1 W2 : List Int} {i : Nat} {ns : List Str} {f : Str → PyData} {t : Tg} {c : Ct} {e fk fv : Ex} {k1 k2 : Kd} {vs : List Nat} {s2 : Sx} {Q : Ou → Prop} {d : PyData}
theorem keysD_S (ns : List Str) (f : Str → PyData) : keysD (ns.map fun x => (PyData.str x, f x)) = ns.map PyData.str := by
  unfold keysD
  rw [List.map_map]
  rfl
theorem fwKey (h : env[i]? = some (.pl (dS ns f))) (hl : ns.length ≤ 16777216) : iKey i env W = some (ns.map PyData.str, .im, W) := by
  unfold iKey
  rw [h]
  show (if _ then _ else _) = _
  rw [if_pos ⟨isT_S ns f, by rw [List.length_map]; exact hl⟩, keysD_S]
theorem fwVarL {od : Obj} {o : HO} (h : env[i]? = some (.lk od o d)) : cVar i env W = some (d, .pk i, W) := by unfold cVar; rw [h]
/-- [g(k) for k in d], d this def's own -/
theorem fwLcO {q : List PyData × List Int} (he : env[i]? = some (.ow (dS ns f))) (hn : noOwn env vs = true) (hl : ns.length ≤ 16777216) (h : ∀ od o, lcL t c e (ns.map PyData.str) (wipeE (env.set i (.lk od o (dS ns f))) vs) W = some q) : cLcO i t c e vs env W = some (.list q.1, .fr, q.2) :=
  cLcO_eq he hn (isT_S ns f) (by rw [List.length_map]; exact hl) fun od o => by rw [keysD_S]; exact h od o
theorem fwLcD (r : Str → PyData) (he : env[i]? = some (.pl (dS ns f))) (hn : noOwn env vs = true) (hl : ns.length ≤ 16777216) (h : ∀ x ∈ ns, ∃ e1 kd, t (.str x) (wipeE env vs) = some e1 ∧ e e1 W = some (r x, kd, W) ∧ esc kd = true) : cLc (iKey i) t kTrue e vs env W = some (.list (ns.map r), .fr, W) :=
  fwLc hn (fwKey he hl) rfl (lcL_map PyData.str r ns h)
/-- d[k] += n -/
theorem ru_daugS {g : Str → Int} {x : Str} {y : Int} (ho : env[i]? = some (.ow (dS ns fun z => .int (g z)))) (hx : x ∈ ns) (ek : fk env W = some (.str x, .im, W1)) (ev : fv env W1 = some (.int y, k2, W2)) (hl : ns.length < 16777216) {op : Int → Int → Int}
    (h : Runs s2 (env.set i (.ow (dS ns fun z => .int (if z = x then op (g z) y else g z)))) W2 Q) : Runs (sSeq (sDAug i fk op fv) s2) env W Q := ru_seq (by
  unfold sDAug
  rw [ho]
  dsimp only [dS]
  rw [ek, Option.bind_some]
  dsimp only
  rw [ents_S, dget_S, if_pos hx]
  dsimp only
  rw [if_pos ⟨keyFit_S _ _ _, isT_S ns (fun z => .int (g z)), by rw [List.length_map]; exact hl⟩, ev]
  dsimp only
  rw [dput_S_old (f := fun z => .int (g z)) (g := fun z => .int (if z = x then op (g z) y else g z)) hx (fun z _ ne => by rw [if_neg ne]) (by rw [if_pos rfl])]) h
end
/-! ### == of such dicts -/
theorem noD_S (ns : List Str) (f : Str → PyData) : flat (dS ns f) = false := rfl
theorem allO_all : ∀ {os : List (Option Bool)}, (∀ o ∈ os, o = some true) → allO os = some true
  | [], _ => rfl
  | o :: os, h => by
    rw [h o (by simp)]
    show (allO os).map _ = _
    rw [allO_all fun p hp => h p (by simp [hp])]
    rfl
theorem deq_S {n : Nat} {ns ms : List Str} {f g : Str → PyData} (hl : ns.length = ms.length) (h : ∀ x ∈ ns, x ∈ ms ∧ flat (f x) = true ∧ flat (g x) = true ∧ PyData.eqv (f x) (g x) = true) : deq (n + 2) (dS ns f) (dS ms g) = some true := by
  unfold deq
  rw [noD_S, Bool.false_and, if_neg Bool.false_ne_true]
  show (if _ then (if _ then _ else _) else _) = _
  rw [if_pos ⟨isT_S ns f, isT_S ms g⟩, if_pos (by rw [List.length_map, List.length_map]; exact hl), List.map_map]
  refine allO_all fun o ho => ?_
  obtain ⟨x, hx, rfl⟩ := List.mem_map.mp ho
  obtain ⟨h1, h2, h3, h4⟩ := h x hx
  show (match dget (ms.map fun x => (PyData.str x, g x)) (.str x) with | none => some false | some y => deq (n + 1) (f x) y) = _
  rw [dget_S, if_pos h1]
  show deq (n + 1) (f x) (g x) = _
  unfold deq
  rw [h2, h3, Bool.true_and, if_pos rfl, h4]
theorem neD_S {ns ms : List Str} {f g : Str → PyData} (hl : ns.length = ms.length) (h : ∀ x ∈ ns, x ∈ ms ∧ flat (f x) = true ∧ flat (g x) = true ∧ PyData.eqv (f x) (g x) = true) (k k' : Kd) : oNeD [(dS ns f, k), (dS ms g, k')] = some (.bool false, .im) := by
  show (if oNeD.notLst (dS ns f) = true then (deq 8 (dS ns f) (dS ms g)).map (fun r => ((PyData.bool (!r), Kd.im) : Dk)) else none) = _
  rw [if_pos (show oNeD.notLst (dS ns f) = true from rfl), deq_S hl h]
  rfl
/-- rows of such dicts -/
theorem neD_SS {α : Type} (as : List α) {F G : α → PyData} (hF : ∀ a, flat (F a) = false) (h : ∀ a ∈ as, deq 7 (F a) (G a) = some true) (k k' : Kd) : oNeD [(.tuple (as.map F), k), (.tuple (as.map G), k')] = some (.bool false, .im) := by
  show (if oNeD.notLst (.tuple (as.map F)) = true then (deq 8 (.tuple (as.map F)) (.tuple (as.map G))).map (fun r => ((PyData.bool (!r), Kd.im) : Dk)) else none) = _
  rw [if_pos (show oNeD.notLst (.tuple (as.map F)) = true from rfl)]
  suffices q : deq 8 (.tuple (as.map F)) (.tuple (as.map G)) = some true by rw [q]; rfl
  cases as with
  | nil => rfl
  | cons a r =>
    have nf : flat (.tuple ((a :: r).map F)) = false := by
      have := hF a
      unfold flat at this ⊢
      rw [Bool.and_eq_false_iff] at this ⊢
      rcases this with z | z
      · left; simp [noD, noDs, z]
      · right
        rw [decide_eq_false_iff_not] at z ⊢
        intro q
        refine z (Nat.le_trans ?_ q)
        simp only [List.map_cons, PyData.depth, PyData.depthAll]
        omega
    unfold deq
    rw [nf, Bool.false_and, if_neg Bool.false_ne_true]
    dsimp only
    rw [if_pos (by simp)]
    generalize a :: r = xs at h
    clear nf
    induction xs with
    | nil => rfl
    | cons b s ih =>
      rw [List.map_cons, List.map_cons, List.zipWith_cons_cons, h b (by simp)]
      show (allO _).map _ = _
      rw [ih fun y hy => h y (by simp [hy])]
      rfl
/-! ### sorting texts -/
def leS (a b : Str) : Prop := a.cps.toList ≤ b.cps.toList
theorem leS_trans {a b c : Str} (h : leS a b) (k : leS b c) : leS a c := List.le_trans h k
theorem leS_total (a b : Str) : leS a b ∨ leS b a := List.le_total _ _
theorem leS_antisymm {a b : Str} (h : leS a b) (k : leS b a) : a = b := by
  have e := List.le_antisymm h k
  obtain ⟨a⟩ := a
  obtain ⟨b⟩ := b
  have : a = b := Array.toList_inj.mp e
  rw [this]
theorem le_str (a b : Str) : PySem.W.dataLe false id (.str a) (.str b) = true ↔ leS a b := by
  have := congrFun (congrFun (PySem.W.dataLe_str (fun x : Str => x)) a) b
  rw [show PySem.W.dataLe false id (.str a) (.str b) = PySem.W.dataLe false (fun x : Str => PyData.str x) a b from rfl, this, decide_eq_true_eq]
  rfl
theorem sortS_pw (xs : List Str) : (sortS xs).Pairwise leS := by
  unfold sortS
  have := List.pairwise_mergeSort (le := fun a b : Str => PySem.W.dataLe false id (.str a) (.str b)) (fun a b c h1 h2 => (le_str a c).mpr (leS_trans ((le_str a b).mp h1) ((le_str b c).mp h2)))
    (fun a b => by
      rcases leS_total a b with h | h
      · rw [(le_str a b).mpr h]; rfl
      · rw [(le_str b a).mpr h, Bool.or_true]) xs
  exact this.imp fun h => (le_str _ _).mp h
theorem sortS_of {xs ys : List Str} (p : ys.Perm xs) (h : ys.Pairwise leS) : sortS xs = ys :=
  List.Perm.eq_of_pairwise (fun a b _ _ h1 h2 => leS_antisymm h1 h2) (sortS_pw xs) h ((sortS_perm xs).trans p.symm)
theorem sortS_eq {xs ys : List Str} (p : xs.Perm ys) : sortS xs = sortS ys := sortS_of ((sortS_perm ys).trans p.symm) (sortS_pw ys)
theorem sortS_mem {xs : List Str} {x : Str} : x ∈ sortS xs ↔ x ∈ xs := (sortS_perm xs).mem_iff
theorem sortS_nodup {xs : List Str} (h : xs.Nodup) : (sortS xs).Nodup := (sortS_perm xs).nodup_iff.mpr h
theorem sortS_len (xs : List Str) : (sortS xs).length = xs.length := (sortS_perm xs).length_eq
theorem sortS_id {xs : List Str} (h : xs.Pairwise leS) : sortS xs = xs := sortS_of (List.Perm.refl _) h
/-! ### sorting pairs of a number and a text -/
def Qs (r : Str → Int) (x : Str) : PyData := .tuple [.int (r x), .str x]
/-- the order of (r(x), x) -/
def leP (r : Str → Int) (a b : Str) : Prop := r a < r b ∨ (r a = r b ∧ leS a b)
theorem leP_trans {r : Str → Int} {a b c : Str} (h : leP r a b) (k : leP r b c) : leP r a c := by
  rcases h with h | ⟨h, h'⟩ <;> rcases k with k | ⟨k, k'⟩
  · exact .inl (by omega)
  · exact .inl (by omega)
  · exact .inl (by omega)
  · exact .inr ⟨by omega, leS_trans h' k'⟩
theorem leP_total (r : Str → Int) (a b : Str) : leP r a b ∨ leP r b a := by
  rcases Int.lt_trichotomy (r a) (r b) with h | h | h
  · exact .inl (.inl h)
  · rcases leS_total a b with q | q
    · exact .inl (.inr ⟨h, q⟩)
    · exact .inr (.inr ⟨h.symm, q⟩)
  · exact .inr (.inl h)
theorem leP_antisymm {r : Str → Int} {a b : Str} (h : leP r a b) (k : leP r b a) : a = b := by
  rcases h with h | ⟨h, h'⟩ <;> rcases k with k | ⟨k, k'⟩
  · omega
  · omega
  · omega
  · exact leS_antisymm h' k'
theorem le_Qs (r : Str → Int) (a b : Str) : PySem.W.dataLe false id (Qs r a) (Qs r b) = true ↔ leP r a b := by
  show (!PySem.W.dataLt (Qs r b) (Qs r a)) = true ↔ _
  unfold Qs
  rw [PySem.W.dataLt_pair (by simp [PySem.W.alike]) (by simp [PySem.W.alike])]
  have e1 : PyData.eqv (.int (r b)) (.int (r a)) = decide (r b = r a) := PySem.W.Datum.eqv (r b) (r a)
  have e3 : PySem.W.dataLt (.int (r b)) (.int (r a)) = decide (r b < r a) := by
    have := congrFun (congrFun (PySem.W.dataLe_int (fun x : Int => x)) (r a)) (r b)
    have h2 : PySem.W.dataLe false (fun x : Int => PyData.int x) (r a) (r b) = !PySem.W.dataLt (.int (r b)) (.int (r a)) := rfl
    rw [h2] at this
    cases hq : PySem.W.dataLt (.int (r b)) (.int (r a)) with
    | true => rw [hq] at this; rw [eq_comm, decide_eq_true_eq]; simp at this; omega
    | false => rw [hq] at this; rw [eq_comm, decide_eq_false_iff_not]; simp at this; omega
  have e4 := le_str a b
  rw [show PySem.W.dataLe false id (.str a) (.str b) = !PySem.W.dataLt (.str b) (.str a) from rfl] at e4
  rw [e1, e3, eqv_str]
  unfold leP
  by_cases h1 : r b = r a
  · rw [decide_eq_true h1, if_pos rfl]
    by_cases h2 : b = a
    · subst h2
      rw [decide_eq_true rfl, if_pos rfl]
      exact ⟨fun _ => .inr ⟨rfl, List.le_refl _⟩, fun _ => rfl⟩
    · rw [decide_eq_false h2, if_neg Bool.false_ne_true, e4]
      exact ⟨fun h => .inr ⟨h1.symm, h⟩, fun h => by
        rcases h with h | h
        · omega
        · exact h.2⟩
  · rw [decide_eq_false h1, if_neg Bool.false_ne_true]
    simp only [Bool.not_eq_true', decide_eq_false_iff_not]
    exact ⟨fun h => .inl (by omega), fun h => by
      rcases h with h | h
      · omega
      · omega⟩
def sortP (r : Str → Int) (xs : List Str) : List Str := xs.mergeSort (fun a b => PySem.W.dataLe false id (Qs r a) (Qs r b))
theorem sortP_perm (r : Str → Int) (xs : List Str) : (sortP r xs).Perm xs := List.mergeSort_perm _ _
theorem sortP_pw (r : Str → Int) (xs : List Str) : (sortP r xs).Pairwise (leP r) := by
  unfold sortP
  have := List.pairwise_mergeSort (le := fun a b : Str => PySem.W.dataLe false id (Qs r a) (Qs r b)) (fun a b c h1 h2 => (le_Qs r a c).mpr (leP_trans ((le_Qs r a b).mp h1) ((le_Qs r b c).mp h2)))
    (fun a b => by
      rcases leP_total r a b with h | h
      · rw [(le_Qs r a b).mpr h]; rfl
      · rw [(le_Qs r b a).mpr h, Bool.or_true]) xs
  exact this.imp fun h => (le_Qs r _ _).mp h
theorem sortP_of {r : Str → Int} {xs ys : List Str} (p : ys.Perm xs) (h : ys.Pairwise (leP r)) : sortP r xs = ys :=
  List.Perm.eq_of_pairwise (fun a b _ _ h1 h2 => leP_antisymm h1 h2) (sortP_pw r xs) h ((sortP_perm r xs).trans p.symm)
theorem flat_Qs (r : Str → Int) (x : Str) : flat (Qs r x) = true := flat_D (α := Int × Str) (by decide) (r x, x)
theorem sortB_Qs (r : Str → Int) (xs : List Str) : sortB (xs.map (Qs r)) = true := by
  unfold sortB
  rw [Bool.and_eq_true, Bool.and_eq_true, Bool.or_eq_true]
  refine ⟨?_, ?_, .inl ?_⟩
  · rw [List.all_map]
    exact List.all_eq_true.mpr fun x _ => flat_Qs r x
  · unfold alikeB
    rw [List.all_map]
    refine List.all_eq_true.mpr fun a _ => ?_
    show ((xs.map (Qs r)).all fun e => PySem.W.alike (Qs r a) e) = true
    rw [List.all_map]
    exact List.all_eq_true.mpr fun q _ => by simp [PySem.W.alike, Qs, PySem.W.alikeAll]
  · rw [List.all_map]
    exact List.all_eq_true.mpr fun x _ => rfl
theorem sortedQs (r : Str → Int) (xs : List Str) (k : Kd) : oSorted [(.list (xs.map (Qs r)), k)] = some (.list ((sortP r xs).map (Qs r)), .fr) := by
  show (if sortB (xs.map (Qs r)) then _ else _) = _
  rw [if_pos (sortB_Qs r xs)]
  have : sortD (xs.map (Qs r)) = (sortP r xs).map (Qs r) := by
    unfold sortD sortP
    rw [List.map_mergeSort]
    intro a _ b _
    rfl
  rw [this]
end PX

namespace PX
open PySem PySem.Spec PyProof.Rows L2
/-! ### dicts written out -/
def cPairs : List (Ex × Ex) → SEnv → List Int → Option (List (PyData × PyData) × List Int)
  | [], _, W => some ([], W)
  | f :: r, env, W => (f.1 env W).bind fun a => (f.2 env a.2.2).bind fun b => if (esc a.2.1 && esc b.2.1) = true then (cPairs r env b.2.2).map fun q => ((a.1, b.1) :: q.1, q.2) else none
abbrev PP2 (K : FW) (G : Hp) : List (V × V) → List (PyData × PyData) → Prop := Paired fun p e => Rp K G p.1 e.1 ∧ Rp K G p.2 e.2
theorem PP2.mono {K : FW} {G G' : Hp} (h : Sub G G') {ps : List (V × V)} {es : List (PyData × PyData)} (r : PP2 K G ps es) : PP2 K G' ps es := Paired.mapP r fun _ _ q => ⟨Rp.mono h q.1, Rp.mono h q.2⟩
section
variable {K : FW} {B Gb G H : Hp} {σ : L2.St} {env : SEnv} {W W' : List Int}
theorem pairs_tP (fs : List (Ex × Ex)) : ∀ (G H : Hp) (W : List Int) (es : List (PyData × PyData)) (Q : List (V × V) → Hp → Prop), Sta K B Gb G H σ env W → cPairs fs env W = some (es, W') →
    (∀ ps G' H', Same G G' → Sta K B Gb G' H' σ env W' → PP2 K G' ps es → Q ps H') → tPairs (fs.map fun f => (tE K f.1, tE K f.2)) σ H Q := by
  induction fs with
  | nil =>
    intro G H W es Q S e q
    cases e
    exact q [] G H (Same.refl _) S .nil
  | cons f r ih =>
    intro G H W es Q S e q
    rw [cPairs, Option.bind_eq_some_iff] at e
    obtain ⟨⟨d1, k1, W1⟩, e1, e⟩ := e
    rw [Option.bind_eq_some_iff] at e
    obtain ⟨⟨d2, k2, W2⟩, e2, e⟩ := e
    dsimp only at e
    split at e
    · rename_i hk
      rw [Bool.and_eq_true] at hk
      rw [Option.map_eq_some_iff] at e
      obtain ⟨⟨es', W3⟩, e3, e4⟩ := e
      cases e4
      refine ⟨B, Gb, G, env, W, d1, k1, W1, S, e1, fun x G1 H1 s1 S1 h1 => ?_⟩
      obtain ⟨G2, s2, S2, r2, _⟩ := freeze1 S1 h1 hk.1
      refine ⟨B, Gb, G2, env, W1, d2, k2, W2, S2, e2, fun y G3 H3 s3 S3 h3 => ?_⟩
      obtain ⟨G4, s4, S4, r4, _⟩ := freeze1 S3 h3 hk.2
      refine ih G4 H3 W2 es' _ S4 e3 fun ps G5 H5 s5 S5 r5 => ?_
      exact q _ G5 H5 ((((s1.trans s2).trans s3).trans s4).trans s5) S5 (.cons ⟨Rp.mono (Sub.of ((s3.trans s4).trans s5)) r2, Rp.mono (Sub.of s5) r4⟩ r5)
    · cases e
/-- the object in the making takes its last form -/
theorem Sta.last {p : Addr} {o o' : HO} (S : Sta K (upd B p o) Gb G H σ env W) (hb : B p = none) (hg : G p = none) : Sta K B Gb G (upd H p o') σ env W := by
  have nB : ∀ {q : Addr}, (upd B p o) q = none → q ≠ p ∧ B q = none := fun {q} e => by
    by_cases z : q = p
    · subst z; rw [upd_same] at e; cases e
    · rw [upd_ne z] at e; exact ⟨z, e⟩
  have upH : ∀ {q : Addr} {x : HO}, q ≠ p → H q = some x → (upd H p o') q = some x := fun h e => by rw [upd_ne h]; exact e
  exact {
    sg := fun a x e => by
      rw [upd_ne (show a ≠ p from fun z => by subst z; rw [hg] at e; cases e)]
      exact S.sg _ _ e
    sb := fun a x e => by
      have z : a ≠ p := fun z => by subst z; rw [hb] at e; cases e
      rw [upd_ne z]
      exact S.sb a x (by rw [upd_ne z]; exact e)
    sgb := S.sgb
    gb := fun a x e n => by
      have z : a ≠ p := fun z => by subst z; rw [hb] at e; cases e
      exact S.gb a x (by rw [upd_ne z]; exact e) n
    len := S.len
    pl := S.pl
    ow := fun i d e => by
      obtain ⟨q, x, a1, a2, a3, a4, a5⟩ := S.ow i d e
      exact ⟨q, x, a1, a2, (nB a3).2, upH (nB a3).1 a4, a5⟩
    lk := fun i od x d e => by
      obtain ⟨q, a1, a2, a3, a4, a5⟩ := S.lk i od x d e
      exact ⟨q, a1, a2, (nB a3).2, upH (nB a3).1 a4, a5⟩
    wd := fun i e => by
      obtain ⟨q, l, ns, k, a1, a2, a3, a4, a5⟩ := S.wd i e
      exact ⟨q, l, ns, k, a1, a2, (nB a3).2, upH (nB a3).1 a4, a5⟩
    sc := S.sc
    one := S.one
    sep := S.sep }
theorem disp_core {p : Addr} {o : HO} {fs : List (Ex × Ex)} {es : List (PyData × PyData)} {d : PyData} {Q : VK} {R : List (V × V) → Hp → Prop} (S : Sta K B Gb G H σ env W) (hp : H p = none) (ho : ∀ xs, o ≠ .tup xs) {dd : PyData} (hr : ∀ G, RpO K G o dd) (e : cPairs fs env W = some (es, W')) (c : Cont K B Gb G σ env W' d .fr Q)
    (f : ∀ ps G' H', Same G G' → PP2 K G' ps es → H' p = some o → (∀ o', RpO K G' o' d → Q (.ref p) (upd H' p o')) → Same G' H' → R ps H') : tPairs (fs.map fun f => (tE K f.1, tE K f.2)) σ (upd H p o) R := by
  obtain ⟨n1, n2, n3⟩ := S.new hp
  have S1 := S.laid (o := o) hp
  have v1 : VOk K B G (upd H p o) σ env (.ref p) dd .fr := ⟨p, o, rfl, n1, n2, upd_same, hr G, n3⟩
  have S2 := S1.prot v1
  rw [prot_fr upd_same] at S2
  refine pairs_tP fs G _ W es _ S2 e fun ps G' H' s' S' r => ?_
  have hH : H' p = some o := S'.sb _ _ upd_same
  have hG : G' p = none := by
    cases q : G' p with
    | none => rfl
    | some x =>
      rcases S'.gb p o upd_same (by rw [q]; simp) with z | ⟨xs, z⟩
      · exact absurd (S.sgb.free n1) z
      · exact absurd z (ho xs)
  refine f ps G' H' s' r hH (fun o' ro => ?_) S'.sg
  exact c _ G' _ s' (S'.last n2 hG) ⟨p, o', rfl, hG, n2, upd_same, ro, n3⟩
end
def keyPairs : List (PyData × PyData) → Option (List (Key × PyData))
  | [] => some []
  | (a, b) :: r => (keyOf a).bind fun k => (keyPairs r).map ((k, b) :: ·)
theorem keyPairs_rp {K : FW} {G : Hp} : ∀ {ps : List (V × V)} {es : List (PyData × PyData)} {qs : List (Key × PyData)}, PP2 K G ps es → keyPairs es = some qs → ∃ kvs : List (Key × V), ps = kvs.map (fun kv => (kV kv.1, kv.2)) ∧ RpP K G kvs qs
  | _, _, qs, .nil, e => by cases e; exact ⟨[], rfl, .nil⟩
  | _, _, qs, @Paired.cons _ _ _ a b as bs h t, e => by
    obtain ⟨x, y⟩ := a
    obtain ⟨u, v⟩ := b
    rw [keyPairs, Option.bind_eq_some_iff] at e
    obtain ⟨k, e1, e2⟩ := e
    rw [Option.map_eq_some_iff] at e2
    obtain ⟨qs', e2, rfl⟩ := e2
    obtain ⟨kvs, rfl, r⟩ := keyPairs_rp t e2
    have ek := keyOf_eq e1
    have h1 : Rp K G x u := h.1
    subst ek
    obtain ⟨ok, rfl⟩ := keyOf_ok h1
    exact ⟨(k, y) :: kvs, rfl, .cons ok h.2 r⟩
def cDisp (fs : List (Ex × Ex)) : Ex := fun env W => (cPairs fs env W).bind fun q => (keyPairs q.1).map fun ps => (.dict (mergeE [] ps), .fr, q.2)
section
variable {X : Cx} {pos : Pos}
theorem ppx_nil : PPs X pos [] [] (([] : List (Ex × Ex)).map fun f => (tE X.KW f.1, tE X.KW f.2)) := pps_nil
theorem ppx_cons {k v : Expr} {ks : List (Option Expr)} {vs : List Expr} {fk fv : Ex} {fs : List (Ex × Ex)} (hk : PX X k fk) (hv : PX X v fv) (hr : PPs X pos ks vs (fs.map fun f => (tE X.KW f.1, tE X.KW f.2))) :
    PPs X pos (some k :: ks) (v :: vs) (((fk, fv) :: fs).map fun f => (tE X.KW f.1, tE X.KW f.2)) := pps_cons hk hv hr
theorem px_disp {keys : List (Option Expr)} {values : List Expr} {fs : List (Ex × Ex)} (h : PPs X pos keys values (fs.map fun f => (tE X.KW f.1, tE X.KW f.2))) (hall : keys.all (·.isSome) = true := by rfl) (hl : keys.length = values.length := by rfl) (h0 : keys ≠ [] := by intro z; cases z)
    (h15 : fs.length ≤ 15 := by decide) (hk15 : keys.length ≤ 15 := by decide) : PX X (.Dict keys values pos) (cDisp fs) :=
  PE.imp (pe_disp h hall hl h0 hk15) fun σ H Q q => by
    obtain ⟨B, Gb, G, env, W, d, k, W', S, e, c⟩ := q
    unfold cDisp at e
    rw [Option.bind_eq_some_iff] at e
    obtain ⟨⟨es, W1⟩, e1, e2⟩ := e
    rw [Option.map_eq_some_iff] at e2
    obtain ⟨qs, e2, e3⟩ := e2
    cases e3
    intro p hp
    refine disp_core S hp (fun _ z => nomatch z) (dd := .dict []) (fun _ => (RpD.nil : RpD _ _ [] [])) e1 c fun ps G' H' s' r hH hq _ => ?_
    obtain ⟨kvs, rfl, rr⟩ := keyPairs_rp r e2
    refine ⟨hH, kvs, rfl, ?_, hq _ (show RpO X.KW G' (.dK (mergeK [] kvs)) (.dict (mergeE [] qs)) from RpP.merge rr .nil)⟩
    have hlen : ∀ {fs : List (Ex × Ex)} {W : List Int} {es : List (PyData × PyData)} {W' : List Int}, cPairs fs env W = some (es, W') → es.length = fs.length := by
      intro fs
      induction fs with
      | nil => intro W es W' e; cases e; rfl
      | cons f fs ih =>
        intro W es W' e
        rw [cPairs, Option.bind_eq_some_iff] at e
        obtain ⟨a, _, e⟩ := e
        rw [Option.bind_eq_some_iff] at e
        obtain ⟨b, _, e⟩ := e
        split at e
        · rw [Option.map_eq_some_iff] at e
          obtain ⟨q, e4, e5⟩ := e
          cases e5
          rw [List.length_cons, List.length_cons, ih e4]
        · cases e
    have h1 := hlen e1
    have h2 := Paired.length r
    rw [List.length_map] at h2
    omega
end
/-! ### {k: v}, k a tuple -/
def tDispT (K : FW) (trs : List (TE × TE)) : TE := fun σ H Q => ∀ p, H p = none → tPairs trs σ (upd H p (HN K.w p [])) fun ps H2 => H2 p = some (HN K.w p []) ∧ ∃ (b : Addr) (kd : PyData) (k : NestedKey) (y : V), ps = [(.ref b, y)] ∧ Rp K H2 (.ref b) kd ∧ nkT kd = some k ∧ Q (.ref p) (upd H2 p (HN K.w p [(k, b, y)]))
theorem pe_dispT {X : Cx} {pos : Pos} {keys : List (Option Expr)} {values : List Expr} {trs : List (TE × TE)} (hu : X.A.units + 200 < cLine) (h : PPs X pos keys values trs) (hall : keys.all (·.isSome) = true) (hl : keys.length = values.length) (h0 : keys ≠ [])
    (h15 : keys.length ≤ 15) : PE X (.Dict keys values pos) (tDispT X.KW trs) := by
  refine ⟨fun pins s σ H Q I q => ?_⟩
  have hn := I.hok.fresh (Nat.le_refl s.heap.objs.size)
  have I1 := I.laid (a := s.heap.objs.size) (o := HN X.w s.heap.objs.size []) (h' := s.heap.push { cls := .type "dict", data := .dict #[] }) (t' := s.toks) (fun _ _ q => Heap.get?_push_of_some _ q) (Nat.le_refl _) (dn_empty s.heap I.big)
  have hlen := pairTrees_length keys values X.env pos hall hl
  have hne : pairTrees keys values X.env pos ≠ [] := fun e => by rw [e] at hlen; exact h0 (List.length_eq_zero_iff.mp hlen.symm)
  rw [arm_eval_Dict, zip_pairTrees keys values X.env pos hall hl, dictDisplay_pairs (pairTrees keys values X.env pos) hne (by omega)]
  refine wpAny_bind (wpAny_standAt (wpAny_bind (wpAny_subDictH (knd := nestedKind X.prog X.w) (show X.A.units + 8 < cLine by omega) (by omega) (wpAny_mono (h.run pins _ σ _ _ I1 (q _ hn)) (fun vs s1 h1 => ?_) fun _ _ e => e))))
  obtain ⟨ps, H2, I2, rel, hH, b, kd, k, y, rfl, hb, ek, hq⟩ := h1
  cases rel with
  | cons r1 t1 =>
    cases t1
    rename_i u
    obtain ⟨u1, u2⟩ := u
    have e1 : u1 = .ref b := r1.1
    subst e1
    obtain ⟨⟨z, hd, xs, r0, o, es, ep, ho, hx, hdt, he, hnd⟩, _⟩ := (show ObjOk X.prog X.w H2 s1.heap s.heap.objs.size (HN X.w s.heap.objs.size []) from I2.hok _ _ hH)
    cases r0
    have key := nk_at I2 hb ek
    refine ⟨[(k, b, u2)], ⟨rfl, rfl, key, trivial⟩, ⟨o, es, ep, ho, hx, hdt, he, (fun x hx => nomatch hx), hnd⟩, fun h' tk hd' hs => wpAny_pure ?_⟩
    have he' : ∃ q, h'.get? s.heap.objs.size = some q := let ⟨q, _, _, hq, _⟩ := hd'; ⟨q, hq⟩
    exact ⟨.ref s.heap.objs.size, _, d_write (t' := tk) I2 (by rw [hH]; exact True.intro) hs he' (dn_new (by rw [sizeLine_eq]; simp) hd (.cons ⟨rfl, rfl, r1.2⟩ .nil) hd'), rfl, hq⟩
def cDispT (f : Ex × Ex) : Ex := fun env W => (cPairs [f] env W).bind fun q => match q.1 with
  | [(kd, v)] => (nkT kd).map fun _ => (.dict [(.none, .none), (kd, v)], .fr, q.2)
  | _ => none
theorem px_dispT {X : Cx} {pos : Pos} {k v : Expr} {fk fv : Ex} (hu : X.A.units + 200 < cLine) (hk : PX X k fk) (hv : PX X v fv) : PX X (.Dict [some k] [v] pos) (cDispT (fk, fv)) :=
  PE.imp (pe_dispT hu (ppx_cons (fs := []) hk hv ppx_nil) rfl rfl (fun z => nomatch z) (Nat.le_of_ble_eq_true rfl)) fun σ H Q q => by
    obtain ⟨B, Gb, G, env, W, d, k, W', S, e, c⟩ := q
    unfold cDispT at e
    rw [Option.bind_eq_some_iff] at e
    obtain ⟨⟨es, W1⟩, e1, e2⟩ := e
    dsimp only at e2
    split at e2
    · rename_i kd v'
      rw [Option.map_eq_some_iff] at e2
      obtain ⟨kk, e2, e3⟩ := e2
      cases e3
      intro p hp
      refine disp_core S hp (fun _ z => nomatch z) (dd := .dict [(.none, .none)]) (fun _ => ⟨p, [], [], rfl, rfl, .nil⟩) e1 c fun ps G' H' s' r hH hq ht => ?_
      obtain ⟨_, _, ds, rfl⟩ := nkT_some e2
      cases r with
      | cons r1 t1 =>
        cases t1
        rename_i u
        obtain ⟨u1, u2⟩ := u
        have h1 : Rp X.KW G' u1 (.tuple ds) := r1.1
        have h2 : Rp X.KW G' u2 v' := r1.2
        have hb : ∃ b, u1 = .ref b := by
          cases h1 with
          | tup hzz rl => exact ⟨_, rfl⟩
        obtain ⟨b, rfl⟩ := hb
        exact ⟨hH, b, .tuple ds, kk, u2, rfl, Rp.mono (Sub.of ht) h1, e2, hq _ (show RpO X.KW G' (HN X.w p [(kk, b, u2)]) (.dict [(.none, .none), (.tuple ds, v')]) from ⟨p, _, _, rfl, rfl, .cons e2 h1 h2 .nil⟩)⟩
    · cases e2
end PX

namespace PX
open PySem PySem.Spec PyProof.Rows L2
/-! ### texts of the module, str(i), l.index(x) -/
section
variable {X : Cx} {pos : Pos}
theorem px_globS {x : Str} {s : Str} (hg : Gl X x) (hm : ∃ t, X.mg x = some (.str s t)) (hs : PyData.strOk s = true := by decide +kernel) (hd : (x == ("__debug__" : Str)) = false := by decide) : PX X (.Name x pos) (cK (.str s)) := by
  obtain ⟨t, hm⟩ := hm
  exact px_c (pe_glob (v := .str s) hg hm ⟨t, rfl⟩ hd) fun _ => .str s hs
end
def strI (i : Int) : Str := toString i
def oStr : Op
  | [(.int i, _)] => if i.natAbs.log2 < 1920 ∧ PyData.strOk (strI i) = true then some (.str (strI i), .im) else none
  | _ => none
theorem so_str {X : Cx} : CallR X (.type "str") (rV X.KW oStr) := by
  intro pins s σ H xs us Q I r h
  obtain ⟨B, Gb, G, σ1, env, W, ds, d, k, S, p, e, c⟩ := h
  unfold oStr at e
  split at e
  · match xs, p with
    | [x], p =>
      split at e
      · rename_i hn
        cases e
        have ex := p.1.int S
        subst ex
        exact call_str_int pins s σ H _ us Q I r ⟨_, rfl, hn.1, c.str S hn.2⟩
      · cases e
  · cases e
def idxD (x : PyData) (ds : List PyData) : Option Nat := ds.findIdx? fun z => PyData.eqv z x
def oIndexL : Op
  | [(.list ds, _), (d, _)] => if flat (.list ds) = true ∧ flat d = true then (idxD d ds).map fun j => (.int (j : Nat), .im) else none
  | _ => none
theorem px_index {X : Cx} {a b : Expr} {f g : Ex} {apos cpos : Pos} (hu : X.A.units + 200 < cLine) (ho : PX X a f) (hb : PX X b g)
    (hbase : attributeBase a "index" X.env (eval a X.env) = eval a X.env := by rfl)
    (hfew : ((backTo cpos (starEach [b] X.env)).all (fun x => !x.1) && (backToKw cpos (keywordEach [] X.env)).all (fun x => x.1.isSome)
      && decide (([b] : List Expr).length + ([] : List Keyword).length + (if ([] : List Keyword).isEmpty then 0 else 1) < 30)) = true := by rfl)
    (hline : (apos.endLine == cpos.line) = true := by rfl) (hs : starEach [b] X.env = (false, eval b X.env) :: starEach [] X.env := by rfl) (hplain : (backTo cpos (starEach [] X.env)).any (·.1) = false := by rfl) :
    PX X (.Call (.Attribute a "index" apos) [b] [] cpos) (cCall oIndexL [f, g]) :=
  PE.imp (pe_bm PySem.F.plainAttrs_list PySem.F.slot_list_index PySem.F.type_list_index (mt_indexD (by omega)) ho (pxs_cons hb pxs_nil hs) hbase hfew hline hs hplain) fun σ H Q q => by
    obtain ⟨B, Gb, G, env, W, d, k, W', S, e, c⟩ := q
    obtain ⟨d1, k1, W1, d2, k2, e1, e2, e3⟩ := cCall_two e
    unfold oIndexL at e3
    split at e3
    · rename_i q
      cases q
      split at e3
      · rename_i hf
        rw [Option.map_eq_some_iff] at e3
        obtain ⟨j, e4, e5⟩ := e3
        cases e5
        refine ⟨B, Gb, G, env, W, _, _, W1, S, e1, fun v1 G1 H1 s1 S1 h1 => ?_⟩
        obtain ⟨x, xs, rfl, hx, rx⟩ := h1.list S1
        refine ⟨.inl ⟨rfl, xs, .of hx⟩, PX.prot H1 (.ref x) k1 B, Gb, G1, env, W1, [(d2, k2)], W', S1.prot h1, by simp only [cArgs, e2, Option.bind_some, Option.map_some], fun vs G2 H2 s2 S2 p2 => ?_⟩
        match vs, p2 with
        | [v], p2 =>
          have h1' := VOk.kept S1 h1 s2 S2
          have S2' := S2.unprot (prot_same h1)
          have h2' := p2.1.base (prot_same h1)
          obtain ⟨dp1, sh1⟩ := flat_shaped (h1'.rp S2') hf.1
          obtain ⟨dp2, sh2⟩ := flat_shaped (h2'.rp S2') hf.2
          unfold idxD at e4
          rw [List.findIdx?_eq_some_iff_getElem] at e4
          obtain ⟨hj, hz, hn⟩ := e4
          exact ⟨x, v, _, _, j, _, rfl, rfl, dp1, dp2, sh1, sh2, List.getElem?_eq_getElem hj, hz, fun m z' hm hz' => by
            have hmj : m < _ := Nat.lt_trans hm hj
            rw [List.getElem?_eq_getElem hmj] at hz'
            cases hz'
            have := hn m hm
            simpa using this, (c.sub (s1.trans s2)).int S2'⟩
      · cases e3
    · cases e3
/-! ### {} of either sort, compared -/
theorem index_S {x : Str} {xs : List Str} {j : Nat} (hj : xs[j]? = some x) (hn : ∀ m, m < j → xs[m]? ≠ some x) (k k' : Kd) : oIndexL [(.list (xs.map PyData.str), k), (.str x, k')] = some (.int (j : Nat), .im) := by
  have h1 : flat (.list (xs.map PyData.str)) = true := flatSL xs
  have h2 : flat (.str x) = true := flat_D (α := Str) (by decide) x
  show (if flat (.list (xs.map PyData.str)) = true ∧ flat (.str x) = true then _ else _) = _
  rw [if_pos ⟨h1, h2⟩]
  have e : idxD (.str x) (xs.map PyData.str) = some j := by
    unfold idxD
    rw [List.findIdx?_eq_some_iff_getElem]
    obtain ⟨hl, he⟩ := List.getElem?_eq_some_iff.mp hj
    refine ⟨by rw [List.length_map]; exact hl, ?_, fun m hm => ?_⟩
    · rw [List.getElem_map, he, eqv_str]; simp
    · rw [List.getElem_map, eqv_str]
      have hml : m < xs.length := by omega
      have := hn m hm
      rw [List.getElem?_eq_getElem hml] at this
      simp only [decide_eq_false_iff_not, Bool.not_eq_true, decide_eq_true_eq]
      exact fun z => this (by rw [z])
  rw [e]
  rfl
end PX

namespace PX
open PySem PySem.Spec PyProof.Rows L2
/-! ### xs != [], xs a list of anything -/
def oNeL : Op
  | [(.list ds, _), (.list [], _)] => some (.bool (!ds.isEmpty), .im)
  | _ => none
theorem so_neL {X : Cx} (hu : X.A.units + 200 < cLine) : OpR X (compareOp .NotEq) (fun x y => rV X.KW oNeL [x, y]) := by
  intro pins s σ H x y v u Q I rx ry h
  obtain ⟨B, Gb, G, σ1, env, W, d1, k1, d2, k2, d, k, S, h1, h2, ap, e, c⟩ := rV.two h
  unfold oNeL at e
  split at e
  · rename_i ds e3 e4 q
    cases q
    cases e
    obtain ⟨a, xs, rfl, ha, ra⟩ := h1.list S
    obtain ⟨b, ys, rfl, hb, rb⟩ := h2.list S
    cases rb
    cases rx
    cases ry
    obtain ⟨its, rv, ⟨⟨cls, dd, data, sl⟩, n, ho, hc, hdn, hdt⟩, hz⟩ := I.list (show SqL X.KW H a xs from .of ha)
    obtain ⟨its2, rv2, ⟨⟨cls2, dd2, data2, sl2⟩, n2, ho2, hc2, hdn2, hdt2⟩, hz2⟩ := I.list (show SqL X.KW H b [] from .of hb)
    simp only at hc hdt hc2 hdt2
    subst hc hdt hc2 hdt2
    cases rv2
    have ty1 : s.TypeIs (.ref a) "list" := ⟨_, ho, rfl⟩
    have ty2 : s.TypeIs (.ref b) "list" := ⟨_, ho2, rfl⟩
    have l1 : its.length = ds.length := by rw [← rv.length, ra.length]
    cases ds with
    | nil =>
      have e0 : its = [] := List.length_eq_zero_iff.mp l1
      subst e0
      refine wpAny_richCompare_same_room (T := "list") (op := .NotEq) ty1 ty2 PySem.F.slot_list_ne (call_meets PySem.F.slot_list_ne ty1 PySem.F.entry_list_ne (PySem.F.args_list_ne_2 _ _) (SeqAt.list_neAt a b #[] #[] n n2 dd dd2 sl sl2 rfl (fun _ => true)) ⟨ho, ho2, fun j h1 => absurd h1 (Nat.not_lt_zero j), ?_⟩) (by omega)
      exact ⟨(fun z => nomatch z), .bl false, H, I, rfl, c.bool S⟩
    | cons x r =>
      have hne : (its.toArray.size != (([] : List Value).toArray).size) = true := by
        rw [List.size_toArray, l1]
        simp
      refine wpAny_richCompare_same_room (T := "list") (op := .NotEq) ty1 ty2 PySem.F.slot_list_ne (call_meets PySem.F.slot_list_ne ty1 PySem.F.entry_list_ne (PySem.F.args_list_ne_2 _ _) (SeqAt.list_ne_lengthsAt a b its.toArray ([] : List Value).toArray n n2 dd dd2 sl sl2 hne) ⟨ho, ho2, ?_⟩) (by omega)
      exact ⟨(fun z => nomatch z), .bl true, H, I, rfl, c.bool S⟩
  · cases e
theorem neLnil {ds : List PyData} (k k' : Kd) : oNeL [(.list ds, k), (.list [], k')] = some (.bool (!ds.isEmpty), .im) := rfl
end PX

namespace PX
open PySem PySem.Spec PyProof.Rows L2
/-! ### len of a dict whose keys are tuples -/
def oLenN : Op
  | [(.dict es, _)] => if isT es = true then some (.int ((es.length : Int) - 1), .im) else none
  | _ => none
theorem so_lenN {X : Cx} : CallR X (.builtin "len") (rV X.KW oLenN) := by
  intro pins s σ H xs us Q I r h
  obtain ⟨B, Gb, G, σ1, env, W, ds, d, k, S, p, e, c⟩ := h
  unfold oLenN at e
  split at e
  · match xs, p with
    | [x], p =>
      split at e
      · rename_i hn
        cases e
        obtain ⟨a, a', kvs, fs, rfl, rfl, hr, rd⟩ := p.1.dictT S hn
        rw [Vals.ref1 r]
        obtain ⟨_, z, hd, xs, rel, dd⟩ := n_at I hr (fun q hq => (rd.keysIn q hq).elim fun d z => ⟨d, z.1, Rp.mono (Sub.of S.sg) z.2⟩)
        have hl : xs.length = fs.length := by rw [← Paired.length rel, rd.length]
        have hz : kvs.length = fs.length := rd.length
        refine call_len_dictH hd dd (by rw [sizeLine_eq] at z; omega) ?_
        have e : ((((PyData.none, PyData.none) :: fs : List (PyData × PyData)).length : Int) - 1) = (xs.length : Int) := by rw [List.length_cons, hl]; omega
        rw [e] at c
        exact ⟨.int _, H, (I.tok _).tok _, ⟨_, rfl⟩, c.im S (.int _)⟩
      · cases e
  · cases e
end PX

namespace PX
open PySem PySem.Spec PyProof.Rows L2
/-! ### sorted of a list that may hold the empty tuple alone -/
def oSortedZ : Op
  | [(.list ds, k)] => if ds.length ≤ 1 then some (.list ds, .fr) else oSorted [(.list ds, k)]
  | _ => none
theorem so_sortedZ {X : Cx} (hc : X.calm = true) (hu : X.A.units + 200 < cLine) : CallR X (.builtin "sorted") (rV X.KW oSortedZ) := by
  intro pins s σ H xs us Q I r h
  obtain ⟨B, Gb, G, σ1, env, W, ds, d, k, S, p, e, c⟩ := id h
  unfold oSortedZ at e
  split at e
  · rename_i ds' k'
    split at e
    · rename_i hl
      match xs, p with
      | [x], p =>
        cases e
        obtain ⟨a, ys, rfl, h1, h2⟩ := p.1.list S
        rw [Vals.ref1 r]
        obtain ⟨hz, its, n, hv, ho⟩ := (show ObjOk X.prog X.w H s.heap a (.lst ys) from I.hok _ _ h1)
        have hlen : its.length ≤ 1 := by rw [← hv.length, h2.length]; exact hl
        refine Srt.sorted_any (vs := its) ⟨_, ho, rfl, _, rfl⟩ (by rw [← hv.length]; exact hz) (fun h2 => by omega) fun out hp => ?_
        have ho' : out = its := by
          match its, hlen, hp with
          | [], _, hp => exact List.perm_nil.mp hp
          | [x], _, hp => exact List.perm_singleton.mp hp
        subst ho'
        obtain ⟨ep, he'⟩ := PyProof.Rows.sortedAll_at s.heap out out.toArray
        exact ⟨.ref _, upd H (s.heap.objs.size + 1) (.lst ys), I.laid (t' := s.toks) (fun _ _ => PyProof.Rows.sortedAll_old) (Nat.le_succ _) ⟨hz, out, ep, hv, he'⟩, rfl, c.fr S (I.hok.fresh (Nat.le_succ _)) (show RpO X.KW G (.lst ys) (.list ds') from h2)⟩
    · exact so_sorted hc hu pins s σ H xs us Q I r ⟨B, Gb, G, σ1, env, W, _, d, k, S, p, e, c⟩
  · cases e
end PX

local macro_rules | `(tactic| walk_at "fwop") => `(tactic| rfl)
local macro_rules | `(tactic| walk_at "fwop") => `(tactic| assumption)
local macro_rules | `(tactic| walk_at "fwop") => `(tactic| first
  | exact PX.addI _ _ _ _ | exact PX.subI _ _ _ _ | exact PX.negI _ _ | exact PX.ltI _ _ _ _ | exact PX.leI _ _ _ _ | exact PX.gtI _ _ _ _ | exact PX.geI _ _ _ _
  | exact PX.evI_eq _ _ _ _ | exact PX.evI_ne _ _ _ _ | exact PX.fwIx0T _ _ | exact PX.fwIx1T _ _ | exact PX.fwIx2T _ _ | exact PX.fwIx0 _ _ | exact PX.fwIx1L _ _
  | exact PX.lenI _ _ | exact PX.lenIL _ _ | exact PX.lenM _ _ _ | exact PX.lenML _ _ _ | exact PX.lenL _ | exact PX.lenT _
  | exact PX.mulI _ _ (by omega) _ _ | exact PX.divI _ _ (by omega) (by omega) _ _ | exact PX.modI _ _ (by omega) _ _ | exact PX.absI _ _)
local macro_rules | `(tactic| walk_at "fwx") => `(tactic| first
  | exact PX.fwVar rfl
  | exact PX.fwK
  | exact PX.fwVarO rfl
  | exact PX.fwLst0
  | exact PX.fwTup0
  | assumption
  | (apply PX.fwTup1; walk_at "fwx"; rfl)
  | (apply PX.fwTup2; walk_at "fwx"; rfl; walk_at "fwx"; rfl)
  | (apply PX.fwTup3; walk_at "fwx"; rfl; walk_at "fwx"; rfl; walk_at "fwx"; rfl)
  | (apply PX.fwLst1; walk_at "fwx"; rfl)
  | (apply PX.fwLst2; walk_at "fwx"; rfl; walk_at "fwx"; rfl)
  | (apply PX.fw1; walk_at "fwx"; walk_at "fwop")
  | (apply PX.fw2; walk_at "fwx"; walk_at "fwx"; walk_at "fwop")
  | (apply PX.fwF1; walk_at "fwx"; rfl; walk_at "fwop")
  | (apply PX.fwF2; walk_at "fwx"; rfl; walk_at "fwx"; rfl; walk_at "fwop")
  | (apply PX.fwF3; walk_at "fwx"; rfl; walk_at "fwx"; rfl; walk_at "fwx"; rfl; walk_at "fwop")
  | (apply PX.fwB; walk_at "fwx")
  | (apply PX.fwAnd; walk_at "fwx"; intro _; walk_at "fwx")
  | (apply PX.fwOr; walk_at "fwx"; intro _; walk_at "fwx")
  | (apply PX.fwNot; walk_at "fwx")
  | (apply PX.fwNext; rfl; walk_at "fwx"; omega)
  | (apply PX.fwIf; walk_at "fwx"; walk_at "fwx"; walk_at "fwx")
  | (apply PX.fw3; walk_at "fwx"; walk_at "fwx"; walk_at "fwx"; walk_at "fwop"))
local macro_rules | `(tactic| walk_at "fwi") => `(tactic| first
  | (apply PX.fwSeqL; walk_at "fwx"; done) | (apply PX.fwSeqF; walk_at "fwx"; done) | (apply PX.fwSeqT; walk_at "fwx"; done)
  | (apply PX.fwR1Z; walk_at "fwx"; omega; omega) | (apply PX.fwR2Z; walk_at "fwx"; walk_at "fwx"; omega; omega; omega; omega))
local macro_rules | `(tactic| walk_at "st_set") => `(tactic| (apply PX.ru_set; walk_at "fwx"; rfl; dsimp only [List.set]))
local macro_rules | `(tactic| walk_at "st_par") => `(tactic| (apply PX.ru_par; walk_at "fwx"; rfl; walk_at "fwx"; rfl; dsimp only [List.set]))
local macro_rules | `(tactic| walk_at "st_aug") => `(tactic| (apply PX.ru_aug; rfl; walk_at "fwx"; dsimp only [List.set]))
local macro_rules | `(tactic| walk_at "st_ret") => `(tactic| (apply PX.ru_ret; walk_at "fwx"; rfl))
local macro_rules | `(tactic| walk_at "st_frz") => `(tactic| first | (apply PX.ru_frz0; rfl) | (apply PX.ru_frz; rfl; dsimp only [List.set]))
local macro_rules | `(tactic| walk_at "st_wipe") => `(tactic| (apply PX.ru_wipe; dsimp only [PX.wipeE, List.set]))

set_option maxHeartbeats 4000000
namespace K33
open PySem PySem.Spec PyProof.Rows L2 PX
noncomputable section
def top (i : Nat) : Stmt := PySem.Challenge.pw_papermade_k33_piles_that_are_turned.main.body.getD i (.Pass ⟨0, 0, 0, 0⟩)
/-- the built-in names that the text uses stand in no module -/
structure Bl (mg : Str → Option Value) : Prop where
  abs : mg "abs" = none
  int : mg "int" = none
  len : mg "len" = none
  list : mg "list" = none
  range : mg "range" = none
  sorted : mg "sorted" = none
  sum : mg "sum" = none
  tuple : mg "tuple" = none
/-! ### over -/
abbrev s_over : Stmt := top 1
theorem sc_over : FnScope ["sheets", "number", "side"] ["sheets"] (defScope s_over) := ⟨rfl, rfl, rfl, by decide +kernel, rfl, by decide +kernel, by decide +kernel⟩
def g_over : Sx := sSeq (sRetK (cCall oTuple [cLc (iSeq (cCall oBack [cVar 0])) (gT 2 (gsCons (gN 1) (gsCons (gN 2) (gsNil)))) (kTrue) (cCall oTup [cVar 1, cNot (cVar 2)]) [1, 2]])) (sNil)
def f_over : List PyData → Option PyData := runF 3 1 g_over
theorem ok_over {P : Program} {K : FW} {mg : Str → Option Value} {base : Heap} {fa : Addr} {fd : FuncData} (b : Bl mg) (F : Fun K "over" "over" s_over fa fd) : FnOk P K.w K.k mg base CX0 1 fa fd ["sheets"] (spF K 1 f_over) :=
  have sc := sc_over
  fn_rule F sc_over rfl (by decide) fun cdv A outer s H E hr =>
(pssx_cons (psx_ret (px_callTy so_tuple rfl b.tuple PyProof.Rows.boot_tuple (pxs_cons (px_lc (own := [("number", 1), ("side", 2)]) rfl sc.nd (pix_seq (px_back (px_var 0))) (blkOk_by (by kernel_rfl)) (fun _ _ _ _ _ => (pgx_tup rfl (pgsx_cons (pgx_name 1 sc.nd) (pgsx_cons (pgx_name 2 sc.nd) pgsx_nil)))) (fun _ _ _ _ _ => ptsx_nil) (fun _ _ _ _ _ => (px_tup (pxs_cons (px_var 1) (pxs_cons (px_not (px_var 2)) pxs_nil))))) pxs_nil)))
pssx_nil)
/-! ### turned -/
abbrev s_turned : Stmt := top 2
theorem sc_turned : FnScope ["pile", "turn", "word", "n"] ["pile", "turn"] (defScope s_turned) := ⟨rfl, rfl, rfl, by decide +kernel, rfl, by decide +kernel, by decide +kernel⟩
def g_turned : Sx := sSeq (sAsg (cVar 1) (gT 2 (gsCons (gN 2) (gsCons (gN 3) (gsNil))))) (sSeq (sRetK (cIf (bOf (cCall oEq [cVar 2, cK (.str "over")])) (cCall oAdd [cFn f_over [cSlice (cVar 0) none (some (cVar 3))], cSlice (cVar 0) (some (cVar 3)) none]) (cCall oAdd [cSlice (cVar 0) (some (cVar 3)) none, cSlice (cVar 0) none (some (cVar 3))]))) (sNil))
def f_turned : List PyData → Option PyData := runF 4 2 g_turned
theorem ok_turned {P : Program} {K : FW} {mg : Str → Option Value} {base : Heap} {fa : Addr} {fd : FuncData} (b : Bl mg) (c_over : Cal P K.w K mg base "over" 1 ["sheets"] (spF K 1 f_over)) (F : Fun K "turned" "turned" s_turned fa fd) : FnOk P K.w K.k mg base CX0 2 fa fd ["pile", "turn"] (spF K 2 f_turned) :=
  have sc := sc_turned
  fn_rule F sc_turned rfl (by decide) fun cdv A outer s H E hr =>
(pssx_cons (psx_asg (vs := [2, 3]) (px_var 1) (pgx_tup rfl (pgsx_cons (pgx_name 2 sc.nd) (pgsx_cons (pgx_name 3 sc.nd) pgsx_nil))))
(pssx_cons (psx_ret (px_if (ptx_cmp (so_eq (room_64 hr)) (px_var 2) px_str (nomark _)) (px_bin so_add (px_fnC c_over hr (pxs_cons (px_slice (px_var 0) pox_none (pox_some (px_var 3))) pxs_nil) rfl (by decide)) (px_slice (px_var 0) (pox_some (px_var 3)) pox_none)) (px_bin so_add (px_slice (px_var 0) (pox_some (px_var 3)) pox_none) (px_slice (px_var 0) pox_none (pox_some (px_var 3))))))
pssx_nil))
/-! ### all_turned -/
abbrev s_all_turned : Stmt := top 3
theorem sc_all_turned : FnScope ["pile", "turns", "turn"] ["pile", "turns"] (defScope s_all_turned) := ⟨rfl, rfl, rfl, by decide +kernel, rfl, by decide +kernel, by decide +kernel⟩
def g_all_turned : Sx := sSeq (sFor (iSeq (cVar 1)) (gN 2) (sSeq (sSet 0 false (cFn f_turned [cVar 0, cVar 2])) (sNil))) (sWipe [2] (sSeq (sRetK (cVar 0)) (sNil)))
def f_all_turned : List PyData → Option PyData := runF 3 2 g_all_turned
theorem ok_all_turned {P : Program} {K : FW} {mg : Str → Option Value} {base : Heap} {fa : Addr} {fd : FuncData} (b : Bl mg) (c_turned : Cal P K.w K mg base "turned" 2 ["pile", "turn"] (spF K 2 f_turned)) (F : Fun K "all_turned" "all_turned" s_all_turned fa fd) : FnOk P K.w K.k mg base CX0 3 fa fd ["pile", "turns"] (spF K 2 f_all_turned) :=
  have sc := sc_all_turned
  fn_rule F sc_all_turned rfl (by decide) fun cdv A outer s H E hr =>
(pssx_cons (psx_for (vs := [2]) PassesOwn.never rfl (pix_seq (px_var 1)) (pgx_name 2 sc.nd)
(pssx_cons (psx_set (i := 0) (own := false) sc.nd (px_fnC c_turned hr (pxs_cons (px_var 0) (pxs_cons (px_var 2) pxs_nil)) rfl (by decide)))
pssx_nil))
(pssx_wipe [2]
(pssx_cons (psx_ret (px_var 0))
pssx_nil)))
/-! ### back_turn -/
abbrev s_back_turn : Stmt := top 4
theorem sc_back_turn : FnScope ["many", "turn", "word", "n"] ["many", "turn"] (defScope s_back_turn) := ⟨rfl, rfl, rfl, by decide +kernel, rfl, by decide +kernel, by decide +kernel⟩
def g_back_turn : Sx := sSeq (sAsg (cVar 1) (gT 2 (gsCons (gN 2) (gsCons (gN 3) (gsNil))))) (sSeq (sIf (bOf (cCall oEq [cVar 2, cK (.str "over")])) (sSeq (sRetK (cCall oTup [cVar 1])) (sNil)) (sNil)) (sSeq (sRetK (cIf (bOf (cCall oLt [cVar 3, cVar 0])) (cCall oTup [cCall oTup [cK (.str "under"), cCall oSub [cVar 0, cVar 3]]]) (cCall oTup []))) (sNil)))
def f_back_turn : List PyData → Option PyData := runF 4 2 g_back_turn
theorem ok_back_turn {P : Program} {K : FW} {mg : Str → Option Value} {base : Heap} {fa : Addr} {fd : FuncData} (b : Bl mg) (F : Fun K "back_turn" "back_turn" s_back_turn fa fd) : FnOk P K.w K.k mg base CX0 1 fa fd ["many", "turn"] (spF K 2 f_back_turn) :=
  have sc := sc_back_turn
  fn_rule F sc_back_turn rfl (by decide) fun cdv A outer s H E hr =>
(pssx_cons (psx_asg (vs := [2, 3]) (px_var 1) (pgx_tup rfl (pgsx_cons (pgx_name 2 sc.nd) (pgsx_cons (pgx_name 3 sc.nd) pgsx_nil))))
(pssx_cons (psx_if (ptx_cmp (so_eq (room_64 hr)) (px_var 2) px_str (nomark _))
(pssx_cons (psx_ret (px_tup (pxs_cons (px_var 1) pxs_nil)))
pssx_nil)
pssx_nil)
(pssx_cons (psx_ret (px_if (ptx_cmp so_lt (px_var 3) (px_var 0) (nomark _)) (px_tup (pxs_cons (px_tup (pxs_cons px_str (pxs_cons (px_bin so_sub (px_var 0) (px_var 3)) pxs_nil))) pxs_nil)) (px_tup pxs_nil)))
pssx_nil)))
/-! ### all_turns -/
abbrev s_all_turns : Stmt := top 5
theorem sc_all_turns : FnScope ["many", "kinds", "word", "n"] ["many", "kinds"] (defScope s_all_turns) := ⟨rfl, rfl, rfl, by decide +kernel, rfl, by decide +kernel, by decide +kernel⟩
def g_all_turns : Sx := sSeq (sRetK (cLc2 (iSeq (cCall oTup [cK (.str "over"), cK (.str "under")])) (gN 2) (bOf (cCall oIn [cVar 2, cVar 1])) (iR2 (cK (.int 1)) (cCall oAdd [cVar 0, cK (.int 1)])) (gN 3) (kTrue) (cCall oTup [cVar 2, cVar 3]) [2, 3] [3])) (sNil)
def f_all_turns : List PyData → Option PyData := runF 4 2 g_all_turns
theorem ok_all_turns {P : Program} {K : FW} {mg : Str → Option Value} {base : Heap} {fa : Addr} {fd : FuncData} (b : Bl mg) (F : Fun K "all_turns" "all_turns" s_all_turns fa fd) : FnOk P K.w K.k mg base CX0 1 fa fd ["many", "kinds"] (spF K 2 f_all_turns) :=
  have sc := sc_all_turns
  fn_rule F sc_all_turns rfl (by decide) fun cdv A outer s H E hr =>
(pssx_cons (psx_ret (px_lc2 (own := [("word", 2), ("n", 3)]) (vs1 := [3]) rfl sc.nd (pix_seq (px_tup (pxs_cons px_str (pxs_cons px_str pxs_nil)))) (blkOk_by (by kernel_rfl)) (by decide) (fun _ _ _ _ _ => (pgx_name 2 sc.nd)) (fun _ _ _ _ _ => (ptsx_one (ptx_cmp (so_in (room_u hr)) (px_var 2) (px_var 1) (by rfl)))) (fun _ _ _ _ _ => (pix_range2 rfl b.range (pxs_cons px_int (pxs_cons (px_bin so_add (px_var 0) px_int) pxs_nil)))) (fun _ _ _ _ _ => (pgx_name 3 sc.nd)) (fun _ _ _ _ _ => ptsx_nil) (fun _ _ _ _ _ => (px_tup (pxs_cons (px_var 2) (pxs_cons (px_var 3) pxs_nil))))))
pssx_nil)
/-! ### come_to -/
abbrev s_come_to : Stmt := top 6
theorem sc_come_to : FnScope ["pile", "kinds", "found", "layer", "turns", "later", "now", "turn", "goal"] ["pile", "kinds"] (defScope s_come_to) := ⟨rfl, rfl, rfl, by decide +kernel, rfl, by decide +kernel, by decide +kernel⟩
def g_come_to : Sx := sSeq (sPar 2 true 3 false (cDispT (cVar 0, cCall oTup [])) (cCall oLst [cVar 0])) (sSeq (sSet 4 false (cFn f_all_turns [cCall oLen [cVar 0], cVar 1])) (sSeq (whileL 300 (bOf (cCall oNeL [cVar 3, cCall oLst []])) (sSeq (sSet 5 true (cCall oLst [])) (sSeq (sFor (iSeq (cVar 3)) (gN 6) (sSeq (sFor (iSeq (cVar 4)) (gN 7) (sSeq (sSet 8 false (cFn f_turned [cVar 6, cVar 7])) (sSeq (sIf (bOf (cCall oNotIn [cVar 8, cVar 2])) (sSeq (sDPut 2 (cVar 8) (cCall oAdd [cCall oIx [cVar 2, cVar 6], cCall oTup [cVar 7]])) (sSeq (sApp 5 (cVar 8)) (sNil))) (sNil)) (sNil)))) (sWipe [7, 8] (sNil)))) (sWipe [6, 7, 8] (sSeq (sSet 3 false (cVar 5)) (sNil)))))) (sSeq (sRetK (cVar 2)) (sNil))))
def f_come_to : List PyData → Option PyData := runF 9 2 g_come_to
theorem ok_come_to {P : Program} {K : FW} {mg : Str → Option Value} {base : Heap} {fa : Addr} {fd : FuncData} (b : Bl mg) (c_all_turns : Cal P K.w K mg base "all_turns" 1 ["many", "kinds"] (spF K 2 f_all_turns)) (c_turned : Cal P K.w K mg base "turned" 2 ["pile", "turn"] (spF K 2 f_turned)) (F : Fun K "come_to" "come_to" s_come_to fa fd) : FnOk P K.w K.k mg base CX0 3 fa fd ["pile", "kinds"] (spF K 2 f_come_to) :=
  have sc := sc_come_to
  fn_rule F sc_come_to rfl (by decide) fun cdv A outer s H E hr =>
(pssx_cons (psx_par (i := 2) (oi := true) (j := 3) (oj := false) rfl sc.nd (px_dispT (room_u hr) (px_var 0) (px_tup pxs_nil)) (px_lst (pxs_cons (px_var 0) pxs_nil)))
(pssx_cons (psx_set (i := 4) (own := false) sc.nd (px_fnC c_all_turns hr (pxs_cons (px_callB so_len rfl b.len PySem.boot_len (pxs_cons (px_var 0) pxs_nil)) (pxs_cons (px_var 1) pxs_nil)) rfl (by decide)))
(pssx_cons (psx_while 300 PassesOwn.never (ptx_cmp (so_neL (room_u hr)) (px_var 3) (px_lst pxs_nil) (nomark _))
(pssx_cons (psx_set (i := 5) (own := true) sc.nd (px_lst pxs_nil))
(pssx_cons (psx_for (vs := [6]) PassesOwn.never rfl (pix_seq (px_var 3)) (pgx_name 6 sc.nd)
(pssx_cons (psx_for (vs := [7]) PassesOwn.never rfl (pix_seq (px_var 4)) (pgx_name 7 sc.nd)
(pssx_cons (psx_set (i := 8) (own := false) sc.nd (px_fnC c_turned hr (pxs_cons (px_var 6) (pxs_cons (px_var 7) pxs_nil)) rfl (by decide)))
(pssx_cons (psx_if (ptx_cmp (so_notIn (room_u hr)) (px_var 8) (px_var 2) (by rfl))
(pssx_cons (psx_dput (room_u hr) (px_var 2) (px_var 8) (px_bin so_add (px_ix (room_u hr) (px_var 2) (px_var 6)) (px_tup (pxs_cons (px_var 7) pxs_nil))))
(pssx_cons (psx_app (px_var 5) (px_var 8))
pssx_nil))
pssx_nil)
pssx_nil)))
(pssx_wipe [7, 8]
pssx_nil)))
(pssx_wipe [6, 7, 8]
(pssx_cons (psx_set (i := 3) (own := false) sc.nd (px_var 5))
pssx_nil)))))
(pssx_cons (psx_ret (px_var 2))
pssx_nil))))
/-! ### fewest_turns -/
abbrev s_fewest_turns : Stmt := top 7
theorem sc_fewest_turns : FnScope ["one", "other"] ["one", "other"] (defScope s_fewest_turns) := ⟨rfl, rfl, rfl, by decide +kernel, rfl, by decide +kernel, by decide +kernel⟩
def g_fewest_turns : Sx := sSeq (sRetK (cCall oGet1 [cFn f_come_to [cVar 0, cCall oTup [cK (.str "over"), cK (.str "under")]], cVar 1])) (sNil)
def f_fewest_turns : List PyData → Option PyData := runF 2 2 g_fewest_turns
theorem ok_fewest_turns {P : Program} {K : FW} {mg : Str → Option Value} {base : Heap} {fa : Addr} {fd : FuncData} (b : Bl mg) (c_come_to : Cal P K.w K mg base "come_to" 3 ["pile", "kinds"] (spF K 2 f_come_to)) (F : Fun K "fewest_turns" "fewest_turns" s_fewest_turns fa fd) : FnOk P K.w K.k mg base CX0 4 fa fd ["one", "other"] (spF K 2 f_fewest_turns) :=
  have sc := sc_fewest_turns
  fn_rule F sc_fewest_turns rfl (by decide) fun cdv A outer s H E hr =>
(pssx_cons (psx_ret (px_get1 (room_u hr) (px_fnC c_come_to hr (pxs_cons (px_var 0) (pxs_cons (px_tup (pxs_cons px_str (pxs_cons px_str pxs_nil))) pxs_nil)) rfl (by decide)) (px_var 1)))
pssx_nil)
/-! ### can_come -/
abbrev s_can_come : Stmt := top 8
theorem sc_can_come : FnScope ["one", "other"] ["one", "other"] (defScope s_can_come) := ⟨rfl, rfl, rfl, by decide +kernel, rfl, by decide +kernel, by decide +kernel⟩
def g_can_come : Sx := sSeq (sRetK (cCall oIsNot [cFn f_fewest_turns [cVar 0, cVar 1], cK .none])) (sNil)
def f_can_come : List PyData → Option PyData := runF 2 2 g_can_come
theorem ok_can_come {P : Program} {K : FW} {mg : Str → Option Value} {base : Heap} {fa : Addr} {fd : FuncData} (b : Bl mg) (c_fewest_turns : Cal P K.w K mg base "fewest_turns" 4 ["one", "other"] (spF K 2 f_fewest_turns)) (F : Fun K "can_come" "can_come" s_can_come fa fd) : FnOk P K.w K.k mg base CX0 5 fa fd ["one", "other"] (spF K 2 f_can_come) :=
  have sc := sc_can_come
  fn_rule F sc_can_come rfl (by decide) fun cdv A outer s H E hr =>
(pssx_cons (psx_ret (px_cmp so_isNot (px_fnC c_fewest_turns hr (pxs_cons (px_var 0) (pxs_cons (px_var 1) pxs_nil)) rfl (by decide)) px_none (nomark _)))
pssx_nil)
/-! ### how_many -/
abbrev s_how_many : Stmt := top 9
theorem sc_how_many : FnScope ["pile", "kinds"] ["pile", "kinds"] (defScope s_how_many) := ⟨rfl, rfl, rfl, by decide +kernel, rfl, by decide +kernel, by decide +kernel⟩
def g_how_many : Sx := sSeq (sRetK (cCall oLenN [cFn f_come_to [cVar 0, cVar 1]])) (sNil)
def f_how_many : List PyData → Option PyData := runF 2 2 g_how_many
theorem ok_how_many {P : Program} {K : FW} {mg : Str → Option Value} {base : Heap} {fa : Addr} {fd : FuncData} (b : Bl mg) (c_come_to : Cal P K.w K mg base "come_to" 3 ["pile", "kinds"] (spF K 2 f_come_to)) (F : Fun K "how_many" "how_many" s_how_many fa fd) : FnOk P K.w K.k mg base CX0 4 fa fd ["pile", "kinds"] (spF K 2 f_how_many) :=
  have sc := sc_how_many
  fn_rule F sc_how_many rfl (by decide) fun cdv A outer s H E hr =>
(pssx_cons (psx_ret (px_callB so_lenN rfl b.len PySem.boot_len (pxs_cons (px_fnC c_come_to hr (pxs_cons (px_var 0) (pxs_cons (px_var 1) pxs_nil)) rfl (by decide)) pxs_nil)))
pssx_nil)
/-! ### order_of_turns -/
abbrev s_order_of_turns : Stmt := top 10
theorem sc_order_of_turns : FnScope ["pile", "turns", "now", "many"] ["pile", "turns"] (defScope s_order_of_turns) := ⟨rfl, rfl, rfl, by decide +kernel, rfl, by decide +kernel, by decide +kernel⟩
def g_order_of_turns : Sx := sSeq (sPar 2 false 3 false (cFn f_all_turned [cVar 0, cVar 1]) (cK (.int 1))) (sSeq (whileL 300 (bOf (cCall oNe [cVar 2, cVar 0])) (sSeq (sPar 2 false 3 false (cFn f_all_turned [cVar 2, cVar 1]) (cCall oAdd [cVar 3, cK (.int 1)])) (sNil))) (sSeq (sRetK (cVar 3)) (sNil)))
def f_order_of_turns : List PyData → Option PyData := runF 4 2 g_order_of_turns
theorem ok_order_of_turns {P : Program} {K : FW} {mg : Str → Option Value} {base : Heap} {fa : Addr} {fd : FuncData} (b : Bl mg) (c_all_turned : Cal P K.w K mg base "all_turned" 3 ["pile", "turns"] (spF K 2 f_all_turned)) (F : Fun K "order_of_turns" "order_of_turns" s_order_of_turns fa fd) : FnOk P K.w K.k mg base CX0 4 fa fd ["pile", "turns"] (spF K 2 f_order_of_turns) :=
  have sc := sc_order_of_turns
  fn_rule F sc_order_of_turns rfl (by decide) fun cdv A outer s H E hr =>
(pssx_cons (psx_par (i := 2) (oi := false) (j := 3) (oj := false) rfl sc.nd (px_fnC c_all_turned hr (pxs_cons (px_var 0) (pxs_cons (px_var 1) pxs_nil)) rfl (by decide)) px_int)
(pssx_cons (psx_while 300 PassesOwn.never (ptx_cmp (so_ne (room_64 hr)) (px_var 2) (px_var 0) (nomark _))
(pssx_cons (psx_par (i := 2) (oi := false) (j := 3) (oj := false) rfl sc.nd (px_fnC c_all_turned hr (pxs_cons (px_var 2) (pxs_cons (px_var 1) pxs_nil)) rfl (by decide)) (px_bin so_add (px_var 3) px_int))
pssx_nil))
(pssx_cons (psx_ret (px_var 3))
pssx_nil)))
/-! ### sides_up -/
abbrev s_sides_up : Stmt := top 11
theorem sc_sides_up : FnScope ["pile", "_", "side"] ["pile"] (defScope s_sides_up) := ⟨rfl, rfl, rfl, by decide +kernel, rfl, by decide +kernel, by decide +kernel⟩
def g_sides_up : Sx := sSeq (sRetK (cCall oLen [cLc (iSeq (cVar 0)) (gT 2 (gsCons (gN 1) (gsCons (gN 2) (gsNil)))) (bOf (cVar 2)) (cK (.int 1)) [1, 2]])) (sNil)
def f_sides_up : List PyData → Option PyData := runF 3 1 g_sides_up
theorem ok_sides_up {P : Program} {K : FW} {mg : Str → Option Value} {base : Heap} {fa : Addr} {fd : FuncData} (b : Bl mg) (F : Fun K "sides_up" "sides_up" s_sides_up fa fd) : FnOk P K.w K.k mg base CX0 1 fa fd ["pile"] (spF K 1 f_sides_up) :=
  have sc := sc_sides_up
  fn_rule F sc_sides_up rfl (by decide) fun cdv A outer s H E hr =>
(pssx_cons (psx_ret (px_callB so_len rfl b.len PySem.boot_len (pxs_cons (px_lc (own := [("_", 1), ("side", 2)]) rfl sc.nd (pix_seq (px_var 0)) (blkOk_by (by kernel_rfl)) (fun _ _ _ _ _ => (pgx_tup rfl (pgsx_cons (pgx_name 1 sc.nd) (pgsx_cons (pgx_name 2 sc.nd) pgsx_nil)))) (fun _ _ _ _ _ => (ptsx_one (ptx_val (px_var 2)))) (fun _ _ _ _ _ => px_int)) pxs_nil)))
pssx_nil)
/-! ### sorted_by_over -/
abbrev s_sorted_by_over : Stmt := top 12
theorem sc_sorted_by_over : FnScope ["pile", "found", "goal", "place", "at", "row", "side", "number", "_"] ["pile"] (defScope s_sorted_by_over) := ⟨rfl, rfl, rfl, by decide +kernel, rfl, by decide +kernel, by decide +kernel⟩
def g_sorted_by_over : Sx := sSeq (sSet 1 true (cCall oLst [])) (sSeq (sSet 2 false (cCall oSorted [cLc (iSeq (cVar 0)) (gT 2 (gsCons (gN 7) (gsCons (gN 8) (gsNil)))) (kTrue) (cVar 7) [7, 8]])) (sSeq (sFor (iR3 (cCall oSub [cCall oLen [cVar 0], cK (.int 1)]) (cCall oNeg [cK (.int 1)]) (cCall oNeg [cK (.int 1)])) (gN 3) (sSeq (sIf (bOf (cCall oNe [cCall oIx [cVar 0, cVar 3], cCall oTup [cCall oIx [cVar 2, cVar 3], cK (.bool true)]])) (sSeq (sSet 4 false (cCall oIndexL [cLc (iSeq (cVar 0)) (gT 2 (gsCons (gN 7) (gsCons (gN 8) (gsNil)))) (kTrue) (cVar 7) [7, 8], cCall oIx [cVar 2, cVar 3]])) (sSeq (sSet 5 false (cIf (bOf (cCall oGt [cVar 4, cK (.int 0)])) (cCall oLst [cCall oTup [cK (.str "over"), cCall oAdd [cVar 4, cK (.int 1)]]]) (cCall oLst []))) (sSeq (sSet 6 false (cIf (bOf (cCall oEq [cVar 4, cK (.int 0)])) (cCall oIx [cCall oIx [cVar 0, cVar 4], cK (.int 1)]) (cNot (cCall oIx [cCall oIx [cVar 0, cVar 4], cK (.int 1)])))) (sSeq (sSet 5 false (cCall oAdd [cCall oAdd [cVar 5, cIf (bOf (cVar 6)) (cCall oLst [cCall oTup [cK (.str "over"), cK (.int 1)]]) (cCall oLst [])], cCall oLst [cCall oTup [cK (.str "over"), cCall oAdd [cVar 3, cK (.int 1)]]]])) (sSeq (sExt 1 (cVar 5)) (sSeq (sSet 0 false (cFn f_all_turned [cVar 0, cVar 5])) (sNil))))))) (sNil)) (sNil))) (sWipe [3, 4, 5, 6] (sSeq (sRetK (cCall oTuple [cVar 1])) (sNil)))))
def f_sorted_by_over : List PyData → Option PyData := runF 9 1 g_sorted_by_over
theorem ok_sorted_by_over {P : Program} {K : FW} {mg : Str → Option Value} {base : Heap} {fa : Addr} {fd : FuncData} (b : Bl mg) (c_all_turned : Cal P K.w K mg base "all_turned" 3 ["pile", "turns"] (spF K 2 f_all_turned)) (F : Fun K "sorted_by_over" "sorted_by_over" s_sorted_by_over fa fd) : FnOk P K.w K.k mg base CX0 4 fa fd ["pile"] (spF K 1 f_sorted_by_over) :=
  have sc := sc_sorted_by_over
  fn_rule F sc_sorted_by_over rfl (by decide) fun cdv A outer s H E hr =>
(pssx_cons (psx_set (i := 1) (own := true) sc.nd (px_lst pxs_nil))
(pssx_cons (psx_set (i := 2) (own := false) sc.nd (px_callB (so_sorted rfl (room_u hr)) rfl b.sorted PyProof.Rows.boot_sorted (pxs_cons (px_lc (own := [("number", 7), ("_", 8)]) rfl sc.nd (pix_seq (px_var 0)) (blkOk_by (by kernel_rfl)) (fun _ _ _ _ _ => (pgx_tup rfl (pgsx_cons (pgx_name 7 sc.nd) (pgsx_cons (pgx_name 8 sc.nd) pgsx_nil)))) (fun _ _ _ _ _ => ptsx_nil) (fun _ _ _ _ _ => (px_var 7))) pxs_nil)))
(pssx_cons (psx_for (vs := [3]) PassesOwn.never rfl (pix_range3 rfl b.range (pxs_cons (px_bin so_sub (px_callB so_len rfl b.len PySem.boot_len (pxs_cons (px_var 0) pxs_nil)) px_int) (pxs_cons (px_un so_neg px_int) (pxs_cons (px_un so_neg px_int) pxs_nil)))) (pgx_name 3 sc.nd)
(pssx_cons (psx_if (ptx_cmp (so_ne (room_64 hr)) (px_ix (room_u hr) (px_var 0) (px_var 3)) (px_tup (pxs_cons (px_ix (room_u hr) (px_var 2) (px_var 3)) (pxs_cons px_bool pxs_nil))) (nomark _))
(pssx_cons (psx_set (i := 4) (own := false) sc.nd (px_index (room_u hr) (px_lc (own := [("number", 7), ("_", 8)]) rfl sc.nd (pix_seq (px_var 0)) (blkOk_by (by kernel_rfl)) (fun _ _ _ _ _ => (pgx_tup rfl (pgsx_cons (pgx_name 7 sc.nd) (pgsx_cons (pgx_name 8 sc.nd) pgsx_nil)))) (fun _ _ _ _ _ => ptsx_nil) (fun _ _ _ _ _ => (px_var 7))) (px_ix (room_u hr) (px_var 2) (px_var 3))))
(pssx_cons (psx_set (i := 5) (own := false) sc.nd (px_if (ptx_cmp so_gt (px_var 4) px_int (nomark _)) (px_lst (pxs_cons (px_tup (pxs_cons px_str (pxs_cons (px_bin so_add (px_var 4) px_int) pxs_nil))) pxs_nil)) (px_lst pxs_nil)))
(pssx_cons (psx_set (i := 6) (own := false) sc.nd (px_if (ptx_cmp (so_eq (room_64 hr)) (px_var 4) px_int (nomark _)) (px_ix (room_u hr) (px_ix (room_u hr) (px_var 0) (px_var 4)) px_int) (px_not (px_ix (room_u hr) (px_ix (room_u hr) (px_var 0) (px_var 4)) px_int))))
(pssx_cons (psx_set (i := 5) (own := false) sc.nd (px_bin so_add (px_bin so_add (px_var 5) (px_if (ptx_val (px_var 6)) (px_lst (pxs_cons (px_tup (pxs_cons px_str (pxs_cons px_int pxs_nil))) pxs_nil)) (px_lst pxs_nil))) (px_lst (pxs_cons (px_tup (pxs_cons px_str (pxs_cons (px_bin so_add (px_var 3) px_int) pxs_nil))) pxs_nil))))
(pssx_cons (psx_ext (px_var 1) (px_var 5))
(pssx_cons (psx_set (i := 0) (own := false) sc.nd (px_fnC c_all_turned hr (pxs_cons (px_var 0) (pxs_cons (px_var 5) pxs_nil)) rfl (by decide)))
pssx_nil))))))
pssx_nil)
pssx_nil))
(pssx_wipe [3, 4, 5, 6]
(pssx_cons (psx_ret (px_callTy so_tuple rfl b.tuple PyProof.Rows.boot_tuple (pxs_cons (px_var 1) pxs_nil)))
pssx_nil)))))
/-! ### _law_draws -/
abbrev s__law_draws : Stmt := top 14
theorem sc__law_draws : FnScope ["script", "many", "draws", "mixed", "k", "cell", "rest", "turn"] ["script", "many"] (defScope s__law_draws) := ⟨rfl, rfl, rfl, by decide +kernel, rfl, by decide +kernel, by decide +kernel⟩
def g__law_draws : Sx := sSeq (sSet 2 true (cCall oLst [])) (sSeq (sSet 3 false (cK (.int 7))) (sSeq (sFor (iR1 (cScLen 0)) (gN 4) (sSeq (sSet 5 false (cCall oAbs [cCall oInt [cScAt 0 (cVar 4)]])) (sSeq (sSet 3 false (cCall oMod [cCall oInt [cCall oAdd [cCall oAdd [cCall oMul [cVar 3, cK (.int 48271)], cCall oMod [cVar 5, cK (.int 1000003)]], cVar 4]], cK (.int 65537)])) (sSeq (sSet 6 false (cK (.int 0))) (sSeq (sIf (bOf (cCall oGe [cVar 5, cCall oPow [cK (.int 10), cK (.int 18)]])) (sSeq (sSet 6 false (cVar 5)) (sNil)) (sSeq (sApp 2 (cCall oMod [cCall oInt [cVar 5], cK (.int 997)])) (sSeq (sApp 2 (cCall oMod [cCall oMod [cCall oInt [cCall oAdd [cCall oMul [cVar 3, cK (.int 69621)], cK (.int 5)]], cK (.int 65521)], cK (.int 997)])) (sNil)))) (sSeq (sFor (iR1 (cK (.int 60))) (gN 7) (sSeq (sIf (bOf (cCall oGt [cVar 6, cK (.int 0)])) (sSeq (sApp 2 (cCall oMod [cCall oInt [cVar 6], cK (.int 997)])) (sSeq (sSet 6 false (cCall oDiv [cVar 6, cK (.int 997)])) (sNil))) (sNil)) (sNil))) (sWipe [7] (sNil)))))))) (sWipe [5, 6, 7] (sSeq (sFor (iR1 (cVar 1)) (gN 4) (sSeq (sSet 3 false (cCall oMod [cCall oInt [cCall oAdd [cCall oAdd [cCall oMul [cVar 3, cK (.int 16807)], cVar 4], cK (.int 1)]], cK (.int 65537)])) (sSeq (sApp 2 (cCall oMod [cCall oInt [cVar 3], cK (.int 997)])) (sNil)))) (sSeq (sRetK (cSlice (cVar 2) none (some (cVar 1)))) (sNil))))))
theorem ok__law_draws {P : Program} {K : FW} {mg : Str → Option Value} {base : Heap} {fa : Addr} {fd : FuncData} (b : Bl mg) (F : Fun K "_law_draws" "_law_draws" s__law_draws fa fd) (hg : ∀ ns : List Int, ns.length ≤ 63 → ∃ ds W', g__law_draws (envS 8 ns 100) [] = some (.rt (.list (ds.map PyData.int)) W') ∧ drOk ds) : FnOk P K.w K.k mg base CX0 1 fa fd ["script", "many"] (spDraws K 100) :=
  have sc := sc__law_draws
  draws_rule F sc__law_draws (by decide) hg fun cdv A outer s H E hr =>
(pssx_cons (psx_set (i := 2) (own := true) sc.nd (px_lst pxs_nil))
(pssx_cons (psx_set (i := 3) (own := false) sc.nd px_int)
(pssx_cons (psx_for (vs := [4]) PassesOwn.never rfl (pix_range1 rfl b.range (pxs_cons (px_scLen 0 rfl b.len (pv 0)) pxs_nil)) (pgx_name 4 sc.nd)
(pssx_cons (psx_set (i := 5) (own := false) sc.nd (px_callB so_abs rfl b.abs PyProof.Rows.boot_abs (pxs_cons (px_callTy so_int rfl b.int PyProof.Rows.boot_int (pxs_cons (px_scAt 0 (pv 0) (px_var 4)) pxs_nil)) pxs_nil)))
(pssx_cons (psx_set (i := 3) (own := false) sc.nd (px_bin so_mod (px_callTy so_int rfl b.int PyProof.Rows.boot_int (pxs_cons (px_bin so_add (px_bin so_add (px_bin so_mul (px_var 3) px_int) (px_bin so_mod (px_var 5) px_int)) (px_var 4)) pxs_nil)) px_int))
(pssx_cons (psx_set (i := 6) (own := false) sc.nd px_int)
(pssx_cons (psx_if (ptx_cmp so_ge (px_var 5) (px_bin so_pow px_int px_int) (nomark _))
(pssx_cons (psx_set (i := 6) (own := false) sc.nd (px_var 5))
pssx_nil)
(pssx_cons (psx_app (px_var 2) (px_bin so_mod (px_callTy so_int rfl b.int PyProof.Rows.boot_int (pxs_cons (px_var 5) pxs_nil)) px_int))
(pssx_cons (psx_app (px_var 2) (px_bin so_mod (px_bin so_mod (px_callTy so_int rfl b.int PyProof.Rows.boot_int (pxs_cons (px_bin so_add (px_bin so_mul (px_var 3) px_int) px_int) pxs_nil)) px_int) px_int))
pssx_nil)))
(pssx_cons (psx_for (vs := [7]) PassesOwn.never rfl (pix_range1 rfl b.range (pxs_cons px_int pxs_nil)) (pgx_name 7 sc.nd)
(pssx_cons (psx_if (ptx_cmp so_gt (px_var 6) px_int (nomark _))
(pssx_cons (psx_app (px_var 2) (px_bin so_mod (px_callTy so_int rfl b.int PyProof.Rows.boot_int (pxs_cons (px_var 6) pxs_nil)) px_int))
(pssx_cons (psx_set (i := 6) (own := false) sc.nd (px_bin so_div (px_var 6) px_int))
pssx_nil))
pssx_nil)
pssx_nil))
(pssx_wipe [7]
pssx_nil)))))))
(pssx_wipe [5, 6, 7]
(pssx_cons (psx_for (vs := [4]) PassesOwn.never rfl (pix_range1 rfl b.range (pxs_cons (px_var 1) pxs_nil)) (pgx_name 4 sc.nd)
(pssx_cons (psx_set (i := 3) (own := false) sc.nd (px_bin so_mod (px_callTy so_int rfl b.int PyProof.Rows.boot_int (pxs_cons (px_bin so_add (px_bin so_add (px_bin so_mul (px_var 3) px_int) (px_var 4)) px_int) pxs_nil)) px_int))
(pssx_cons (psx_app (px_var 2) (px_bin so_mod (px_callTy so_int rfl b.int PyProof.Rows.boot_int (pxs_cons (px_var 3) pxs_nil)) px_int))
pssx_nil)))
(pssx_cons (psx_ret (px_slice (px_var 2) pox_none (pox_some (px_var 1))))
pssx_nil))))))
/-! ### _law_next -/
abbrev s__law_next : Stmt := top 15
theorem sc__law_next : FnScope ["w", "many"] ["w", "many"] (defScope s__law_next) := ⟨rfl, rfl, rfl, by decide +kernel, rfl, by decide +kernel, by decide +kernel⟩
theorem ok__law_next {P : Program} {K : FW} {mg : Str → Option Value} {base : Heap} {fa : Addr} {fd : FuncData} (b : Bl mg) (F : Fun K "_law_next" "_law_next" s__law_next fa fd) : FnOk P K.w K.k mg base CX0 1 fa fd ["w", "many"] (spNext K) :=
  next_rule F sc__law_next fun cdv A outer s H E hr =>
    pss_cons (L2.ps_daug (room_1 hr) (pv 0) pe_str pe_int in_add (by intros; rfl))
    (pss_cons (ps_if (pt_cmpR op_gt (pe_dget (room_1 hr) (pv 0) pe_str (by intro _ _; rfl)) (pe_callB call_len_seq rfl b.len PySem.boot_len (pa_cons (pe_dget (room_1 hr) (pv 0) pe_str (by intro _ _; rfl)) pa_nil)) (nomark _)) (pss_one (ps_ret pe_int)) pss_nil)
    (pss_one (ps_ret (pe_op op_mod (pe_callTy call_int1 rfl b.int PyProof.Rows.boot_int (pa_cons (pe_ix ix_list (pe_dget (room_1 hr) (pv 0) pe_str (by intro _ _; rfl)) (pe_op op_sub (pe_dget (room_1 hr) (pv 0) pe_str (by intro _ _; rfl)) pe_int) (fun _ _ => rfl)) pa_nil)) (pv 1)))))
/-! ### _law_turn -/
abbrev s__law_turn : Stmt := top 16
theorem sc__law_turn : FnScope ["pile", "turn", "word", "n", "top", "number", "side"] ["pile", "turn"] (defScope s__law_turn) := ⟨rfl, rfl, rfl, by decide +kernel, rfl, by decide +kernel, by decide +kernel⟩
def g__law_turn : Sx := sSeq (sAsg (cVar 1) (gT 2 (gsCons (gN 2) (gsCons (gN 3) (gsNil))))) (sSeq (sIf (bOf (cCall oEq [cVar 2, cK (.str "under")])) (sSeq (sRetK (cCall oTuple [cCall oAdd [cCall oList [cSlice (cVar 0) (some (cVar 3)) none], cCall oList [cSlice (cVar 0) none (some (cVar 3))]]])) (sNil)) (sNil)) (sSeq (sSet 4 false (cCall oLst [])) (sSeq (sFor (iSeq (cSlice (cVar 0) none (some (cVar 3)))) (gT 2 (gsCons (gN 5) (gsCons (gN 6) (gsNil)))) (sSeq (sSet 4 false (cCall oAdd [cCall oLst [cCall oTup [cVar 5, cCall oIs [cVar 6, cK (.bool false)]]], cVar 4])) (sNil))) (sWipe [5, 6] (sSeq (sRetK (cCall oTuple [cCall oAdd [cVar 4, cCall oList [cSlice (cVar 0) (some (cVar 3)) none]]])) (sNil))))))
def f__law_turn : List PyData → Option PyData := runF 7 2 g__law_turn
theorem ok__law_turn {P : Program} {K : FW} {mg : Str → Option Value} {base : Heap} {fa : Addr} {fd : FuncData} (b : Bl mg) (F : Fun K "_law_turn" "_law_turn" s__law_turn fa fd) : FnOk P K.w K.k mg base CX0 1 fa fd ["pile", "turn"] (spF K 2 f__law_turn) :=
  have sc := sc__law_turn
  fn_rule F sc__law_turn rfl (by decide) fun cdv A outer s H E hr =>
(pssx_cons (psx_asg (vs := [2, 3]) (px_var 1) (pgx_tup rfl (pgsx_cons (pgx_name 2 sc.nd) (pgsx_cons (pgx_name 3 sc.nd) pgsx_nil))))
(pssx_cons (psx_if (ptx_cmp (so_eq (room_64 hr)) (px_var 2) px_str (nomark _))
(pssx_cons (psx_ret (px_callTy so_tuple rfl b.tuple PyProof.Rows.boot_tuple (pxs_cons (px_bin so_add (px_callTy (so_list rfl) rfl b.list PyProof.Rows.boot_list (pxs_cons (px_slice (px_var 0) (pox_some (px_var 3)) pox_none) pxs_nil)) (px_callTy (so_list rfl) rfl b.list PyProof.Rows.boot_list (pxs_cons (px_slice (px_var 0) pox_none (pox_some (px_var 3))) pxs_nil))) pxs_nil)))
pssx_nil)
pssx_nil)
(pssx_cons (psx_set (i := 4) (own := false) sc.nd (px_lst pxs_nil))
(pssx_cons (psx_for (vs := [5, 6]) PassesOwn.never rfl (pix_seq (px_slice (px_var 0) pox_none (pox_some (px_var 3)))) (pgx_tup rfl (pgsx_cons (pgx_name 5 sc.nd) (pgsx_cons (pgx_name 6 sc.nd) pgsx_nil)))
(pssx_cons (psx_set (i := 4) (own := false) sc.nd (px_bin so_add (px_lst (pxs_cons (px_tup (pxs_cons (px_var 5) (pxs_cons (px_cmp so_is (px_var 6) px_bool (nomark _)) pxs_nil))) pxs_nil)) (px_var 4)))
pssx_nil))
(pssx_wipe [5, 6]
(pssx_cons (psx_ret (px_callTy so_tuple rfl b.tuple PyProof.Rows.boot_tuple (pxs_cons (px_bin so_add (px_var 4) (px_callTy (so_list rfl) rfl b.list PyProof.Rows.boot_list (pxs_cons (px_slice (px_var 0) (pox_some (px_var 3)) pox_none) pxs_nil))) pxs_nil)))
pssx_nil))))))
/-! ### _law_turns -/
abbrev s__law_turns : Stmt := top 17
theorem sc__law_turns : FnScope ["many", "kinds", "found", "word", "n"] ["many", "kinds"] (defScope s__law_turns) := ⟨rfl, rfl, rfl, by decide +kernel, rfl, by decide +kernel, by decide +kernel⟩
def g__law_turns : Sx := sSeq (sSet 2 false (cCall oLst [])) (sSeq (sFor (iSeq (cCall oTup [cK (.str "over"), cK (.str "under")])) (gN 3) (sSeq (sSet 2 false (cCall oAdd [cVar 2, cLc (iR2 (cK (.int 1)) (cCall oAdd [cVar 0, cK (.int 1)])) (gN 4) (bOf (cCall oIn [cVar 3, cVar 1])) (cCall oTup [cVar 3, cVar 4]) [4]])) (sNil))) (sWipe [3] (sSeq (sRetK (cVar 2)) (sNil))))
def f__law_turns : List PyData → Option PyData := runF 5 2 g__law_turns
theorem ok__law_turns {P : Program} {K : FW} {mg : Str → Option Value} {base : Heap} {fa : Addr} {fd : FuncData} (b : Bl mg) (F : Fun K "_law_turns" "_law_turns" s__law_turns fa fd) : FnOk P K.w K.k mg base CX0 1 fa fd ["many", "kinds"] (spF K 2 f__law_turns) :=
  have sc := sc__law_turns
  fn_rule F sc__law_turns rfl (by decide) fun cdv A outer s H E hr =>
(pssx_cons (psx_set (i := 2) (own := false) sc.nd (px_lst pxs_nil))
(pssx_cons (psx_for (vs := [3]) PassesOwn.never rfl (pix_seq (px_tup (pxs_cons px_str (pxs_cons px_str pxs_nil)))) (pgx_name 3 sc.nd)
(pssx_cons (psx_set (i := 2) (own := false) sc.nd (px_bin so_add (px_var 2) (px_lc (own := [("n", 4)]) rfl sc.nd (pix_range2 rfl b.range (pxs_cons px_int (pxs_cons (px_bin so_add (px_var 0) px_int) pxs_nil))) (blkOk_by (by kernel_rfl)) (fun _ _ _ _ _ => (pgx_name 4 sc.nd)) (fun _ _ _ _ _ => (ptsx_one (ptx_cmp (so_in (room_u hr)) (px_var 3) (px_var 1) (by rfl)))) (fun _ _ _ _ _ => (px_tup (pxs_cons (px_var 3) (pxs_cons (px_var 4) pxs_nil)))))))
pssx_nil))
(pssx_wipe [3]
(pssx_cons (psx_ret (px_var 2))
pssx_nil))))
/-! ### _law_all -/
abbrev s__law_all : Stmt := top 18
theorem sc__law_all : FnScope ["pile", "kinds", "found", "rows", "ends", "later", "row", "turn"] ["pile", "kinds"] (defScope s__law_all) := ⟨rfl, rfl, rfl, by decide +kernel, rfl, by decide +kernel, by decide +kernel⟩
def g__law_all : Sx := sSeq (sPar 2 true 3 false (cDnewT) (cCall oLst [cCall oTup []])) (sSeq (sSet 4 true (cDispT (cCall oTup [], cVar 0))) (sSeq (whileL 300 (bOf (cCall oNeL [cVar 3, cCall oLst []])) (sSeq (sSet 5 true (cCall oLst [])) (sSeq (sFor (iSeq (cCall oSortedZ [cVar 3])) (gN 6) (sSeq (sIf (bOf (cCall oNotIn [cCall oIx [cVar 4, cVar 6], cVar 2])) (sSeq (sDPut 2 (cCall oIx [cVar 4, cVar 6]) (cVar 6)) (sSeq (sFor (iSeq (cFn f__law_turns [cCall oLen [cVar 0], cVar 1])) (gN 7) (sSeq (sDPut 4 (cCall oAdd [cVar 6, cCall oTup [cVar 7]]) (cFn f__law_turn [cCall oIx [cVar 4, cVar 6], cVar 7])) (sSeq (sApp 5 (cCall oAdd [cVar 6, cCall oTup [cVar 7]])) (sNil)))) (sWipe [7] (sNil)))) (sNil)) (sNil))) (sWipe [6, 7] (sSeq (sSet 3 false (cVar 5)) (sNil)))))) (sSeq (sRetK (cVar 2)) (sNil))))
def f__law_all : List PyData → Option PyData := runF 8 2 g__law_all
theorem ok__law_all {P : Program} {K : FW} {mg : Str → Option Value} {base : Heap} {fa : Addr} {fd : FuncData} (b : Bl mg) (c__law_turns : Cal P K.w K mg base "_law_turns" 1 ["many", "kinds"] (spF K 2 f__law_turns)) (c__law_turn : Cal P K.w K mg base "_law_turn" 1 ["pile", "turn"] (spF K 2 f__law_turn)) (F : Fun K "_law_all" "_law_all" s__law_all fa fd) : FnOk P K.w K.k mg base CX0 2 fa fd ["pile", "kinds"] (spF K 2 f__law_all) :=
  have sc := sc__law_all
  fn_rule F sc__law_all rfl (by decide) fun cdv A outer s H E hr =>
(pssx_cons (psx_par (i := 2) (oi := true) (j := 3) (oj := false) rfl sc.nd px_dnewT (px_lst (pxs_cons (px_tup pxs_nil) pxs_nil)))
(pssx_cons (psx_set (i := 4) (own := true) sc.nd (px_dispT (room_u hr) (px_tup pxs_nil) (px_var 0)))
(pssx_cons (psx_while 300 PassesOwn.never (ptx_cmp (so_neL (room_u hr)) (px_var 3) (px_lst pxs_nil) (nomark _))
(pssx_cons (psx_set (i := 5) (own := true) sc.nd (px_lst pxs_nil))
(pssx_cons (psx_for (vs := [6]) PassesOwn.never rfl (pix_seq (px_callB (so_sortedZ rfl (room_u hr)) rfl b.sorted PyProof.Rows.boot_sorted (pxs_cons (px_var 3) pxs_nil))) (pgx_name 6 sc.nd)
(pssx_cons (psx_if (ptx_cmp (so_notIn (room_u hr)) (px_ix (room_u hr) (px_var 4) (px_var 6)) (px_var 2) (by rfl))
(pssx_cons (psx_dput (room_u hr) (px_var 2) (px_ix (room_u hr) (px_var 4) (px_var 6)) (px_var 6))
(pssx_cons (psx_for (vs := [7]) PassesOwn.never rfl (pix_seq (px_fnC c__law_turns hr (pxs_cons (px_callB so_len rfl b.len PySem.boot_len (pxs_cons (px_var 0) pxs_nil)) (pxs_cons (px_var 1) pxs_nil)) rfl (by decide))) (pgx_name 7 sc.nd)
(pssx_cons (psx_dput (room_u hr) (px_var 4) (px_bin so_add (px_var 6) (px_tup (pxs_cons (px_var 7) pxs_nil))) (px_fnC c__law_turn hr (pxs_cons (px_ix (room_u hr) (px_var 4) (px_var 6)) (pxs_cons (px_var 7) pxs_nil)) rfl (by decide)))
(pssx_cons (psx_app (px_var 5) (px_bin so_add (px_var 6) (px_tup (pxs_cons (px_var 7) pxs_nil))))
pssx_nil)))
(pssx_wipe [7]
pssx_nil)))
pssx_nil)
pssx_nil))
(pssx_wipe [6, 7]
(pssx_cons (psx_set (i := 3) (own := false) sc.nd (px_var 5))
pssx_nil)))))
(pssx_cons (psx_ret (px_var 2))
pssx_nil))))
/-! ### law -/
abbrev s_law : Stmt := top 19
theorem sc_law : FnScope ["script", "w", "turn", "many", "pile", "k", "turns", "now", "one", "again", "count", "every", "goal", "odd", "kinds", "row", "sorted_pile", "place", "number", "side"] ["script"] (defScope s_law) := ⟨rfl, rfl, rfl, by decide +kernel, rfl, by decide +kernel, by decide +kernel⟩
def g_law : Sx := sSeq (sFor (iR1 (cK (.int 2))) (gN 2) (sSeq (sAsg (cCall oTup [cCall oAdd [cK (.int 1), cNext 1 (cK (.int 3))], cCall oLst []]) (gT 2 (gsCons (gN 3) (gsCons (gN 4) (gsNil))))) (sSeq (sFor (iR1 (cVar 3)) (gN 5) (sSeq (sSet 17 false (cNext 1 (cCall oAdd [cVar 5, cK (.int 1)]))) (sSeq (sSet 4 false (cCall oAdd [cCall oAdd [cSlice (cVar 4) none (some (cVar 17)), cCall oLst [cCall oTup [cCall oAdd [cCall oMul [cK (.int 2), cVar 5], cK (.int 1)], cCall oEq [cNext 1 (cK (.int 2)), cK (.int 0)]]]], cSlice (cVar 4) (some (cVar 17)) none])) (sNil)))) (sWipe [17] (sSeq (sSet 4 false (cCall oTuple [cVar 4])) (sSeq (sSet 6 false (cCall oTuple [cLc (iR1 (cNext 1 (cK (.int 4)))) (gN 5) (kTrue) (cCall oIx [cFn f__law_turns [cVar 3, cCall oTup [cK (.str "over"), cK (.str "under")]], cNext 1 (cCall oMul [cK (.int 2), cVar 3])]) [5]])) (sSeq (sSet 7 false (cVar 4)) (sSeq (sFor (iSeq (cVar 6)) (gN 8) (sSeq (sIf (kOr (bOf (cCall oNe [cFn f_turned [cVar 7, cVar 8], cFn f__law_turn [cVar 7, cVar 8]])) (kOr (bOf (cCall oNe [cFn f_all_turned [cFn f__law_turn [cVar 7, cVar 8], cFn f_back_turn [cVar 3, cVar 8]], cVar 7])) (bOf (cCall oGt [cCall oLen [cFn f_back_turn [cVar 3, cVar 8]], cK (.int 1)])))) (sSeq (sRetK (cK (.bool false))) (sNil)) (sNil)) (sSeq (sSet 7 false (cFn f__law_turn [cVar 7, cVar 8])) (sNil)))) (sSeq (sIf (kOr (bOf (cCall oNe [cFn f_all_turned [cVar 4, cVar 6], cVar 7])) (bOf (cCall oNe [cFn f_sides_up [cVar 4], cCall oSum [cLc (iSeq (cVar 4)) (gT 2 (gsCons (gN 18) (gsCons (gN 19) (gsNil)))) (kTrue) (cCall oInt [cVar 19]) [18, 19]]]))) (sSeq (sRetK (cK (.bool false))) (sNil)) (sNil)) (sSeq (sPar 9 false 10 false (cVar 7) (cK (.int 1))) (sSeq (whileL 300 (bOf (cCall oNe [cVar 9, cVar 4])) (sSeq (sFor (iSeq (cVar 6)) (gN 8) (sSeq (sSet 9 false (cFn f__law_turn [cVar 9, cVar 8])) (sNil))) (sSeq (sAug 10 (fun x y => x + y) (cK (.int 1))) (sNil)))) (sSeq (sIf (bOf (cCall oNe [cFn f_order_of_turns [cVar 4, cVar 6], cVar 10])) (sSeq (sRetK (cK (.bool false))) (sNil)) (sNil)) (sSeq (sSet 11 false (cFn f__law_all [cVar 4, cCall oTup [cK (.str "over"), cK (.str "under")]])) (sSeq (sSet 12 false (cCall oTuple [cCall oSorted [cLc (iSeq (cVar 4)) (gT 2 (gsCons (gN 18) (gsCons (gN 19) (gsNil)))) (kTrue) (cCall oTup [cVar 18, cCall oEq [cNext 1 (cK (.int 2)), cK (.int 0)]]) [18, 19]]])) (sSeq (sSet 12 false (cIf (bOf (cCall oEq [cNext 1 (cK (.int 2)), cK (.int 0)])) (cVar 12) (cVar 7))) (sSeq (sSet 13 false (cCall oAdd [cCall oTup [cCall oTup [cK (.int 100), cK (.bool true)]], cSlice (cVar 4) (some (cK (.int 1))) none])) (sSeq (sIf (kOr (bOf (cCall oNe [cFn f_fewest_turns [cVar 4, cVar 12], cIf (bOf (cCall oIn [cVar 12, cVar 11])) (cCall oIx [cVar 11, cVar 12]) (cK .none)])) (kOr (bOf (cCall oNe [cFn f_can_come [cVar 4, cVar 12], cCall oIn [cVar 12, cVar 11]])) (bOf (cCall oIsNot [cFn f_can_come [cVar 4, cVar 13], cK (.bool false)])))) (sSeq (sRetK (cK (.bool false))) (sNil)) (sNil)) (sSeq (sFor (iSeq (cCall oTup [cCall oTup [cK (.str "over")], cCall oTup [cK (.str "under")], cCall oTup [cK (.str "over"), cK (.str "under")], cCall oTup []])) (gN 14) (sSeq (sIf (bOf (cCall oNe [cFn f_how_many [cVar 4, cVar 14], cCall oLenN [cFn f__law_all [cVar 4, cVar 14]]])) (sSeq (sRetK (cK (.bool false))) (sNil)) (sNil)) (sNil))) (sWipe [14] (sSeq (sPar 15 false 16 false (cFn f_sorted_by_over [cVar 4]) (cVar 4)) (sSeq (sFor (iSeq (cVar 15)) (gN 8) (sSeq (sIf (kOr (bOf (cCall oNe [cCall oIx [cVar 8, cK (.int 0)], cK (.str "over")])) (kNot (bOf (cChain oLe oLe (cK (.int 1)) (cCall oIx [cVar 8, cK (.int 1)]) (cVar 3))))) (sSeq (sRetK (cK (.bool false))) (sNil)) (sNil)) (sSeq (sSet 16 false (cFn f__law_turn [cVar 16, cVar 8])) (sNil)))) (sSeq (sIf (kOr (bOf (cCall oNe [cVar 16, cCall oTuple [cLc (iSeq (cCall oSorted [cVar 4])) (gT 2 (gsCons (gN 18) (gsCons (gN 19) (gsNil)))) (kTrue) (cCall oTup [cVar 18, cK (.bool true)]) [18, 19]]])) (bOf (cCall oGt [cCall oLen [cVar 15], cCall oMul [cK (.int 3), cVar 3]]))) (sSeq (sRetK (cK (.bool false))) (sNil)) (sNil)) (sNil))))))))))))))))))))))) (sWipe [2, 5, 4, 6, 7, 8, 11, 12, 13, 14, 3, 17, 9, 10, 15, 16] (sSeq (sRetK (cK (.bool true))) (sNil)))
theorem ok_law {P : Program} {K : FW} {mg : Str → Option Value} {base : Heap} {fa : Addr} {fd : FuncData} (b : Bl mg) (c_draws : Cal P K.w K mg base "_law_draws" 1 ["script", "many"] (spDraws K 100)) (c_next : Cal P K.w K mg base "_law_next" 1 ["w", "many"] (spNext K)) (c__law_turns : Cal P K.w K mg base "_law_turns" 1 ["many", "kinds"] (spF K 2 f__law_turns)) (c_turned : Cal P K.w K mg base "turned" 2 ["pile", "turn"] (spF K 2 f_turned)) (c__law_turn : Cal P K.w K mg base "_law_turn" 1 ["pile", "turn"] (spF K 2 f__law_turn)) (c_all_turned : Cal P K.w K mg base "all_turned" 3 ["pile", "turns"] (spF K 2 f_all_turned)) (c_back_turn : Cal P K.w K mg base "back_turn" 1 ["many", "turn"] (spF K 2 f_back_turn)) (c_sides_up : Cal P K.w K mg base "sides_up" 1 ["pile"] (spF K 1 f_sides_up)) (c_order_of_turns : Cal P K.w K mg base "order_of_turns" 4 ["pile", "turns"] (spF K 2 f_order_of_turns)) (c__law_all : Cal P K.w K mg base "_law_all" 2 ["pile", "kinds"] (spF K 2 f__law_all)) (c_fewest_turns : Cal P K.w K mg base "fewest_turns" 4 ["one", "other"] (spF K 2 f_fewest_turns)) (c_can_come : Cal P K.w K mg base "can_come" 5 ["one", "other"] (spF K 2 f_can_come)) (c_how_many : Cal P K.w K mg base "how_many" 4 ["pile", "kinds"] (spF K 2 f_how_many)) (c_sorted_by_over : Cal P K.w K mg base "sorted_by_over" 4 ["pile"] (spF K 1 f_sorted_by_over)) (F : Fun K "law" "law" s_law fa fd) (hg : ∀ W, drOk W → ∃ W', g_law (envL 20) W = some (.rt (.bool true) W')) : FnOk P K.w K.k mg base CX0 6 fa fd ["script"] (spLaw K) := by
  have sc := sc_law
  obtain ⟨da, dd, q1, q2, q3, q4⟩ := c_draws.ex
  exact law_rule F sc_law (by decide) hg fun cdv A outer s H E hr =>
    pss_cons (ps_set (i := 1) sc.nd rfl (by first | exact .inl rfl | exact .inr rfl) (pe_disp (pps_cons pe_str (pe_call (E := E0) q1 (hr.mono (by decide)) rfl q2 q3 q4 .nil pass0 (pa_cons (pv 0) (pa_cons pe_int pa_nil))) (pps_cons pe_str pe_int pps_nil)) (by rfl) (by rfl) (fun z => by cases z) (by decide)))
      (pssx_cons (psx_for (vs := [2]) PassesOwn.never rfl (pix_range1 rfl b.range (pxs_cons px_int pxs_nil)) (pgx_name 2 sc.nd)
      (pssx_cons (psx_asg (vs := [3, 4]) (px_tup (pxs_cons (px_bin so_add px_int (px_nextC 1 c_next hr (pv 1) px_int)) (pxs_cons (px_lst pxs_nil) pxs_nil))) (pgx_tup rfl (pgsx_cons (pgx_name 3 sc.nd) (pgsx_cons (pgx_name 4 sc.nd) pgsx_nil))))
      (pssx_cons (psx_for (vs := [5]) PassesOwn.never rfl (pix_range1 rfl b.range (pxs_cons (px_var 3) pxs_nil)) (pgx_name 5 sc.nd)
      (pssx_cons (psx_set (i := 17) (own := false) sc.nd (px_nextC 1 c_next hr (pv 1) (px_bin so_add (px_var 5) px_int)))
      (pssx_cons (psx_set (i := 4) (own := false) sc.nd (px_bin so_add (px_bin so_add (px_slice (px_var 4) pox_none (pox_some (px_var 17))) (px_lst (pxs_cons (px_tup (pxs_cons (px_bin so_add (px_bin so_mul px_int (px_var 5)) px_int) (pxs_cons (px_cmp (so_eq (room_64 hr)) (px_nextC 1 c_next hr (pv 1) px_int) px_int (nomark _)) pxs_nil))) pxs_nil))) (px_slice (px_var 4) (pox_some (px_var 17)) pox_none)))
      pssx_nil)))
      (pssx_wipe [17]
      (pssx_cons (psx_set (i := 4) (own := false) sc.nd (px_callTy so_tuple rfl b.tuple PyProof.Rows.boot_tuple (pxs_cons (px_var 4) pxs_nil)))
      (pssx_cons (psx_set (i := 6) (own := false) sc.nd (px_callTy so_tuple rfl b.tuple PyProof.Rows.boot_tuple (pxs_cons (px_lc (own := [("k", 5)]) rfl sc.nd (pix_range1 rfl b.range (pxs_cons (px_nextC 1 c_next hr (pv 1) px_int) pxs_nil)) (blkOk_by (by kernel_rfl)) (fun _ _ _ _ _ => (pgx_name 5 sc.nd)) (fun _ _ _ _ _ => ptsx_nil) (fun _ _ _ _ _ => (px_ix (room_u hr) (px_fnC c__law_turns hr (pxs_cons (px_var 3) (pxs_cons (px_tup (pxs_cons px_str (pxs_cons px_str pxs_nil))) pxs_nil)) rfl (by decide)) (px_nextC 1 c_next hr (pv 1) (px_bin so_mul px_int (px_var 3)))))) pxs_nil)))
      (pssx_cons (psx_set (i := 7) (own := false) sc.nd (px_var 4))
      (pssx_cons (psx_for (vs := [8]) PassesOwn.never rfl (pix_seq (px_var 6)) (pgx_name 8 sc.nd)
      (pssx_cons (psx_if (PWX.pt (pwx_or (ptx_cmp (so_ne (room_64 hr)) (px_fnC c_turned hr (pxs_cons (px_var 7) (pxs_cons (px_var 8) pxs_nil)) rfl (by decide)) (px_fnC c__law_turn hr (pxs_cons (px_var 7) (pxs_cons (px_var 8) pxs_nil)) rfl (by decide)) (nomark _)) (pwx_or (ptx_cmp (so_ne (room_64 hr)) (px_fnC c_all_turned hr (pxs_cons (px_fnC c__law_turn hr (pxs_cons (px_var 7) (pxs_cons (px_var 8) pxs_nil)) rfl (by decide)) (pxs_cons (px_fnC c_back_turn hr (pxs_cons (px_var 3) (pxs_cons (px_var 8) pxs_nil)) rfl (by decide)) pxs_nil)) rfl (by decide)) (px_var 7) (nomark _)) (pwx_or1 (ptx_cmp so_gt (px_callB so_len rfl b.len PySem.boot_len (pxs_cons (px_fnC c_back_turn hr (pxs_cons (px_var 3) (pxs_cons (px_var 8) pxs_nil)) rfl (by decide)) pxs_nil)) px_int (nomark _))))))
      (pssx_cons (psx_ret px_bool)
      pssx_nil)
      pssx_nil)
      (pssx_cons (psx_set (i := 7) (own := false) sc.nd (px_fnC c__law_turn hr (pxs_cons (px_var 7) (pxs_cons (px_var 8) pxs_nil)) rfl (by decide)))
      pssx_nil)))
      (pssx_cons (psx_if (PWX.pt (pwx_or (ptx_cmp (so_ne (room_64 hr)) (px_fnC c_all_turned hr (pxs_cons (px_var 4) (pxs_cons (px_var 6) pxs_nil)) rfl (by decide)) (px_var 7) (nomark _)) (pwx_or1 (ptx_cmp (so_ne (room_64 hr)) (px_fnC c_sides_up hr (pxs_cons (px_var 4) pxs_nil) rfl (by decide)) (px_callB (so_sum rfl) rfl b.sum PyProof.Rows.boot_sum (pxs_cons (px_lc (own := [("number", 18), ("side", 19)]) rfl sc.nd (pix_seq (px_var 4)) (blkOk_by (by kernel_rfl)) (fun _ _ _ _ _ => (pgx_tup rfl (pgsx_cons (pgx_name 18 sc.nd) (pgsx_cons (pgx_name 19 sc.nd) pgsx_nil)))) (fun _ _ _ _ _ => ptsx_nil) (fun _ _ _ _ _ => (px_callTy so_int rfl b.int PyProof.Rows.boot_int (pxs_cons (px_var 19) pxs_nil)))) pxs_nil)) (nomark _)))))
      (pssx_cons (psx_ret px_bool)
      pssx_nil)
      pssx_nil)
      (pssx_cons (psx_par (i := 9) (oi := false) (j := 10) (oj := false) rfl sc.nd (px_var 7) px_int)
      (pssx_cons (psx_while 300 PassesOwn.never (ptx_cmp (so_ne (room_64 hr)) (px_var 9) (px_var 4) (nomark _))
      (pssx_cons (psx_for (vs := [8]) PassesOwn.never rfl (pix_seq (px_var 6)) (pgx_name 8 sc.nd)
      (pssx_cons (psx_set (i := 9) (own := false) sc.nd (px_fnC c__law_turn hr (pxs_cons (px_var 9) (pxs_cons (px_var 8) pxs_nil)) rfl (by decide)))
      pssx_nil))
      (pssx_cons (psx_aug (i := 10) sc.nd ip_add px_int)
      pssx_nil)))
      (pssx_cons (psx_if (ptx_cmp (so_ne (room_64 hr)) (px_fnC c_order_of_turns hr (pxs_cons (px_var 4) (pxs_cons (px_var 6) pxs_nil)) rfl (by decide)) (px_var 10) (nomark _))
      (pssx_cons (psx_ret px_bool)
      pssx_nil)
      pssx_nil)
      (pssx_cons (psx_set (i := 11) (own := false) sc.nd (px_fnC c__law_all hr (pxs_cons (px_var 4) (pxs_cons (px_tup (pxs_cons px_str (pxs_cons px_str pxs_nil))) pxs_nil)) rfl (by decide)))
      (pssx_cons (psx_set (i := 12) (own := false) sc.nd (px_callTy so_tuple rfl b.tuple PyProof.Rows.boot_tuple (pxs_cons (px_callB (so_sorted rfl (room_u hr)) rfl b.sorted PyProof.Rows.boot_sorted (pxs_cons (px_lc (own := [("number", 18), ("side", 19)]) rfl sc.nd (pix_seq (px_var 4)) (blkOk_by (by kernel_rfl)) (fun _ _ _ _ _ => (pgx_tup rfl (pgsx_cons (pgx_name 18 sc.nd) (pgsx_cons (pgx_name 19 sc.nd) pgsx_nil)))) (fun _ _ _ _ _ => ptsx_nil) (fun _ _ _ _ _ => (px_tup (pxs_cons (px_var 18) (pxs_cons (px_cmp (so_eq (room_64 hr)) (px_nextC 1 c_next hr (pv 1) px_int) px_int (nomark _)) pxs_nil))))) pxs_nil)) pxs_nil)))
      (pssx_cons (psx_set (i := 12) (own := false) sc.nd (px_if (ptx_cmp (so_eq (room_64 hr)) (px_nextC 1 c_next hr (pv 1) px_int) px_int (nomark _)) (px_var 12) (px_var 7)))
      (pssx_cons (psx_set (i := 13) (own := false) sc.nd (px_bin so_add (px_tup (pxs_cons (px_tup (pxs_cons px_int (pxs_cons px_bool pxs_nil))) pxs_nil)) (px_slice (px_var 4) (pox_some px_int) pox_none)))
      (pssx_cons (psx_if (PWX.pt (pwx_or (ptx_cmp (so_ne (room_64 hr)) (px_fnC c_fewest_turns hr (pxs_cons (px_var 4) (pxs_cons (px_var 12) pxs_nil)) rfl (by decide)) (px_if (ptx_cmp (so_in (room_u hr)) (px_var 12) (px_var 11) (by rfl)) (px_ix (room_u hr) (px_var 11) (px_var 12)) px_none) (nomark _)) (pwx_or (ptx_cmp (so_ne (room_64 hr)) (px_fnC c_can_come hr (pxs_cons (px_var 4) (pxs_cons (px_var 12) pxs_nil)) rfl (by decide)) (px_cmp (so_in (room_u hr)) (px_var 12) (px_var 11) (by rfl)) (nomark _)) (pwx_or1 (ptx_cmp so_isNot (px_fnC c_can_come hr (pxs_cons (px_var 4) (pxs_cons (px_var 13) pxs_nil)) rfl (by decide)) px_bool (nomark _))))))
      (pssx_cons (psx_ret px_bool)
      pssx_nil)
      pssx_nil)
      (pssx_cons (psx_for (vs := [14]) PassesOwn.never rfl (pix_seq (px_tup (pxs_cons (px_tup (pxs_cons px_str pxs_nil)) (pxs_cons (px_tup (pxs_cons px_str pxs_nil)) (pxs_cons (px_tup (pxs_cons px_str (pxs_cons px_str pxs_nil))) (pxs_cons (px_tup pxs_nil) pxs_nil)))))) (pgx_name 14 sc.nd)
      (pssx_cons (psx_if (ptx_cmp (so_ne (room_64 hr)) (px_fnC c_how_many hr (pxs_cons (px_var 4) (pxs_cons (px_var 14) pxs_nil)) rfl (by decide)) (px_callB so_lenN rfl b.len PySem.boot_len (pxs_cons (px_fnC c__law_all hr (pxs_cons (px_var 4) (pxs_cons (px_var 14) pxs_nil)) rfl (by decide)) pxs_nil)) (nomark _))
      (pssx_cons (psx_ret px_bool)
      pssx_nil)
      pssx_nil)
      pssx_nil))
      (pssx_wipe [14]
      (pssx_cons (psx_par (i := 15) (oi := false) (j := 16) (oj := false) rfl sc.nd (px_fnC c_sorted_by_over hr (pxs_cons (px_var 4) pxs_nil) rfl (by decide)) (px_var 4))
      (pssx_cons (psx_for (vs := [8]) PassesOwn.never rfl (pix_seq (px_var 15)) (pgx_name 8 sc.nd)
      (pssx_cons (psx_if (PWX.pt (pwx_or (ptx_cmp (so_ne (room_64 hr)) (px_ix (room_u hr) (px_var 8) px_int) px_str (nomark _)) (pwx_or1 (ptx_not (ptx_chain so_le so_le px_int (px_ix (room_u hr) (px_var 8) px_int) (px_var 3))))))
      (pssx_cons (psx_ret px_bool)
      pssx_nil)
      pssx_nil)
      (pssx_cons (psx_set (i := 16) (own := false) sc.nd (px_fnC c__law_turn hr (pxs_cons (px_var 16) (pxs_cons (px_var 8) pxs_nil)) rfl (by decide)))
      pssx_nil)))
      (pssx_cons (psx_if (PWX.pt (pwx_or (ptx_cmp (so_ne (room_64 hr)) (px_var 16) (px_callTy so_tuple rfl b.tuple PyProof.Rows.boot_tuple (pxs_cons (px_lc (own := [("number", 18), ("side", 19)]) rfl sc.nd (pix_seq (px_callB (so_sorted rfl (room_u hr)) rfl b.sorted PyProof.Rows.boot_sorted (pxs_cons (px_var 4) pxs_nil))) (blkOk_by (by kernel_rfl)) (fun _ _ _ _ _ => (pgx_tup rfl (pgsx_cons (pgx_name 18 sc.nd) (pgsx_cons (pgx_name 19 sc.nd) pgsx_nil)))) (fun _ _ _ _ _ => ptsx_nil) (fun _ _ _ _ _ => (px_tup (pxs_cons (px_var 18) (pxs_cons px_bool pxs_nil))))) pxs_nil)) (nomark _)) (pwx_or1 (ptx_cmp so_gt (px_callB so_len rfl b.len PySem.boot_len (pxs_cons (px_var 15) pxs_nil)) (px_bin so_mul px_int (px_var 3)) (nomark _)))))
      (pssx_cons (psx_ret px_bool)
      pssx_nil)
      pssx_nil)
      pssx_nil))))))))))))))))))))))
      (pssx_wipe [2, 5, 4, 6, 7, 8, 11, 12, 13, 14, 3, 17, 9, 10, 15, 16]
      (pssx_cons (psx_ret px_bool)
      pssx_nil)))
end
end K33

set_option maxHeartbeats 2000000
namespace K33
open PySem PX
/-! ### piles and turns -/
abbrev Sh := Int × Bool
abbrev Pile := List Sh
abbrev Tr := Str × Int
abbrev Row := List Tr
def shD (s : Sh) : PyData := .tuple [.int s.1, .bool s.2]
def PD (p : Pile) : PyData := .tuple (p.map shD)
def tD (t : Tr) : PyData := .tuple [.str t.1, .int t.2]
def RD (r : Row) : PyData := .tuple (r.map tD)
def overL (p : Pile) : Pile := p.reverse.map fun s => (s.1, !s.2)
def turnL (p : Pile) (t : Tr) : Pile := if t.1 = "over" then overL (p.take t.2.toNat) ++ p.drop t.2.toNat else p.drop t.2.toNat ++ p.take t.2.toNat
def allT (p : Pile) (r : Row) : Pile := r.foldl turnL p
theorem allT_app (p : Pile) (a b : Row) : allT p (a ++ b) = allT (allT p a) b := List.foldl_append ..
section
variable {env : SEnv} {W W1 W2 : List Int} {f g : Ex} {k k1 : Kd}
theorem cutD_from (ds : List PyData) (n : Nat) : cutD ds (some (n : Int)) none = ds.drop n := by
  unfold cutD
  rw [HT.sIx_none, HT.sIx_nat]
  rcases Nat.le_total n ds.length with h | h
  · rw [Nat.min_eq_left h, List.take_of_length_le (by rw [List.length_drop]; omega)]
  · rw [Nat.min_eq_right h, List.drop_of_length_le (Nat.le_refl _), List.drop_of_length_le h, List.take_nil]
theorem fwDropM {α : Type} {e : α → PyData} {xs : List α} {n : Int} (hn : 0 ≤ n) (e1 : f env W = some (.tuple (xs.map e), k, W1)) (e2 : g env W1 = some (.int n, k1, W2)) : cSlice f (some g) none env W = some (.tuple ((xs.drop n.toNat).map e), .im, W2) := by
  obtain ⟨m, rfl⟩ : ∃ m : Nat, n = m := ⟨n.toNat, by omega⟩
  unfold cSlice
  rw [e1, Option.bind_some]
  simp only [PX.part, Option.bind_some, e2]
  show Option.map _ (oSl (.tuple (xs.map e)) _ _) = _
  simp only [oSl, Option.map_some, cutD_from, Int.toNat_natCast, List.map_drop]
theorem fwTakeM {α : Type} {e : α → PyData} {xs : List α} {n : Int} (hn : 0 ≤ n) (e1 : f env W = some (.tuple (xs.map e), k, W1)) (e2 : g env W1 = some (.int n, k1, W2)) : cSlice f none (some g) env W = some (.tuple ((xs.take n.toNat).map e), .im, W2) := by
  obtain ⟨m, rfl⟩ : ∃ m : Nat, n = m := ⟨n.toNat, by omega⟩
  refine (fwTo (n := m) e1 e2).trans ?_
  rw [Int.toNat_natCast, List.map_take]
theorem fwDropML {α : Type} {e : α → PyData} {xs : List α} {n : Int} (hn : 0 ≤ n) (e1 : f env W = some (.list (xs.map e), k, W1)) (e2 : g env W1 = some (.int n, k1, W2)) : cSlice f (some g) none env W = some (.list ((xs.drop n.toNat).map e), .fr, W2) := by
  obtain ⟨m, rfl⟩ : ∃ m : Nat, n = m := ⟨n.toNat, by omega⟩
  unfold cSlice
  rw [e1, Option.bind_some]
  simp only [PX.part, Option.bind_some, e2]
  show Option.map _ (oSl (.list (xs.map e)) _ _) = _
  simp only [oSl, Option.map_some, cutD_from, Int.toNat_natCast, List.map_drop]
end
theorem addM {α : Type} {e : α → PyData} (a b : List α) (h : a.length + b.length ≤ 10000) (k k' : Kd) : oAdd [(.tuple (a.map e), k), (.tuple (b.map e), k')] = some (.tuple ((a ++ b).map e), .im) := by
  refine (addT _ _ (by rw [List.length_map, List.length_map]; omega) k k').trans ?_
  rw [List.map_append]
theorem addML {α : Type} {e : α → PyData} (a b : List α) (h : a.length + b.length ≤ 10000) (k k' : Kd) : oAdd [(.list (a.map e), k), (.list (b.map e), k')] = some (.list ((a ++ b).map e), .fr) := by
  refine (addL _ _ (by rw [List.length_map, List.length_map]; omega) k k').trans ?_
  rw [List.map_append]
theorem forL_pre2 {α : Type} {t : Tg} {g : Sx} (emb : α → PyData) (all : List α) (R : List α → SEnv → Prop) (st : ∀ done a rest, all = done ++ a :: rest → ∀ env W, R done env → ∃ e1 e2 W', t (emb a) env = some e1 ∧ g e1 W = some (.nx e2 W') ∧ R (done ++ [a]) e2) : ∀ (xs done : List α) (env : SEnv) (W : List Int), all = done ++ xs → R done env →
    ∃ e' W', forL t g (xs.map emb) env W = some (.nx e' W') ∧ R all e'
  | [], done, env, W, e, h => ⟨env, W, rfl, by rw [e, List.append_nil]; exact h⟩
  | a :: xs, done, env, W, e, h => by
    obtain ⟨e1, e2, W', h1, h2, h3⟩ := st done a xs e env W h
    obtain ⟨e', W2, h4, h5⟩ := forL_pre2 emb all R st xs (done ++ [a]) e2 W' (by rw [e, List.append_assoc]; rfl) h3
    refine ⟨e', W2, ?_, h5⟩
    simp only [List.map_cons, forL, h1, Option.bind_some, h2]
    exact h4
theorem pre_mem {α : Type} {all done rest : List α} {a : α} (h : all = done ++ a :: rest) : a ∈ all ∧ done.length < all.length ∧ ∀ x ∈ done, x ∈ all := by
  subst h
  exact ⟨by simp, by simp, fun x hx => by simp [hx]⟩
theorem eqStr (a b : Str) (k k' : Kd) : oEq [(.str a, k), (.str b, k')] = some (.bool (decide (a = b)), .im) := ev_eq (α := Str) (by decide) a b k k'
theorem backM {α : Type} {e : α → PyData} (xs : List α) (k : Kd) : oBack [(.tuple (xs.map e), k)] = some (.tuple (xs.reverse.map e), .im) := by
  show some (PyData.tuple (xs.map e).reverse, Kd.im) = _
  rw [List.map_reverse]
theorem over_ok (p : Pile) : f_over [PD p] = some (PD (overL p)) := by
  show PX.runF 3 1 g_over _ = _
  refine runF_of rfl ?_
  show Runs g_over [.pl (PD p), .no, .no] [] _
  unfold g_over
  refine ru_ret (d := PD (overL p)) (k := .im) (W1 := []) (fw1 (d1 := .list ((overL p).map shD)) (k1 := .fr) (W1 := []) ((fwLc rfl (fwSeqT (fw1 rfl (backM p _))) rfl (lcL_map shD (fun s => shD (s.1, !s.2)) p.reverse (fun s hs => ⟨_, .im, rfl, fwTup2 rfl rfl (fwCNot rfl) rfl, rfl⟩))).trans ?_) rfl) rfl ⟨_, rfl⟩
  unfold overL
  rw [List.map_map]
  rfl
theorem turned_ok (p : Pile) (hp : p.length ≤ 100) (t : Tr) (ht : 0 ≤ t.2) : f_turned [PD p, tD t] = some (PD (turnL p t)) := by
  show PX.runF 4 2 g_turned _ = _
  refine runF_of rfl ?_
  show Runs g_turned [.pl (PD p), .pl (tD t), .no, .no] [] _
  unfold g_turned
  refine ru_asg (e' := [.pl (PD p), .pl (tD t), .pl (.str t.1), .pl (.int t.2)]) rfl rfl rfl ?_
  have h1 : (overL (p.take t.2.toNat)).length ≤ 100 := by unfold overL; rw [List.length_map, List.length_reverse, List.length_take]; omega
  have h2 : (p.drop t.2.toNat).length ≤ 100 := by rw [List.length_drop]; omega
  have h3 : (p.take t.2.toNat).length ≤ 100 := by rw [List.length_take]; omega
  have tt : bOf (cCall oEq [cVar 2, cK (.str "over")]) [.pl (PD p), .pl (tD t), .pl (.str t.1), .pl (.int t.2)] [] = some (decide (t.1 = "over"), []) := fwB (fw2 rfl fwK (eqStr _ _ _ _))
  refine ru_ret (d := PD (turnL p t)) (k := .im) (W1 := []) ?_ rfl ⟨_, rfl⟩
  unfold turnL
  by_cases hw : t.1 = "over"
  · rw [decide_eq_true hw] at tt
    rw [if_pos hw]
    exact fwIfT tt (fw2 (fwF1 (fwTakeM (xs := p) ht rfl rfl) rfl (over_ok (p.take t.2.toNat))) (fwDropM (xs := p) ht rfl rfl) (addM _ _ (by omega) _ _))
  · rw [decide_eq_false hw] at tt
    rw [if_neg hw]
    exact fwIfF tt (fw2 (fwDropM (xs := p) ht rfl rfl) (fwTakeM (xs := p) ht rfl rfl) (addM _ _ (by omega) _ _))
theorem over_len (p : Pile) : (overL p).length = p.length := by unfold overL; rw [List.length_map, List.length_reverse]
theorem turn_len (p : Pile) (t : Tr) : (turnL p t).length = p.length := by
  unfold turnL
  split
  · rw [List.length_append, over_len, List.length_take, List.length_drop]; omega
  · rw [List.length_append, List.length_take, List.length_drop]; omega
theorem all_len : ∀ (r : Row) (p : Pile), (allT p r).length = p.length
  | [], _ => rfl
  | t :: r, p => by
    show (allT (turnL p t) r).length = _
    rw [all_len r, turn_len]
/-- rows of turns, as tuples or lists -/
def IsR (d : PyData) (r : Row) : Prop := d = RD r ∨ d = .list (r.map tD)
theorem iSeqR {i : Nat} {env : SEnv} {W : List Int} {d : PyData} {r : Row} (h : IsR d r) (e : env[i]? = some (.pl d)) : iSeq (cVar i) env W = some (r.map tD, .im, W) := by
  rcases h with rfl | rfl
  · exact fwSeqT (fwVar e)
  · exact fwSeqL (fwVar e)
theorem all_turned_ok (p : Pile) (hp : p.length ≤ 100) {d : PyData} {r : Row} (hd : IsR d r) (hr : ∀ t ∈ r, 0 ≤ t.2) : f_all_turned [PD p, d] = some (PD (allT p r)) := by
  show PX.runF 3 2 g_all_turned _ = _
  refine runF_of rfl ?_
  show Runs g_all_turned [.pl (PD p), .pl d, .no] [] _
  unfold g_all_turned
  obtain ⟨e', W', q1, s2, rfl⟩ := forL_pre2 (t := gN 2) (g := (sSeq (sSet 0 false (cFn f_turned [cVar 0, cVar 2])) (sNil))) tD r
    (fun done env => ∃ s2, env = [.pl (PD (allT p done)), .pl d, s2]) (fun done t rest hall env W hR => by
      obtain ⟨s2, rfl⟩ := hR
      obtain ⟨hm, _, _⟩ := pre_mem hall
      refine ⟨_, [.pl (PD (allT p (done ++ [t]))), .pl d, .pl (tD t)], W, rfl, end_of (ru_set (fwF2 rfl rfl rfl rfl (turned_ok (allT p done) (by rw [all_len]; exact hp) t (hr t hm))) rfl (ru_nil ?_)), .pl (tD t), rfl⟩
      rw [allT_app]
      rfl) r [] [.pl (PD p), .pl d, .no] [] rfl ⟨.no, rfl⟩
  exact ru_seq ((fwFor (iSeqR hd rfl) rfl).trans q1) (ru_wipe (ru_ret rfl rfl ⟨_, rfl⟩))
def backL (many : Int) (t : Tr) : Row := if t.1 = "over" then [t] else if t.2 < many then [("under", many - t.2)] else []
theorem back_ok (many : Int) (t : Tr) : f_back_turn [.int many, tD t] = some (RD (backL many t)) := by
  show PX.runF 4 2 g_back_turn _ = _
  refine runF_of rfl ?_
  show Runs g_back_turn [.pl (.int many), .pl (tD t), .no, .no] [] _
  unfold g_back_turn
  refine ru_asg (e' := [.pl (.int many), .pl (tD t), .pl (.str t.1), .pl (.int t.2)]) rfl rfl rfl ?_
  have tt : bOf (cCall oEq [cVar 2, cK (.str "over")]) [.pl (.int many), .pl (tD t), .pl (.str t.1), .pl (.int t.2)] [] = some (decide (t.1 = "over"), []) := fwB (fw2 rfl fwK (eqStr _ _ _ _))
  unfold backL
  by_cases hw : t.1 = "over"
  · rw [decide_eq_true hw] at tt
    rw [if_pos hw]
    exact ru_ifT tt (ru_assoc (ru_ret (fwTup1 rfl rfl) rfl ⟨_, rfl⟩))
  · rw [decide_eq_false hw] at tt
    rw [if_neg hw]
    refine ru_pass tt ?_
    have t2 : bOf (cCall oLt [cVar 3, cVar 0]) [.pl (.int many), .pl (tD t), .pl (.str t.1), .pl (.int t.2)] [] = some (decide (t.2 < many), []) := fwB (fw2 rfl rfl (ltI _ _ _ _))
    by_cases hn : t.2 < many
    · rw [decide_eq_true hn] at t2
      rw [if_pos hn]
      exact ru_ret (fwIfT t2 (fwTup1 (fwTup2 fwK rfl (fw2 rfl rfl (subI _ _ _ _)) rfl) rfl)) rfl ⟨_, rfl⟩
    · rw [decide_eq_false hn] at t2
      rw [if_neg hn]
      exact ru_ret (fwIfF t2 rfl) rfl ⟨_, rfl⟩
/-! ### all turns -/
def turnsL (many : Nat) (ks : List Str) : List Tr := ([("over" : Str), "under"].filter fun w => decide (w ∈ ks)).flatMap fun w => (rgZ 1 many).map fun n => (w, n)
theorem turns_len (many : Nat) (ks : List Str) : (turnsL many ks).length ≤ 2 * many := by
  unfold turnsL
  have : ∀ xs : List Str, (xs.flatMap fun w => (rgZ 1 many).map fun n => (w, n)).length = xs.length * many := fun xs => by
    induction xs with
    | nil => simp
    | cons x xs ih => rw [List.flatMap_cons, List.length_append, ih, List.length_map, rgZ_len, List.length_cons, Nat.succ_mul]; omega
  rw [this]
  exact Nat.mul_le_mul_right _ (List.length_filter_le _ _)
theorem turns_mem {many : Nat} {ks : List Str} {t : Tr} (h : t ∈ turnsL many ks) : (t.1 = "over" ∨ t.1 = "under") ∧ 1 ≤ t.2 ∧ t.2 ≤ many := by
  unfold turnsL at h
  obtain ⟨w, hw, h⟩ := List.mem_flatMap.1 h
  obtain ⟨n, hn, rfl⟩ := List.mem_map.1 h
  have := rgZ_mem.1 hn
  have hw := (List.mem_filter.1 hw).1
  simp only [List.mem_cons, List.not_mem_nil, or_false] at hw
  exact ⟨hw, by dsimp only; omega, by dsimp only; omega⟩
end K33

set_option maxHeartbeats 2000000
namespace K33
open PySem PX
/-! ### dicts whose keys are piles or rows -/
def ddS {κ : Type} [DecidableEq κ] (ks : List κ) (a : κ) : List κ := if a ∈ ks then ks else ks ++ [a]
section
variable {κ ν : Type} [DecidableEq κ] {kE : κ → PyData} {vE : ν → PyData}
structure KeyE (kE : κ → PyData) : Prop where
  fit : ∀ a, (nkT (kE a)).isSome = true
  eqv : ∀ a b, PyData.eqv (kE a) (kE b) = decide (a = b)
def eX (kE : κ → PyData) (vE : ν → PyData) (fd : List (κ × ν)) : List (PyData × PyData) := fd.map fun e => (kE e.1, vE e.2)
def dX (kE : κ → PyData) (vE : ν → PyData) (fd : List (κ × ν)) : PyData := .dict ((.none, .none) :: eX kE vE fd)
def hasX (fd : List (κ × ν)) (a : κ) : Bool := fd.any fun e => decide (e.1 = a)
def lkX (fd : List (κ × ν)) (a : κ) : Option ν := (fd.find? fun e => decide (e.1 = a)).map (·.2)
theorem eX_len (fd : List (κ × ν)) : (eX kE vE fd).length = fd.length := by unfold eX; rw [List.length_map]
theorem has_lk (fd : List (κ × ν)) (a : κ) : (lkX fd a).isSome = hasX fd a := by
  unfold lkX hasX
  rw [Option.isSome_map, Bool.eq_iff_iff, List.find?_isSome, List.any_eq_true]
theorem hasX_iff {fd : List (κ × ν)} {a : κ} : hasX fd a = true ↔ a ∈ fd.map (·.1) := by
  unfold hasX
  rw [List.any_eq_true, List.mem_map]
  exact ⟨fun ⟨e, h1, h2⟩ => ⟨e, h1, of_decide_eq_true h2⟩, fun ⟨e, h1, h2⟩ => ⟨e, h1, decide_eq_true h2⟩⟩
theorem lk_app {fd x : List (κ × ν)} {a : κ} {v : ν} (h : lkX fd a = some v) : lkX (fd ++ x) a = some v := by
  unfold lkX at *
  rw [Option.map_eq_some_iff] at h
  obtain ⟨e, h1, rfl⟩ := h
  rw [List.find?_append, h1]
  rfl
theorem lk_new {fd : List (κ × ν)} {a : κ} {v : ν} (h : hasX fd a = false) : lkX (fd ++ [(a, v)]) a = some v := by
  unfold lkX
  have e : fd.find? (fun e => decide (e.1 = a)) = none := by
    rw [List.find?_eq_none]
    intro x hx z
    have := hasX_iff.2 (List.mem_map.2 ⟨x, hx, of_decide_eq_true z⟩)
    rw [h] at this
    cases this
  rw [List.find?_append, e, Option.none_or, List.find?_cons_of_pos (by simp)]
  rfl
variable (K : KeyE kE)
include K
theorem fitX (fd : List (κ × ν)) (a : κ) : keyFit ((.none, .none) :: eX kE vE fd) (kE a) = true := K.fit a
theorem dget_X (fd : List (κ × ν)) (a : κ) : dget (eX kE vE fd) (kE a) = (lkX fd a).map vE := by
  unfold dget lkX eX
  rw [List.find?_map, Option.map_map, Option.map_map]
  congr 1
  congr 1
  funext e
  exact K.eqv e.1 a
theorem niX (fd : List (κ × ν)) (a : κ) (k k' : Kd) : oNotIn [(kE a, k), (dX kE vE fd, k')] = some (.bool (!hasX fd a), .im) := by
  show (if keyFit ((.none, .none) :: eX kE vE fd) (kE a) = true then some (PyData.bool (!(dget (eX kE vE fd) (kE a)).isSome), Kd.im) else none) = _
  rw [if_pos (fitX K fd a), dget_X K, Option.isSome_map, has_lk]
theorem inX (fd : List (κ × ν)) (a : κ) (k k' : Kd) : oIn [(kE a, k), (dX kE vE fd, k')] = some (.bool (hasX fd a), .im) := by
  show (if keyFit ((.none, .none) :: eX kE vE fd) (kE a) = true then some (PyData.bool (dget (eX kE vE fd) (kE a)).isSome, Kd.im) else none) = _
  rw [if_pos (fitX K fd a), dget_X K, Option.isSome_map, has_lk]
theorem ixX {fd : List (κ × ν)} {a : κ} {v : ν} (h : lkX fd a = some v) (k k' : Kd) : oIx [(dX kE vE fd, k), (kE a, k')] = some (vE v, .im) := by
  show (if keyFit ((.none, .none) :: eX kE vE fd) (kE a) = true then (dget (eX kE vE fd) (kE a)).map fun d => (d, Kd.im) else none) = _
  rw [if_pos (fitX K fd a), dget_X K, h]
  rfl
theorem get1X (fd : List (κ × ν)) (a : κ) (k k' : Kd) : oGet1 [(dX kE vE fd, k), (kE a, k')] = some (((lkX fd a).map vE).getD .none, .im) := by
  show (if keyFit ((.none, .none) :: eX kE vE fd) (kE a) = true then some ((dget (eX kE vE fd) (kE a)).getD .none, Kd.im) else none) = _
  rw [if_pos (fitX K fd a), dget_X K]
theorem dput_X (fd : List (κ × ν)) (a : κ) (v : ν) : dput (eX kE vE fd) (kE a) (vE v) = eX kE vE (if hasX fd a = true then fd.map fun e => if e.1 = a then (e.1, v) else e else fd ++ [(a, v)]) := by
  have e : ((eX kE vE fd).any fun e => PyData.eqv e.1 (kE a)) = hasX fd a := by
    unfold eX hasX
    rw [List.any_map]
    congr 1
    funext e
    exact K.eqv e.1 a
  unfold dput
  rw [e]
  by_cases h : hasX fd a = true
  · rw [if_pos h, if_pos h]
    unfold eX
    rw [List.map_map, List.map_map]
    refine List.map_congr_left fun x _ => ?_
    show (if PyData.eqv (kE x.1) (kE a) = true then (kE x.1, vE v) else (kE x.1, vE x.2)) = _
    rw [K.eqv]
    show _ = (kE (if x.1 = a then (x.1, v) else x).1, vE (if x.1 = a then (x.1, v) else x).2)
    by_cases hx : x.1 = a
    · rw [decide_eq_true hx, if_pos rfl, if_pos hx]
    · rw [decide_eq_false hx, if_neg Bool.false_ne_true, if_neg hx]
  · rw [if_neg h, if_neg h]
    unfold eX
    rw [List.map_append]
    rfl
theorem putX {fd : List (κ × ν)} {a : κ} (v : ν) (h : hasX fd a = false) : PyData.dict (dputE ((.none, .none) :: eX kE vE fd) (kE a) (vE v)) = dX kE vE (fd ++ [(a, v)]) := by
  show PyData.dict ((.none, .none) :: dput (eX kE vE fd) (kE a) (vE v)) = _
  rw [dput_X K, if_neg (by rw [h]; exact Bool.false_ne_true)]
  rfl
omit K in
theorem lk_fn (F : κ → ν) (ks : List κ) (a : κ) (h : a ∈ ks) : lkX (ks.map fun x => (x, F x)) a = some (F a) := by
  unfold lkX
  induction ks with
  | nil => cases h
  | cons x ks ih =>
    rw [List.map_cons]
    by_cases hx : x = a
    · rw [List.find?_cons_of_pos (by simpa using hx)]
      subst hx
      rfl
    · rw [List.find?_cons_of_neg (by simpa using hx)]
      exact ih ((List.mem_cons.1 h).resolve_left fun z => hx z.symm)
theorem putF (F : κ → ν) (ks : List κ) (a : κ) : PyData.dict (dputE ((.none, .none) :: eX kE vE (ks.map fun x => (x, F x))) (kE a) (vE (F a))) = dX kE vE ((ddS ks a).map fun x => (x, F x)) := by
  show PyData.dict ((.none, .none) :: dput (eX kE vE (ks.map fun x => (x, F x))) (kE a) (vE (F a))) = _
  rw [dput_X K]
  have e : hasX (ks.map fun x => (x, F x)) a = decide (a ∈ ks) := by
    rw [Bool.eq_iff_iff, hasX_iff, List.map_map, decide_eq_true_eq]
    show a ∈ ks.map (fun x => x) ↔ _
    rw [List.map_id']
  rw [e]
  unfold ddS
  by_cases h : a ∈ ks
  · rw [if_pos (decide_eq_true h), if_pos h, List.map_map]
    have e2 : ((fun e : κ × ν => if e.1 = a then (e.1, F a) else e) ∘ fun x => (x, F x)) = fun x => (x, F x) := by
      funext x
      show (if x = a then (x, F a) else (x, F x)) = _
      by_cases hx : x = a
      · rw [if_pos hx, hx]
      · rw [if_neg hx]
    rw [e2]
    rfl
  · rw [if_neg (by simpa using h), if_neg h, List.map_append]
    rfl
end
end K33

set_option maxHeartbeats 2000000
namespace K33
open PySem PX
/-! ### piles and rows are keys -/
theorem nks_map {α : Type} (f : α → PyData) (g : α → NestedKey) (h : ∀ a, nkOf (f a) = some (g a)) : ∀ xs : List α, nksOf (xs.map f) = some (xs.map g)
  | [] => rfl
  | a :: xs => by
    rw [List.map_cons, nksOf, h a, Option.bind_some, nks_map f g h xs]
    rfl
theorem dep_map {α : Type} (g : α → NestedKey) (n : Nat) (h : ∀ a, (g a).depth ≤ n) : ∀ xs : List α, NestedKey.depthAll (xs.map g) ≤ n
  | [] => Nat.zero_le _
  | a :: xs => by
    rw [List.map_cons, NestedKey.depthAll]
    exact Nat.max_le.2 ⟨h a, dep_map g n h xs⟩
theorem nkT_map {α : Type} (f : α → PyData) (g : α → NestedKey) (h : ∀ a, nkOf (f a) = some (g a)) (h2 : ∀ a, (g a).depth ≤ 1) (xs : List α) : (nkT (.tuple (xs.map f))).isSome = true := by
  unfold nkT
  have e : nkOf (.tuple (xs.map f)) = some (.tup (xs.map g)) := by rw [nkOf, nks_map f g h]; rfl
  dsimp only
  rw [e, Option.bind_some, if_pos]
  · rfl
  · have := dep_map g 1 h2 xs
    rw [NestedKey.depth]
    omega
theorem key_PD : KeyE PD where
  fit := fun p => nkT_map shD (fun s => .tup [.num s.1, .num (if s.2 = true then 1 else 0)]) (fun s => rfl) (fun s => by simp [NestedKey.depth, NestedKey.depthAll]) p
  eqv := fun a b => (PySem.W.Datum.eqv (α := PySem.W.Tup (Int × Bool)) ⟨a⟩ ⟨b⟩).trans (decide_eq_decide.mpr ⟨fun h => PySem.W.Tup.mk.inj h, fun h => by rw [h]⟩)
theorem key_RD : KeyE RD where
  fit := fun p => nkT_map tD (fun s => .tup [.text s.1, .num s.2]) (fun s => rfl) (fun s => by simp [NestedKey.depth, NestedKey.depthAll]) p
  eqv := fun a b => (PySem.W.Datum.eqv (α := PySem.W.Tup (Str × Int)) ⟨a⟩ ⟨b⟩).trans (decide_eq_decide.mpr ⟨fun h => PySem.W.Tup.mk.inj h, fun h => by rw [h]⟩)
theorem flat_PD (p : Pile) : flat (PD p) = true := flat_D (α := PySem.W.Tup (Int × Bool)) (by decide) ⟨p⟩
theorem flat_RD (r : Row) : flat (RD r) = true := flat_D (α := PySem.W.Tup (Str × Int)) (by decide) ⟨r⟩
theorem ne_PD (a b : Pile) (k k' : Kd) : oNe [(PD a, k), (PD b, k')] = some (.bool (!decide (a = b)), .im) := by
  show (if flat (PD a) && flat (PD b) then some (PyData.bool (!PyData.eqv (PD a) (PD b)), Kd.im) else none) = _
  rw [flat_PD, flat_PD, key_PD.eqv]
  rfl
/-! ### the law's turn -/
theorem cCallTuple {env : SEnv} {W W1 : List Int} {f : Ex} {k : Kd} {ds : List PyData} (e : f env W = some (.list ds, k, W1)) : cCall oTuple [f] env W = some (.tuple ds, .im, W1) := fw1 e rfl
theorem listM {α : Type} {e : α → PyData} (xs : List α) (k : Kd) : oList [(.tuple (xs.map e), k)] = some (.list (xs.map e), .fr) := rfl
theorem law_turn_ok (p : Pile) (hp : p.length ≤ 100) (t : Tr) (ht : 0 ≤ t.2) (hw : t.1 = "over" ∨ t.1 = "under") : f__law_turn [PD p, tD t] = some (PD (turnL p t)) := by
  show PX.runF 7 2 g__law_turn _ = _
  refine runF_of rfl ?_
  show Runs g__law_turn [.pl (PD p), .pl (tD t), .no, .no, .no, .no, .no] [] _
  unfold g__law_turn
  refine ru_asg (e' := [.pl (PD p), .pl (tD t), .pl (.str t.1), .pl (.int t.2), .no, .no, .no]) rfl rfl rfl ?_
  have h2 : (p.drop t.2.toNat).length ≤ 100 := by rw [List.length_drop]; omega
  have h3 : (p.take t.2.toNat).length ≤ 100 := by rw [List.length_take]; omega
  have tt : bOf (cCall oEq [cVar 2, cK (.str "under")]) [.pl (PD p), .pl (tD t), .pl (.str t.1), .pl (.int t.2), .no, .no, .no] [] = some (decide (t.1 = "under"), []) := fwB (fw2 rfl fwK (eqStr _ _ _ _))
  by_cases hu : t.1 = "under"
  · rw [decide_eq_true hu] at tt
    have e : turnL p t = p.drop t.2.toNat ++ p.take t.2.toNat := by
      unfold turnL
      rw [if_neg (by rw [hu]; decide)]
    rw [e]
    exact ru_ifT tt (ru_assoc (ru_ret (fw1 (d1 := .list ((p.drop t.2.toNat ++ p.take t.2.toNat).map shD)) (fw2 (fw1 (fwDropM (xs := p) ht rfl rfl) (listM _ _)) (fw1 (fwTakeM (xs := p) ht rfl rfl) (listM _ _)) (addML _ _ (by omega) _ _)) rfl) rfl ⟨_, rfl⟩))
  · rw [decide_eq_false hu] at tt
    have ho : t.1 = "over" := hw.resolve_right hu
    have e : turnL p t = overL (p.take t.2.toNat) ++ p.drop t.2.toNat := by
      unfold turnL
      rw [if_pos ho]
    rw [e]
    refine ru_pass tt (ru_set fwLst0 rfl ?_)
    have ov : ∀ (a : Pile) (s : Sh), overL (a ++ [s]) = (s.1, !s.2) :: overL a := fun a s => by
      unfold overL
      rw [List.reverse_append]
      rfl
    obtain ⟨e', W', q1, s5, s6, rfl⟩ := forL_pre2 (t := gT 2 (gsCons (gN 5) (gsCons (gN 6) (gsNil)))) (g := (sSeq (sSet 4 false (cCall oAdd [cCall oLst [cCall oTup [cVar 5, cCall oIs [cVar 6, cK (.bool false)]]], cVar 4])) (sNil))) shD (p.take t.2.toNat)
      (fun done env => ∃ s5 s6, env = [.pl (PD p), .pl (tD t), .pl (.str t.1), .pl (.int t.2), .pl (.list ((overL done).map shD)), s5, s6]) (fun done s rest hall env W hR => by
        obtain ⟨s5, s6, rfl⟩ := hR
        obtain ⟨hm, hdl, _⟩ := pre_mem hall
        refine ⟨_, [.pl (PD p), .pl (tD t), .pl (.str t.1), .pl (.int t.2), .pl (.list ((overL (done ++ [s])).map shD)), .pl (.int s.1), .pl (.bool s.2)], W, rfl, end_of (ru_set (d := .list ((overL (done ++ [s])).map shD)) (k := .fr) (W1 := W) ?_ rfl (ru_nil rfl)), .pl (.int s.1), .pl (.bool s.2), rfl⟩
        rw [ov]
        have eb : cCall oIs [cVar 6, cK (.bool false)] [.pl (PD p), .pl (tD t), .pl (.str t.1), .pl (.int t.2), .pl (.list ((overL done).map shD)), .pl (.int s.1), .pl (.bool s.2)] W = some (.bool (!s.2), .im, W) := fw2 rfl fwK (by cases s.2 <;> rfl)
        exact fw2 (d1 := .list ([(s.1, !s.2)].map shD)) (k1 := .fr) (W1 := W) (fwLst1 (fwTup2 rfl rfl eb rfl) rfl) rfl (addML [(s.1, !s.2)] (overL done) (by rw [over_len]; simp; omega) _ _)) (p.take t.2.toNat) [] [.pl (PD p), .pl (tD t), .pl (.str t.1), .pl (.int t.2), .pl (.list []), .no, .no] [] rfl ⟨.no, .no, rfl⟩
    refine ru_seq ((fwFor (fwSeqT (fwTakeM (xs := p) ht rfl rfl)) rfl).trans q1) (ru_wipe ?_)
    have h1 : (overL (p.take t.2.toNat)).length ≤ 100 := by rw [over_len]; omega
    exact ru_ret (fw1 (d1 := .list ((overL (p.take t.2.toNat) ++ p.drop t.2.toNat).map shD)) (fw2 rfl (fw1 (fwDropM (xs := p) ht rfl rfl) (listM _ _)) (addML _ _ (by omega) _ _)) rfl) rfl ⟨_, rfl⟩
/-! ### all turns, the program's and the law's -/
section
variable {α : Type} {t : Tg} {c : Ct} {e : Ex} {env : SEnv} {W : List Int}
theorem lc2L_ff {f1 : Ci} {t1 : Tg} {c1 : Ct} {vs1 : List Nat} (emb : α → PyData) (p : α → Bool) (r : α → List PyData) : ∀ (xs : List α), (∀ a ∈ xs, ∃ e1, t (emb a) env = some e1 ∧ c e1 W = some (p a, W) ∧ ∃ ds k, f1 e1 W = some (ds, k, W) ∧ kOk vs1 k = true ∧ lcL t1 c1 e ds (wipeE e1 vs1) W = some (r a, W)) →
    lc2L t c f1 t1 c1 e vs1 (xs.map emb) env W = some ((xs.filter p).flatMap r, W)
  | [], _ => rfl
  | a :: xs, h => by
    obtain ⟨e1, h1, h2, ds, k, h3, h4, h5⟩ := h a (by simp)
    have ih := lc2L_ff emb p r xs fun b hb => h b (by simp [hb])
    rw [List.map_cons, lc2L, h1, Option.bind_some, h2, Option.bind_some]
    dsimp only
    cases hp : p a with
    | true =>
      rw [if_pos rfl, h3, Option.bind_some]
      dsimp only
      rw [if_pos h4, h5, Option.bind_some, ih, List.filter_cons_of_pos hp]
      rfl
    | false =>
      rw [if_neg Bool.false_ne_true, ih, List.filter_cons_of_neg (by rw [hp]; exact Bool.false_ne_true)]
end
theorem map_flat {α β γ : Type} (f : β → γ) (g : α → List β) : ∀ xs : List α, (xs.flatMap g).map f = xs.flatMap fun a => (g a).map f
  | [] => rfl
  | a :: xs => by rw [List.flatMap_cons, List.flatMap_cons, List.map_append, map_flat f g xs]
theorem all_turns_ok (many : Nat) (hm : many ≤ 100) (ks : List Str) : f_all_turns [.int many, S ks] = some (.list ((turnsL many ks).map tD)) := by
  show PX.runF 4 2 g_all_turns _ = _
  refine runF_of rfl ?_
  show Runs g_all_turns [.pl (.int many), .pl (S ks), .no, .no] [] _
  unfold g_all_turns
  have hl := turns_len many ks
  have e : (turnsL many ks).map tD = ([("over" : Str), "under"].filter fun w => decide (w ∈ ks)).flatMap fun w => (rgZ 1 many).map fun n => tD (w, n) := by
    unfold turnsL
    rw [map_flat]
    congr 1
    funext w
    rw [List.map_map]
    rfl
  rw [e]
  have hl2 : ((([("over" : Str), "under"].filter fun w => decide (w ∈ ks)).flatMap fun w => (rgZ 1 many).map fun n => tD (w, n))).length ≤ 16777216 := by
    rw [← e, List.length_map]
    omega
  refine ru_ret (fwLc2 (k := .im) (W1 := []) rfl (fwSeqT (fwTup2 fwK rfl fwK rfl)) rfl (lc2L_ff (α := Str) PyData.str (fun w => decide (w ∈ ks)) (fun w => (rgZ 1 many).map fun n => tD (w, n)) [("over" : Str), "under"] (fun w hw => ⟨_, rfl, fwB (fw2 rfl rfl (inS _ _ _ _)), _, _, fwR2Z (lo := 1) (hi := many + 1) fwK (fw2 rfl fwK (addI _ _ _ _)) (by decide) (by decide) (by omega) (by omega), rfl, ?_⟩)) hl2) rfl ⟨_, rfl⟩
  rw [show ((many : Int) + 1 - 1).toNat = many by omega]
  exact lcL_map PyData.int (fun n => tD (w, n)) (rgZ 1 many) (fun n hn => ⟨_, .im, rfl, fwTup2 rfl rfl rfl rfl, rfl⟩)
theorem law_turns_ok (many : Nat) (hm : many ≤ 100) (ks : List Str) : f__law_turns [.int many, S ks] = some (.list ((turnsL many ks).map tD)) := by
  show PX.runF 5 2 g__law_turns _ = _
  refine runF_of rfl ?_
  show Runs g__law_turns [.pl (.int many), .pl (S ks), .no, .no, .no] [] _
  unfold g__law_turns
  refine ru_set fwLst0 rfl ?_
  have one : ∀ (w : Str), ((rgZ 1 many).filter fun _ => decide (w ∈ ks)).map (fun n => (w, n)) = ([w].filter fun w => decide (w ∈ ks)).flatMap fun w => (rgZ 1 many).map fun n => ((w, n) : Tr) := fun w => by
    by_cases h : w ∈ ks
    · rw [List.filter_cons_of_pos (by simpa using h), List.filter_nil, List.flatMap_singleton, decide_eq_true h, List.filter_eq_self.2 fun _ _ => rfl]
    · rw [List.filter_cons_of_neg (by simpa using h), List.filter_nil, List.flatMap_nil, decide_eq_false h]
      simp
  obtain ⟨e', W', q1, s3, rfl⟩ := forL_pre2 (t := gN 3) (g := (sSeq (sSet 2 false (cCall oAdd [cVar 2, cLc (iR2 (cK (.int 1)) (cCall oAdd [cVar 0, cK (.int 1)])) (gN 4) (bOf (cCall oIn [cVar 3, cVar 1])) (cCall oTup [cVar 3, cVar 4]) [4]])) (sNil))) PyData.str [("over" : Str), "under"]
    (fun done env => ∃ s3, env = [.pl (.int many), .pl (S ks), .pl (.list (((done.filter fun w => decide (w ∈ ks)).flatMap fun w => (rgZ 1 many).map fun n => ((w, n) : Tr)).map tD)), s3, .no]) (fun done w rest hall env W hR => by
      obtain ⟨s3, rfl⟩ := hR
      obtain ⟨hm2, hdl, _⟩ := pre_mem hall
      have hb : ∀ xs : List Str, (xs.flatMap fun w => (rgZ 1 many).map fun n => ((w, n) : Tr)).length = xs.length * many := fun xs => by
        induction xs with
        | nil => simp
        | cons x xs ih => rw [List.flatMap_cons, List.length_append, ih, List.length_map, rgZ_len, List.length_cons, Nat.succ_mul]; omega
      have h1 := hb (done.filter fun w => decide (w ∈ ks))
      have h2 := List.length_filter_le (fun w => decide (w ∈ ks)) done
      have h3 : (done.filter fun w => decide (w ∈ ks)).length * many ≤ 2 * 100 := Nat.mul_le_mul (by have : done.length < 2 := hdl; omega) hm
      have h4 := List.length_filter_le (fun _ => decide (w ∈ ks)) (rgZ 1 many)
      rw [rgZ_len] at h4
      refine ⟨_, [.pl (.int many), .pl (S ks), .pl (.list ((((done ++ [w]).filter fun w => decide (w ∈ ks)).flatMap fun w => (rgZ 1 many).map fun n => ((w, n) : Tr)).map tD)), .pl (.str w), .no], W, rfl, end_of (ru_set (k := .fr) (W1 := W) (fw2 rfl (d2 := .list ((((rgZ 1 many).filter fun _ => decide (w ∈ ks)).map (fun n => ((w, n) : Tr))).map tD)) (k2 := .fr) (W2 := W) ?_ (addML _ _ (by rw [List.length_map]; omega) _ _)) rfl (ru_nil ?_)), .pl (.str w), rfl⟩
      · rw [List.map_map]
        refine fwLc rfl (fwR2Z (lo := 1) (hi := many + 1) fwK (fw2 rfl fwK (addI _ _ _ _)) (by decide) (by decide) (by omega) (by omega)) rfl ?_
        rw [show ((many : Int) + 1 - 1).toNat = many by omega]
        exact lcL_fm PyData.int (fun _ => decide (w ∈ ks)) (fun n => tD (w, n)) (rgZ 1 many) (fun n hn => ⟨_, rfl, fwB (fw2 rfl rfl (inS _ _ _ _)), fun _ => ⟨.im, fwTup2 rfl rfl rfl rfl, rfl⟩⟩)
      · rw [one, ← List.flatMap_append, ← List.filter_append]
        rfl) [("over" : Str), "under"] [] [.pl (.int many), .pl (S ks), .pl (.list []), .no, .no] [] rfl ⟨.no, rfl⟩
  exact ru_seq ((fwFor (fwSeqT (fwTup2 fwK rfl fwK rfl)) rfl).trans q1) (ru_wipe (ru_ret rfl rfl ⟨_, rfl⟩))
end K33

set_option maxHeartbeats 2000000
namespace K33
open PySem PX
/-! ### the search -/
abbrev Cd := Pile × Row
abbrev Fd := List Cd
def cand (e : Cd) (t : Tr) : Cd := (turnL e.1 t, e.2 ++ [t])
def add (st : Fd × Fd) (c : Cd) : Fd × Fd := if hasX st.1 c.1 = true then st else (st.1 ++ [c], st.2 ++ [c])
def cands (ts : List Tr) (ly : Fd) : Fd := ly.flatMap fun e => ts.map (cand e)
def rnd (fd cs : Fd) : Fd × Fd := cs.foldl add (fd, [])
def runS (ts : List Tr) : Nat → Fd → Fd → Option Fd
  | 0, _, _ => none
  | n + 1, fd, ly => if ly.isEmpty = true then some fd else runS ts n (rnd fd (cands ts ly)).1 (rnd fd (cands ts ly)).2
theorem cands_snoc (ts : List Tr) (ly : Fd) (e : Cd) : cands ts (ly ++ [e]) = cands ts ly ++ ts.map (cand e) := by
  unfold cands
  rw [List.flatMap_append, List.flatMap_singleton]
def letters : List Sh := [(1, true), (1, false), (3, true), (3, false), (5, true), (5, false)]
def words : Nat → List Pile
  | 0 => [[]]
  | n + 1 => letters.flatMap fun s => (words n).map (s :: ·)
theorem words_len : ∀ n, (words n).length = 6 ^ n
  | 0 => rfl
  | n + 1 => by
    unfold words
    have : ∀ ls : List Sh, (ls.flatMap fun s => (words n).map (s :: ·)).length = ls.length * 6 ^ n := fun ls => by
      induction ls with
      | nil => simp
      | cons s ls ih => rw [List.flatMap_cons, List.length_append, ih, List.length_map, words_len n, List.length_cons, Nat.succ_mul]; omega
    rw [this]
    show 6 * 6 ^ n = 6 ^ (n + 1)
    rw [Nat.pow_succ]
    omega
theorem words_mem : ∀ {n : Nat} {q : Pile}, q ∈ words n ↔ q.length = n ∧ ∀ s ∈ q, s ∈ letters
  | 0, q => by
    unfold words
    rw [List.mem_singleton]
    constructor
    · rintro rfl
      exact ⟨rfl, fun s h => by cases h⟩
    · rintro ⟨h, _⟩
      exact List.length_eq_zero_iff.1 h
  | n + 1, q => by
    unfold words
    rw [List.mem_flatMap]
    constructor
    · rintro ⟨s, hs, h⟩
      obtain ⟨r, hr, rfl⟩ := List.mem_map.1 h
      obtain ⟨h1, h2⟩ := words_mem.1 hr
      exact ⟨by rw [List.length_cons, h1], fun x hx => by
        rcases List.mem_cons.1 hx with rfl | hx
        · exact hs
        · exact h2 x hx⟩
    · rintro ⟨h1, h2⟩
      cases q with
      | nil => cases h1
      | cons s r => exact ⟨s, h2 s (by simp), List.mem_map.2 ⟨r, words_mem.2 ⟨by simpa using h1, fun x hx => h2 x (by simp [hx])⟩, rfl⟩⟩
theorem over_in {n : Nat} {q : Pile} (h : ∀ s ∈ q, s ∈ letters) : ∀ s ∈ overL q, s ∈ letters := fun s hs => by
  unfold overL at hs
  obtain ⟨r, hr, rfl⟩ := List.mem_map.1 hs
  have := h r (List.mem_reverse.1 hr)
  have all : ∀ s ∈ letters, (s.1, !s.2) ∈ letters := by decide
  exact all r this
theorem turn_in {n : Nat} {q : Pile} (t : Tr) (h : q ∈ words n) : turnL q t ∈ words n := by
  obtain ⟨h1, h2⟩ := words_mem.1 h
  refine words_mem.2 ⟨by rw [turn_len, h1], fun s hs => ?_⟩
  unfold turnL at hs
  split at hs
  · rcases List.mem_append.1 hs with z | z
    · exact over_in (n := n) (fun s hs => h2 s (List.mem_of_mem_take hs)) s z
    · exact h2 s (List.mem_of_mem_drop z)
  · rcases List.mem_append.1 hs with z | z
    · exact h2 s (List.mem_of_mem_drop z)
    · exact h2 s (List.mem_of_mem_take z)
theorem ndLen {α : Type} [DecidableEq α] : ∀ {r ns : List α}, r.Nodup → (∀ x ∈ r, x ∈ ns) → r.length ≤ ns.length
  | [], _, _, _ => Nat.zero_le _
  | a :: r, ns, hn, hs => by
    have ha := hs a (by simp)
    have h := ndLen (r := r) (ns := ns.erase a) (List.nodup_cons.1 hn).2 fun x hx => (List.mem_erase_of_ne (show x ≠ a from fun e => (List.nodup_cons.1 hn).1 (by rw [← e]; exact hx))).2 (hs x (by simp [hx]))
    rw [List.length_erase_of_mem ha] at h
    have := List.length_pos_of_mem ha
    rw [List.length_cons]
    omega
structure Good (n : Nat) (fd : Fd) : Prop where
  nd : (fd.map (·.1)).Nodup
  mem : ∀ e ∈ fd, e.1 ∈ words n
theorem Good.len {n : Nat} {fd : Fd} (h : Good n fd) : fd.length ≤ 6 ^ n := by
  have := ndLen (ns := words n) h.nd fun x hx => by
    obtain ⟨e, he, rfl⟩ := List.mem_map.1 hx
    exact h.mem e he
  rw [List.length_map, words_len] at this
  exact this
theorem add_good {n : Nat} {st : Fd × Fd} {c : Cd} (h : Good n st.1) (hc : c.1 ∈ words n) : Good n (add st c).1 := by
  unfold add
  split
  · exact h
  · rename_i hh
    refine ⟨?_, fun e he => ?_⟩
    · show ((st.1 ++ [c]).map (·.1)).Nodup
      rw [List.map_append, List.nodup_append]
      refine ⟨h.nd, by simp, fun a ha b hb e => hh (hasX_iff.2 ?_)⟩
      rw [List.map_singleton, List.mem_singleton] at hb
      rw [← hb, ← e]
      exact ha
    · rcases List.mem_append.1 he with z | z
      · exact h.mem e z
      · rw [List.mem_singleton] at z
        rw [z]
        exact hc
theorem fold_good {n : Nat} : ∀ (cs : Fd) (st : Fd × Fd), Good n st.1 → (∀ c ∈ cs, c.1 ∈ words n) → Good n (cs.foldl add st).1
  | [], st, h, _ => h
  | c :: cs, st, h, hc => fold_good cs (add st c) (add_good h (hc c (by simp))) fun x hx => hc x (by simp [hx])
theorem fold_ext : ∀ (cs : Fd) (st : Fd × Fd), ∃ y : Fd, cs.foldl add st = (st.1 ++ y, st.2 ++ y) ∧ ∀ e ∈ y, e ∈ cs
  | [], st => ⟨[], by rw [List.append_nil, List.append_nil]; rfl, fun e h => by cases h⟩
  | c :: cs, st => by
    obtain ⟨y, h1, h2⟩ := fold_ext cs (add st c)
    rw [List.foldl_cons, h1]
    unfold add
    split
    · exact ⟨y, rfl, fun e he => by simp [h2 e he]⟩
    · exact ⟨c :: y, by simp, fun e he => by
        rcases List.mem_cons.1 he with rfl | he
        · simp
        · simp [h2 e he]⟩
theorem rnd_ext (fd cs : Fd) : ∃ y : Fd, rnd fd cs = (fd ++ y, y) ∧ ∀ e ∈ y, e ∈ cs := by
  obtain ⟨y, h1, h2⟩ := fold_ext cs (fd, [])
  exact ⟨y, by unfold rnd; rw [h1, List.nil_append], h2⟩
theorem cands_mem {ts : List Tr} {ly : Fd} {c : Cd} (h : c ∈ cands ts ly) : ∃ e ∈ ly, ∃ t ∈ ts, c = cand e t := by
  unfold cands at h
  obtain ⟨e, he, h⟩ := List.mem_flatMap.1 h
  obtain ⟨t, ht, rfl⟩ := List.mem_map.1 h
  exact ⟨e, he, t, ht, rfl⟩
theorem rnd_good {n : Nat} {ts : List Tr} {fd ly : Fd} (h : Good n fd) (hl : ∀ e ∈ ly, e.1 ∈ words n) : Good n (rnd fd (cands ts ly)).1 :=
  fold_good _ _ h fun c hc => by
    obtain ⟨e, he, t, _, rfl⟩ := cands_mem hc
    exact turn_in t (hl e he)
/-- the search ends -/
theorem run_ends {n : Nat} (ts : List Tr) : ∀ (m : Nat) (fd ly : Fd), Good n fd → (∀ e ∈ ly, e.1 ∈ words n) → 6 ^ n + 2 ≤ fd.length + m → ∃ F, runS ts m fd ly = some F
  | 0, fd, ly, h, _, hm => by
    have := h.len
    omega
  | m + 1, fd, ly, h, hl, hm => by
    unfold runS
    by_cases he : ly.isEmpty = true
    · exact ⟨fd, if_pos he⟩
    · rw [if_neg he]
      have hg := rnd_good (ts := ts) h hl
      obtain ⟨y, e, hy⟩ := rnd_ext fd (cands ts ly)
      rw [e] at hg ⊢
      have hly : ∀ e ∈ y, e.1 ∈ words n := fun e he => hg.mem e (by simp [he])
      by_cases hy0 : y = []
      · subst hy0
        have := h.len
        obtain ⟨j, rfl⟩ : ∃ j, m = j + 1 := ⟨m - 1, by omega⟩
        exact ⟨_, by unfold runS; rfl⟩
      · have : 1 ≤ y.length := List.length_pos_iff.2 hy0
        exact run_ends ts m (fd ++ y) y hg hly (by rw [List.length_append]; omega)
/-! ### come_to -/
def lyD (x : Fd) : PyData := .list (x.map fun e => PD e.1)
theorem neLM {α : Type} (f : α → PyData) (xs : List α) (k k' : Kd) : oNeL [(.list (xs.map f), k), (.list [], k')] = some (.bool (!xs.isEmpty), .im) := by
  cases xs <;> rfl
abbrev comeT : Ct := bOf (cCall oNeL [cVar 3, cCall oLst []])
abbrev comeI : Sx := (sSeq (sSet 8 false (cFn f_turned [cVar 6, cVar 7])) (sSeq (sIf (bOf (cCall oNotIn [cVar 8, cVar 2])) (sSeq (sDPut 2 (cVar 8) (cCall oAdd [cCall oIx [cVar 2, cVar 6], cCall oTup [cVar 7]])) (sSeq (sApp 5 (cVar 8)) (sNil))) (sNil)) (sNil)))
abbrev comeO : Sx := (sSeq (sFor (iSeq (cVar 4)) (gN 7) comeI) (sWipe [7, 8] (sNil)))
abbrev comeB : Sx := (sSeq (sSet 5 true (cCall oLst [])) (sSeq (sFor (iSeq (cVar 3)) (gN 6) comeO) (sWipe [6, 7, 8] (sSeq (sSet 3 false (cVar 5)) (sNil)))))
section
variable {p : Pile} {n : Nat} {ks : List Str} {ts : List Tr}
theorem come_inner (hn : n ≤ 3) (hts : ∀ t ∈ ts, 0 ≤ t.2) (fd0 : Fd) (ly : Fd) (st0 : Fd × Fd) (e : Cd) (hg : Good n st0.1) (hx : ∃ y, st0.1 = fd0 ++ y) (hk : lkX fd0 e.1 = some e.2) (he : e.1 ∈ words n) (hl : e.2.length ≤ 1000) (h5 : st0.2.length ≤ 10000) (s7 s8 : Sl) (W : List Int) (htl : ts.length ≤ 1000) :
    ∃ s7' s8' W', forL (gN 7) comeI (ts.map tD) [.pl (PD p), .pl (S ks), .ow (dX PD RD st0.1), .pl (lyD ly), .pl (.list (ts.map tD)), .ow (lyD st0.2), .pl (PD e.1), s7, s8] W = some (.nx [.pl (PD p), .pl (S ks), .ow (dX PD RD ((ts.map (cand e)).foldl add st0).1), .pl (lyD ly), .pl (.list (ts.map tD)), .ow (lyD ((ts.map (cand e)).foldl add st0).2), .pl (PD e.1), s7', s8'] W') := by
  have he3 : e.1.length ≤ 100 := by have := (words_mem.1 he).1; omega
  obtain ⟨e', W', q1, s7', s8', rfl⟩ := forL_pre2 (t := gN 7) (g := comeI) tD ts
    (fun done env => ∃ s7 s8, env = [.pl (PD p), .pl (S ks), .ow (dX PD RD ((done.map (cand e)).foldl add st0).1), .pl (lyD ly), .pl (.list (ts.map tD)), .ow (lyD ((done.map (cand e)).foldl add st0).2), .pl (PD e.1), s7, s8]) (fun done t rest hall env W hR => by
      obtain ⟨s7, s8, rfl⟩ := hR
      obtain ⟨hm, hdl, hin⟩ := pre_mem hall
      have gd : Good n ((done.map (cand e)).foldl add st0).1 := fold_good _ _ hg fun c hc => by
        obtain ⟨t, _, rfl⟩ := List.mem_map.1 hc
        exact turn_in t he
      obtain ⟨y, ey, hy⟩ := fold_ext (done.map (cand e)) st0
      obtain ⟨y0, hx⟩ := hx
      have hlk : lkX ((done.map (cand e)).foldl add st0).1 e.1 = some e.2 := by
        rw [ey]
        show lkX (st0.1 ++ y) e.1 = _
        rw [hx]
        exact lk_app (lk_app hk)
      have hgl := gd.len
      have h216 : 6 ^ n ≤ 216 := Nat.pow_le_pow_right (by decide) hn
      have h52 : ((done.map (cand e)).foldl add st0).2.length ≤ 20000 := by
        have h1 : ((done.map (cand e)).foldl add st0).1.length = st0.1.length + y.length := by rw [ey, List.length_append]
        have h2 : ((done.map (cand e)).foldl add st0).2.length = st0.2.length + y.length := by rw [ey, List.length_append]
        omega
      rw [List.map_append, List.foldl_append]
      show ∃ e1 e2 W', _ ∧ _ ∧ ∃ s7 s8, e2 = ([.pl (PD p), .pl (S ks), .ow (dX PD RD (add ((done.map (cand e)).foldl add st0) (cand e t)).1), .pl (lyD ly), .pl (.list (ts.map tD)), .ow (lyD (add ((done.map (cand e)).foldl add st0) (cand e t)).2), .pl (PD e.1), s7, s8] : SEnv)
      generalize (done.map (cand e)).foldl add st0 = st at gd hlk hgl h52
      have tt : bOf (cCall oNotIn [cVar 8, cVar 2]) [.pl (PD p), .pl (S ks), .ow (dX PD RD st.1), .pl (lyD ly), .pl (.list (ts.map tD)), .ow (lyD st.2), .pl (PD e.1), .pl (tD t), .pl (PD (turnL e.1 t))] W = some (!hasX st.1 (turnL e.1 t), W) := fwB (fw2 rfl (fwVarO rfl) (niX key_PD st.1 (turnL e.1 t) _ _))
      unfold add
      by_cases hh : hasX st.1 (cand e t).1 = true
      · rw [show hasX st.1 (turnL e.1 t) = true from hh] at tt
        rw [if_pos hh]
        exact ⟨_, [.pl (PD p), .pl (S ks), .ow (dX PD RD st.1), .pl (lyD ly), .pl (.list (ts.map tD)), .ow (lyD st.2), .pl (PD e.1), .pl (tD t), .pl (PD (turnL e.1 t))], W, rfl, end_of (ru_set (fwF2 rfl rfl rfl rfl (turned_ok e.1 he3 t (hts t hm))) rfl (ru_pass tt (ru_nil rfl))), .pl (tD t), .pl (PD (turnL e.1 t)), rfl⟩
      · have hh' : hasX st.1 (turnL e.1 t) = false := by simpa using (show ¬ hasX st.1 (turnL e.1 t) = true from hh)
        rw [hh'] at tt
        rw [if_neg hh]
        refine ⟨_, [.pl (PD p), .pl (S ks), .ow (dX PD RD (st.1 ++ [cand e t])), .pl (lyD ly), .pl (.list (ts.map tD)), .ow (lyD (st.2 ++ [cand e t])), .pl (PD e.1), .pl (tD t), .pl (PD (turnL e.1 t))], W, rfl, end_of (ru_set (fwF2 rfl rfl rfl rfl (turned_ok e.1 he3 t (hts t hm))) rfl (ru_ifT tt (ru_assoc (ru_dput (i := 2) (es := (.none, .none) :: eX PD RD st.1) (d := RD (e.2 ++ [t])) (k1 := .im) (W1 := W) (kd := PD (turnL e.1 t)) (W2 := W) rfl (fw2 (d1 := RD e.2) (fw2 (fwVarO rfl) rfl (ixX key_PD hlk _ _)) (fwTup1 rfl rfl) (addM e.2 [t] (by simp; omega) _ _)) rfl rfl (fitX key_PD _ _) (by rw [List.length_cons, eX_len]; omega) ?_)))), .pl (tD t), .pl (PD (turnL e.1 t)), rfl⟩
        rw [putX key_PD _ hh']
        refine ru_assoc (ru_app (i := 5) (ds := st.2.map fun e => PD e.1) (d := PD (turnL e.1 t)) (k := .im) (W1 := W) rfl rfl rfl (by rw [List.length_map]; omega) (ru_nilS (ru_nil ?_)))
        unfold lyD
        rw [List.map_append]
        rfl) ts [] [.pl (PD p), .pl (S ks), .ow (dX PD RD st0.1), .pl (lyD ly), .pl (.list (ts.map tD)), .ow (lyD st0.2), .pl (PD e.1), s7, s8] W rfl ⟨s7, s8, rfl⟩
  exact ⟨s7', s8', W', q1⟩
end
end K33

set_option maxHeartbeats 2000000
namespace K33
open PySem PX
/-! ### come_to: all of it -/
section
variable {p : Pile} {n : Nat} {ks : List Str} {ts : List Tr}
theorem rnd_len {fd ly : Fd} (hn : n ≤ 3) (hg : Good n fd) (hl : ∀ e ∈ ly, e.1 ∈ words n) : (rnd fd (cands ts ly)).2.length ≤ 216 := by
  have h1 := (rnd_good (ts := ts) hg hl).len
  have h216 : 6 ^ n ≤ 216 := Nat.pow_le_pow_right (by decide) hn
  obtain ⟨y, e, _⟩ := rnd_ext fd (cands ts ly)
  rw [e] at h1 ⊢
  have h1 : (fd ++ y).length ≤ 6 ^ n := h1
  rw [List.length_append] at h1
  show y.length ≤ 216
  omega
theorem come_outer (hn : n ≤ 3) (hts : ∀ t ∈ ts, 0 ≤ t.2) (htl : ts.length ≤ 1000) (fd ly : Fd) (hg : Good n fd) (hly : ∀ e ∈ ly, lkX fd e.1 = some e.2 ∧ e.1 ∈ words n ∧ e.2.length ≤ 1000) (s6 s7 s8 : Sl) (W : List Int) :
    ∃ s6' s7' s8' W', forL (gN 6) comeO (ly.map fun e => PD e.1) [.pl (PD p), .pl (S ks), .ow (dX PD RD fd), .pl (lyD ly), .pl (.list (ts.map tD)), .ow (.list []), s6, s7, s8] W = some (.nx [.pl (PD p), .pl (S ks), .ow (dX PD RD (rnd fd (cands ts ly)).1), .pl (lyD ly), .pl (.list (ts.map tD)), .ow (lyD (rnd fd (cands ts ly)).2), s6', s7', s8'] W') := by
  obtain ⟨e', W', q1, s6', s7', s8', rfl⟩ := forL_pre2 (t := gN 6) (g := comeO) (fun e : Cd => PD e.1) ly
    (fun done env => ∃ s6 s7 s8, env = [.pl (PD p), .pl (S ks), .ow (dX PD RD (rnd fd (cands ts done)).1), .pl (lyD ly), .pl (.list (ts.map tD)), .ow (lyD (rnd fd (cands ts done)).2), s6, s7, s8]) (fun done e rest hall env W hR => by
      obtain ⟨s6, s7, s8, rfl⟩ := hR
      obtain ⟨hm, hdl, hin⟩ := pre_mem hall
      have gd := rnd_good (ts := ts) hg (fun e he => (hly e (hin e he)).2.1)
      have g2 := rnd_len (ts := ts) hn hg (ly := done) (fun e he => (hly e (hin e he)).2.1)
      obtain ⟨y, ey, _⟩ := rnd_ext fd (cands ts done)
      obtain ⟨h1, h2, h3⟩ := hly e hm
      obtain ⟨s7', s8', W', q⟩ := come_inner (p := p) (ks := ks) hn hts fd ly (rnd fd (cands ts done)) e gd ⟨y, by rw [ey]⟩ h1 h2 h3 (by omega) s7 s8 W htl
      have ec : (ts.map (cand e)).foldl add (rnd fd (cands ts done)) = rnd fd (cands ts (done ++ [e])) := by
        unfold rnd
        rw [cands_snoc, List.foldl_append]
      rw [ec] at q
      exact ⟨_, [.pl (PD p), .pl (S ks), .ow (dX PD RD (rnd fd (cands ts (done ++ [e]))).1), .pl (lyD ly), .pl (.list (ts.map tD)), .ow (lyD (rnd fd (cands ts (done ++ [e]))).2), .pl (PD e.1), .no, .no], W', rfl, end_of (ru_seq ((fwFor (fwSeqL rfl) rfl).trans q) (ru_wipe (ru_nil rfl))), .pl (PD e.1), .no, .no, rfl⟩) ly [] [.pl (PD p), .pl (S ks), .ow (dX PD RD fd), .pl (lyD ly), .pl (.list (ts.map tD)), .ow (.list []), s6, s7, s8] W rfl ⟨s6, s7, s8, rfl⟩
  exact ⟨s6', s7', s8', W', q1⟩
theorem come_while (hn : n ≤ 3) (hts : ∀ t ∈ ts, 0 ≤ t.2) (htl : ts.length ≤ 1000) : ∀ (m fuel k : Nat) (fd ly F : Fd) (s5 s6 s7 s8 : Sl) (W : List Int), m ≤ fuel → k + m ≤ 1000 → runS ts m fd ly = some F → Good n fd → (∀ e ∈ ly, lkX fd e.1 = some e.2 ∧ e.1 ∈ words n ∧ e.2.length ≤ k) →
    ∃ W' s3' s5' s6' s7' s8', whileL fuel comeT comeB [.pl (PD p), .pl (S ks), .ow (dX PD RD fd), .pl (lyD ly), .pl (.list (ts.map tD)), s5, s6, s7, s8] W = some (.nx [.pl (PD p), .pl (S ks), .ow (dX PD RD F), s3', .pl (.list (ts.map tD)), s5', s6', s7', s8'] W') := by
  intro m
  induction m with
  | zero => intro fuel k fd ly F s5 s6 s7 s8 W _ _ h; cases h
  | succ m ih =>
    intro fuel k fd ly F s5 s6 s7 s8 W hf hkm hr hg hly
    obtain ⟨f, rfl⟩ : ∃ f, fuel = f + 1 := ⟨fuel - 1, by omega⟩
    have t : comeT [.pl (PD p), .pl (S ks), .ow (dX PD RD fd), .pl (lyD ly), .pl (.list (ts.map tD)), s5, s6, s7, s8] W = some (!ly.isEmpty, W) := fwB (fw2 rfl fwLst0 (neLM (fun e : Cd => PD e.1) ly _ _))
    unfold runS at hr
    by_cases he : ly.isEmpty = true
    · rw [if_pos he] at hr
      cases hr
      rw [he] at t
      exact ⟨W, _, s5, s6, s7, s8, fwWhileF t⟩
    · rw [if_neg he] at hr
      rw [show ly.isEmpty = false by simpa using he] at t
      obtain ⟨s6', s7', s8', W1, q⟩ := come_outer (p := p) (ks := ks) hn hts htl fd ly hg (fun e h => ⟨(hly e h).1, (hly e h).2.1, by have := (hly e h).2.2; omega⟩) s6 s7 s8 W
      have b : comeB [.pl (PD p), .pl (S ks), .ow (dX PD RD fd), .pl (lyD ly), .pl (.list (ts.map tD)), s5, s6, s7, s8] W = some (.nx [.pl (PD p), .pl (S ks), .ow (dX PD RD (rnd fd (cands ts ly)).1), .pl (lyD (rnd fd (cands ts ly)).2), .pl (.list (ts.map tD)), .pl (lyD (rnd fd (cands ts ly)).2), .no, .no, .no] W1) :=
        end_of (ru_set fwLst0 rfl (ru_seq ((fwFor (fwSeqL rfl) rfl).trans q) (ru_wipe (ru_seq (show sSet 3 false (cVar 5) _ W1 = some (.nx [.pl (PD p), .pl (S ks), .ow (dX PD RD (rnd fd (cands ts ly)).1), .pl (lyD (rnd fd (cands ts ly)).2), .pl (.list (ts.map tD)), .pl (lyD (rnd fd (cands ts ly)).2), .no, .no, .no] W1) from rfl) (ru_nil rfl)))))
      have hg' := rnd_good (ts := ts) hg (fun e he => (hly e he).2.1)
      obtain ⟨y, ey, hy⟩ := rnd_ext fd (cands ts ly)
      obtain ⟨W', s3', s5', s6'', s7'', s8'', z⟩ := ih f (k + 1) _ _ F (.pl (lyD (rnd fd (cands ts ly)).2)) .no .no .no W1 (by omega) (by omega) hr hg' (fun e he => by
        rw [ey] at he hg' ⊢
        have he : e ∈ y := he
        obtain ⟨e0, h0, t, _, ec⟩ := cands_mem (hy e he)
        refine ⟨?_, hg'.mem e (List.mem_append.2 (.inr he)), ?_⟩
        · show lkX (fd ++ y) e.1 = some e.2
          exact lk_nd hg'.nd (List.mem_append.2 (.inr he))
        · rw [ec]
          show (e0.2 ++ [t]).length ≤ k + 1
          rw [List.length_append, List.length_singleton]
          have := (hly e0 h0).2.2
          omega)
      exact ⟨W', s3', s5', s6'', s7'', s8'', (fwWhileT t b).trans z⟩
where
  lk_nd : ∀ {fd : Fd} {e : Cd}, (fd.map (·.1)).Nodup → e ∈ fd → lkX fd e.1 = some e.2
  | a :: fd, e, h, he => by
    rw [List.map_cons, List.nodup_cons] at h
    unfold lkX
    rcases List.mem_cons.mp he with rfl | he
    · rw [List.find?_cons_of_pos (by simp)]; rfl
    · rw [List.find?_cons_of_neg (by
        simp only [decide_eq_true_eq]
        intro z
        exact h.1 (z ▸ List.mem_map.mpr ⟨e, he, rfl⟩))]
      exact lk_nd (fd := fd) h.2 he
end
theorem fwDispN {f g : Ex} {env : SEnv} {W W1 W2 : List Int} {kd v : PyData} {k1 k2 : Kd} (e1 : f env W = some (kd, k1, W1)) (h1 : esc k1 = true) (e2 : g env W1 = some (v, k2, W2)) (h2 : esc k2 = true) (hk : (nkT kd).isSome = true) : cDispT (f, g) env W = some (.dict [(.none, .none), (kd, v)], .fr, W2) := by
  have e : cPairs [(f, g)] env W = some ([(kd, v)], W2) := by
    unfold cPairs
    dsimp only
    rw [e1, Option.bind_some]
    dsimp only
    rw [e2, Option.bind_some]
    dsimp only
    rw [h1, h2, Bool.and_self, if_pos rfl]
    rfl
  obtain ⟨k, hk⟩ := Option.isSome_iff_exists.mp hk
  unfold cDispT
  rw [e, Option.bind_some]
  dsimp only
  rw [hk]
  rfl
def comeF (p : Pile) (n : Nat) (ks : List Str) : Fd := (runS (turnsL n ks) 250 [(p, [])] [(p, [])]).getD []
section
variable {p : Pile} {n : Nat} {ks : List Str}
theorem good1 (hp : p ∈ words n) : Good n [(p, [])] := ⟨by simp, fun e he => by rw [List.mem_singleton] at he; rw [he]; exact hp⟩
theorem comeF_run (hn : n ≤ 3) (hp : p ∈ words n) : runS (turnsL n ks) 250 [(p, [])] [(p, [])] = some (comeF p n ks) := by
  have h216 : 6 ^ n ≤ 216 := Nat.pow_le_pow_right (by decide) hn
  obtain ⟨F, h⟩ := run_ends (turnsL n ks) 250 [(p, [])] [(p, [])] (good1 hp) (good1 hp).mem (by show _ ≤ 1 + 250; omega)
  unfold comeF
  rw [h]
  rfl
theorem run_good {ts : List Tr} : ∀ (m : Nat) (fd ly F : Fd), Good n fd → (∀ e ∈ ly, e.1 ∈ words n) → runS ts m fd ly = some F → Good n F
  | 0, _, _, _, _, _, h => by cases h
  | m + 1, fd, ly, F, hg, hl, h => by
    unfold runS at h
    by_cases he : ly.isEmpty = true
    · rw [if_pos he] at h
      cases h
      exact hg
    · rw [if_neg he] at h
      have hg' := rnd_good (ts := ts) hg hl
      obtain ⟨y, ey, _⟩ := rnd_ext fd (cands ts ly)
      rw [ey] at h hg'
      exact run_good m _ _ F hg' (fun e he => hg'.mem e (List.mem_append.2 (.inr he))) h
theorem comeF_good (hn : n ≤ 3) (hp : p ∈ words n) : Good n (comeF p n ks) := run_good 250 _ _ _ (good1 hp) (good1 hp).mem (comeF_run hn hp)
theorem come_ok (hn : n ≤ 3) (hp : p ∈ words n) : f_come_to [PD p, S ks] = some (dX PD RD (comeF p n ks)) := by
  show PX.runF 9 2 g_come_to _ = _
  refine runF_of rfl ?_
  show Runs g_come_to [.pl (PD p), .pl (S ks), .no, .no, .no, .no, .no, .no, .no] [] _
  unfold g_come_to
  have hlen : p.length = n := (words_mem.1 hp).1
  refine ru_par (fwDispN (kd := PD p) (v := RD []) rfl rfl rfl rfl (key_PD.fit p)) rfl (fwLst1 rfl rfl) rfl ?_
  show Runs _ [.pl (PD p), .pl (S ks), .ow (dX PD RD [(p, [])]), .pl (lyD [(p, [])]), .no, .no, .no, .no, .no] [] _
  refine ru_set (fwF2 (fw1 rfl (lenM shD p _)) rfl rfl rfl (by rw [hlen]; exact all_turns_ok n (by omega) ks)) rfl ?_
  show Runs _ [.pl (PD p), .pl (S ks), .ow (dX PD RD [(p, [])]), .pl (lyD [(p, [])]), .pl (.list ((turnsL n ks).map tD)), .no, .no, .no, .no] [] _
  obtain ⟨W', s3, s5, s6, s7, s8, q⟩ := come_while (p := p) (ks := ks) (ts := turnsL n ks) hn (fun t ht => by have := (turns_mem ht).2.1; omega) (by have := turns_len n ks; omega) 250 300 0 [(p, [])] [(p, [])] (comeF p n ks) .no .no .no .no [] (by decide) (by decide) (comeF_run hn hp) (good1 hp) (fun e he => by
    rw [List.mem_singleton] at he
    subst he
    exact ⟨by unfold lkX; rw [List.find?_cons_of_pos (by simp)]; rfl, hp, Nat.le_refl _⟩)
  exact ru_seq q (ru_retO (fwVarO rfl) rfl ⟨_, rfl⟩)
theorem fewest_ok (hn : n ≤ 3) (hp : p ∈ words n) (q : Pile) : f_fewest_turns [PD p, PD q] = some (((lkX (comeF p n [("over" : Str), "under"]) q).map RD).getD .none) := by
  show PX.runF 2 2 g_fewest_turns _ = _
  refine runF_of rfl ?_
  show Runs g_fewest_turns [.pl (PD p), .pl (PD q)] [] _
  unfold g_fewest_turns
  exact ru_ret (fw2 (fwF2 rfl rfl (fwTup2 fwK rfl fwK rfl) rfl (come_ok (ks := [("over" : Str), "under"]) hn hp)) rfl (get1X key_PD _ q _ _)) rfl ⟨_, rfl⟩
theorem can_ok (hn : n ≤ 3) (hp : p ∈ words n) (q : Pile) : f_can_come [PD p, PD q] = some (.bool (hasX (comeF p n [("over" : Str), "under"]) q)) := by
  show PX.runF 2 2 g_can_come _ = _
  refine runF_of rfl ?_
  show Runs g_can_come [.pl (PD p), .pl (PD q)] [] _
  unfold g_can_come
  refine ru_ret (k := .im) (W1 := []) (fw2 (fwF2 rfl rfl rfl rfl (fewest_ok hn hp q)) fwK ?_) rfl ⟨_, rfl⟩
  rw [← has_lk]
  cases lkX (comeF p n [("over" : Str), "under"]) q <;> rfl
theorem how_ok (hn : n ≤ 3) (hp : p ∈ words n) : f_how_many [PD p, S ks] = some (.int (comeF p n ks).length) := by
  show PX.runF 2 2 g_how_many _ = _
  refine runF_of rfl ?_
  show Runs g_how_many [.pl (PD p), .pl (S ks)] [] _
  unfold g_how_many
  refine ru_ret (k := .im) (W1 := []) (fw1 (fwF2 rfl rfl rfl rfl (come_ok hn hp)) ?_) rfl ⟨_, rfl⟩
  show (if isT ((PyData.none, PyData.none) :: eX PD RD (comeF p n ks)) = true then some (PyData.int ((((PyData.none, PyData.none) :: eX PD RD (comeF p n ks)).length : Int) - 1), Kd.im) else none) = _
  rw [if_pos (show isT ((PyData.none, PyData.none) :: eX PD RD (comeF p n ks)) = true from rfl), List.length_cons, eX_len, show (((comeF p n ks).length + 1 : Nat) : Int) - 1 = ((comeF p n ks).length : Int) by omega]
end
end K33

set_option maxHeartbeats 2000000
namespace K33
open PySem PX
/-! ### rows of turns in their order -/
theorem alike_t (t u : Tr) : PySem.W.alike (tD t) (tD u) = true := by simp [tD, PySem.W.alike, PySem.W.alikeAll]
theorem eqv_t (t u : Tr) : PyData.eqv (tD t) (tD u) = decide (t = u) := PySem.W.Datum.eqv (α := Str × Int) t u
def tltB (t u : Tr) : Bool := PySem.W.dataLt (tD t) (tD u)
theorem tltB_eq (w v : Str) (i j : Int) : tltB (w, i) (v, j) = if w = v then decide (i < j) else PySem.W.dataLt (.str w) (.str v) := by
  unfold tltB tD
  rw [PySem.W.dataLt_pair (by simp [PySem.W.alike]) (by simp [PySem.W.alike])]
  have e1 : PyData.eqv (.int i) (.int j) = decide (i = j) := PySem.W.Datum.eqv i j
  have e2 : PyData.eqv (.str w) (.str v) = decide (w = v) := PySem.W.Datum.eqv w v
  dsimp only
  rw [e1, e2, PySem.W.dataLt_int]
  by_cases h : w = v
  · rw [if_pos (decide_eq_true h), if_pos h]
    by_cases h2 : i = j
    · rw [if_pos (decide_eq_true h2), decide_eq_false (by omega)]
    · rw [if_neg (by simpa using h2)]
  · rw [if_neg (by simpa using h), if_neg h]
def ltB : Row → Row → Bool
  | t :: a, u :: b => if t = u then ltB a b else tltB t u
  | _, _ => false
theorem lexAll : ∀ a b : Row, a.length = b.length → PyProof.Rows.lexLt PyProof.Rows.itemOrd (PySem.W.keyToksAll (a.map tD)) (PySem.W.keyToksAll (b.map tD)) = ltB a b
  | [], [], _ => PyProof.Rows.lex_irrefl _
  | t :: a, u :: b, h => by
    rw [List.map_cons, List.map_cons, PySem.W.dataLt_cons (alike_t t u), eqv_t, lexAll a b (by simpa using h)]
    show _ = if t = u then ltB a b else tltB t u
    by_cases e : t = u
    · rw [if_pos (decide_eq_true e), if_pos e]
    · rw [if_neg (by simpa using e), if_neg e]
      rfl
  | [], _ :: _, h => by cases h
  | _ :: _, [], h => by cases h
theorem dataLt_R (a b : Row) (h : a.length = b.length) : PySem.W.dataLt (RD a) (RD b) = ltB a b := by
  unfold RD
  rw [PySem.W.dataLt_tuple]
  exact lexAll a b h
theorem ltB_pre : ∀ (r a b : Row), ltB (r ++ a) (r ++ b) = ltB a b
  | [], _, _ => rfl
  | t :: r, a, b => by
    show (if t = t then ltB (r ++ a) (r ++ b) else tltB t t) = _
    rw [if_pos rfl]
    exact ltB_pre r a b
theorem ltB_app : ∀ (a b x y : Row), a.length = b.length → a ≠ b → ltB (a ++ x) (b ++ y) = ltB a b
  | [], [], _, _, _, h => absurd rfl h
  | t :: a, u :: b, x, y, hl, h => by
    show (if t = u then ltB (a ++ x) (b ++ y) else tltB t u) = if t = u then ltB a b else tltB t u
    by_cases e : t = u
    · rw [if_pos e, if_pos e]
      exact ltB_app a b x y (by simpa using hl) fun z => h (by rw [e, z])
    · rw [if_neg e, if_neg e]
  | [], _ :: _, _, _, h, _ => by cases h
  | _ :: _, [], _, _, h, _ => by cases h
def Rel (a b : Row) : Prop := a ≠ b ∧ ltB b a = false
def RelT (t u : Tr) : Prop := t ≠ u ∧ tltB u t = false
theorem rgZ_pw (lo : Int) (n : Nat) : (rgZ lo n).Pairwise (· < ·) := by
  unfold rgZ
  rw [List.pairwise_map]
  exact List.pairwise_lt_range.imp fun h => by omega
theorem turns_pw (n : Nat) (ks : List Str) : (turnsL n ks).Pairwise RelT := by
  unfold turnsL
  rw [List.pairwise_flatMap]
  refine ⟨fun w _ => ?_, ?_⟩
  · rw [List.pairwise_map]
    refine (rgZ_pw 1 n).imp fun {i j} h => ⟨fun z => ?_, ?_⟩
    · have := congrArg Prod.snd z
      dsimp only at this
      omega
    · rw [tltB_eq, if_pos rfl]
      exact decide_eq_false (by omega)
  · refine List.Pairwise.filter _ ?_
    refine List.Pairwise.cons (fun v hv => ?_) (List.Pairwise.cons (fun v hv => by cases hv) .nil)
    rw [List.mem_singleton] at hv
    subst hv
    intro x hx y hy
    obtain ⟨i, _, rfl⟩ := List.mem_map.1 hx
    obtain ⟨j, _, rfl⟩ := List.mem_map.1 hy
    refine ⟨fun z => ?_, ?_⟩
    · have := congrArg Prod.fst z
      exact absurd (show ("over" : Str) = "under" from this) (by decide)
    · rw [tltB_eq, if_neg (by decide)]
      decide +kernel
theorem rows_pw {ts : List Tr} (ht : ts.Pairwise RelT) {k : Nat} : ∀ {cs : Fd}, (∀ c ∈ cs, c.2.length = k) → (cs.map (·.2)).Pairwise Rel → ((cands ts cs).map (·.2)).Pairwise Rel := fun {cs} hk hp => by
  have e : (cands ts cs).map (·.2) = cs.flatMap fun c => ts.map fun t => c.2 ++ [t] := by
    unfold cands
    rw [map_flat]
    congr 1
    funext c
    rw [List.map_map]
    rfl
  rw [e, List.pairwise_flatMap]
  refine ⟨fun c _ => ?_, ?_⟩
  · rw [List.pairwise_map]
    refine ht.imp fun {t u} h => ⟨fun z => h.1 (by have := List.append_cancel_left z; simpa using this), ?_⟩
    rw [ltB_pre]
    show (if u = t then false else tltB u t) = false
    rw [if_neg fun z => h.1 z.symm]
    exact h.2
  · rw [List.pairwise_map] at hp
    have hp2 : cs.Pairwise fun a b => Rel a.2 b.2 ∧ a ∈ cs ∧ b ∈ cs := List.Pairwise.imp_of_mem (fun {a b} ha hb h => ⟨h, ha, hb⟩) hp
    refine hp2.imp fun {a b} h x hx y hy => ?_
    obtain ⟨⟨h1, h2⟩, ha, hb⟩ := h
    obtain ⟨t, _, rfl⟩ := List.mem_map.1 hx
    obtain ⟨u, _, rfl⟩ := List.mem_map.1 hy
    have hl : a.2.length = b.2.length := by rw [hk a ha, hk b hb]
    refine ⟨fun z => h1 ?_, ?_⟩
    · exact (List.append_inj z hl).1
    · rw [ltB_app _ _ _ _ hl.symm fun z => h1 z.symm]
      exact h2
theorem alike_R : ∀ a b : Row, PySem.W.alikeAll (a.map tD) (b.map tD) = true
  | [], _ => by simp [PySem.W.alikeAll]
  | _ :: _, [] => by simp [PySem.W.alikeAll]
  | t :: a, u :: b => by
    rw [List.map_cons, List.map_cons, PySem.W.alikeAll, alike_t, alike_R a b]
    rfl
theorem sortedR (rows : List Row) (k : Nat) (hk : ∀ r ∈ rows, r.length = k) (h1 : 1 ≤ k ∨ rows.length ≤ 1) (hp : rows.Pairwise Rel) (kd : Kd) : oSortedZ [(.list (rows.map RD), kd)] = some (.list (rows.map RD), .fr) := by
  show (if (rows.map RD).length ≤ 1 then some (PyData.list (rows.map RD), Kd.fr) else oSorted [(.list (rows.map RD), kd)]) = _
  by_cases hl : (rows.map RD).length ≤ 1
  · rw [if_pos hl]
  · rw [if_neg hl]
    have hk1 : 1 ≤ k := h1.resolve_right (by rw [List.length_map] at hl; exact hl)
    have hb : sortB (rows.map RD) = true := by
      unfold sortB
      rw [Bool.and_eq_true, Bool.and_eq_true, Bool.or_eq_true]
      refine ⟨?_, ?_, .inl ?_⟩
      · rw [List.all_map]
        exact List.all_eq_true.mpr fun x _ => flat_RD x
      · unfold alikeB
        rw [List.all_map]
        refine List.all_eq_true.mpr fun a _ => ?_
        show ((rows.map RD).all fun e => PySem.W.alike (RD a) e) = true
        rw [List.all_map]
        exact List.all_eq_true.mpr fun b _ => by
          show PySem.W.alike (RD a) (RD b) = true
          unfold RD
          rw [PySem.W.alike]
          exact alike_R a b
      · rw [List.all_map]
        refine List.all_eq_true.mpr fun r hr => ?_
        have := hk r hr
        cases r with
        | nil => rw [List.length_nil] at this; omega
        | cons t r => rfl
    have hs : sortD (rows.map RD) = rows.map RD := by
      unfold sortD
      refine List.mergeSort_of_pairwise ?_
      rw [List.pairwise_map]
      refine List.Pairwise.imp_of_mem (fun {a b} ha hb h => ?_) hp
      show (!PySem.W.dataLt (RD b) (RD a)) = true
      rw [dataLt_R b a (by rw [hk a ha, hk b hb]), h.2]
      rfl
    show (if sortB (rows.map RD) then some (PyData.list (sortD (rows.map RD)), Kd.fr) else none) = _
    rw [if_pos hb, hs]
/-! ### the law's search is the program's, one step behind -/
def lawS (ts : List Tr) : Nat → Fd → Fd → Option Fd
  | 0, _, _ => none
  | n + 1, fd, cs => if cs.isEmpty = true then some fd else lawS ts n (rnd fd cs).1 (cands ts (rnd fd cs).2)
theorem law_run {ts : List Tr} : ∀ (n : Nat) (fd ly F : Fd), runS ts n fd ly = some F → lawS ts n fd (cands ts ly) = some F
  | 0, _, _, _, h => by cases h
  | n + 1, fd, ly, F, h => by
    unfold runS at h
    unfold lawS
    by_cases he : ly.isEmpty = true
    · rw [if_pos he] at h
      cases ly with
      | nil => exact h
      | cons a ly => cases he
    · rw [if_neg he] at h
      by_cases hc : (cands ts ly).isEmpty = true
      · rw [if_pos hc]
        have : cands ts ly = [] := List.isEmpty_iff.1 hc
        rw [this] at h
        cases n with
        | zero => cases h
        | succ n => exact h
      · rw [if_neg hc]
        exact law_run n _ _ F h
end K33

set_option maxHeartbeats 2000000
namespace K33
open PySem PX
/-! ### _law_all -/
abbrev lawT : Ct := bOf (cCall oNeL [cVar 3, cCall oLst []])
abbrev lawI : Sx := (sSeq (sDPut 4 (cCall oAdd [cVar 6, cCall oTup [cVar 7]]) (cFn f__law_turn [cCall oIx [cVar 4, cVar 6], cVar 7])) (sSeq (sApp 5 (cCall oAdd [cVar 6, cCall oTup [cVar 7]])) (sNil)))
abbrev lawO : Sx := (sSeq (sIf (bOf (cCall oNotIn [cCall oIx [cVar 4, cVar 6], cVar 2])) (sSeq (sDPut 2 (cCall oIx [cVar 4, cVar 6]) (cVar 6)) (sSeq (sFor (iSeq (cFn f__law_turns [cCall oLen [cVar 0], cVar 1])) (gN 7) lawI) (sWipe [7] (sNil)))) (sNil)) (sNil))
abbrev lawB : Sx := (sSeq (sSet 5 true (cCall oLst [])) (sSeq (sFor (iSeq (cCall oSortedZ [cVar 3])) (gN 6) lawO) (sWipe [6, 7] (sSeq (sSet 3 false (cVar 5)) (sNil)))))
def rD (rows : List Row) : PyData := .list (rows.map RD)
section
variable {p : Pile} {n : Nat} {ks : List Str}
def eD (p : Pile) (K : List Row) : PyData := dX RD PD (K.map fun r => (r, allT p r))
theorem ddS_mem {κ : Type} [DecidableEq κ] {ks : List κ} {a x : κ} : x ∈ ddS ks a ↔ x ∈ ks ∨ x = a := by
  unfold ddS
  split
  · rename_i h
    exact ⟨.inl, fun z => z.elim id fun z => z ▸ h⟩
  · rw [List.mem_append, List.mem_singleton]
theorem ddS_len {κ : Type} [DecidableEq κ] {ks : List κ} {a : κ} : (ddS ks a).length ≤ ks.length + 1 := by
  unfold ddS
  split <;> simp
theorem allT_in (hp : p ∈ words n) (r : Row) : allT p r ∈ words n := by
  induction r generalizing p with
  | nil => exact hp
  | cons t r ih => exact ih (turn_in t hp)
/-- the turns of one row -/
theorem law_inner (hn : n ≤ 3) (hp : p ∈ words n) {ts : List Tr} (hts : ts = turnsL n ks) (fd : Fd) (K : List Row) (later : List Row) (c : Row) (hc : c ∈ K) (hl : c.length ≤ 1000) (hK : K.length ≤ 10000) (hL : later.length ≤ 10000) (s3 s7 : Sl) (W : List Int) :
    ∃ K' s7' W', (∀ r ∈ K, r ∈ K') ∧ (∀ t ∈ ts, c ++ [t] ∈ K') ∧ K'.length ≤ K.length + ts.length ∧
      forL (gN 7) lawI (ts.map tD) [.pl (PD p), .pl (S ks), .ow (dX PD RD fd), s3, .ow (eD p K), .ow (rD later), .pl (RD c), s7] W = some (.nx [.pl (PD p), .pl (S ks), .ow (dX PD RD fd), s3, .ow (eD p K'), .ow (rD (later ++ ts.map fun t => c ++ [t])), .pl (RD c), s7'] W') := by
  have htl : ts.length ≤ 6 := by rw [hts]; have := turns_len n ks; omega
  have hcw := allT_in hp c
  have hc3 : (allT p c).length ≤ 100 := by have := (words_mem.1 hcw).1; omega
  obtain ⟨e', W', q1, K', s7', h1, h2, h3, rfl⟩ := forL_pre2 (t := gN 7) (g := lawI) tD ts
    (fun done env => ∃ (K' : List Row) (s7 : Sl), (∀ r ∈ K, r ∈ K') ∧ (∀ t ∈ done, c ++ [t] ∈ K') ∧ K'.length ≤ K.length + done.length ∧ env = [.pl (PD p), .pl (S ks), .ow (dX PD RD fd), s3, .ow (eD p K'), .ow (rD (later ++ done.map fun t => c ++ [t])), .pl (RD c), s7]) (fun done t rest hall env W hR => by
      obtain ⟨K', s7, h1, h2, h3, rfl⟩ := hR
      obtain ⟨hm, hdl, hin⟩ := pre_mem hall
      have ht := turns_mem (hts ▸ hm)
      refine ⟨_, [.pl (PD p), .pl (S ks), .ow (dX PD RD fd), s3, .ow (eD p (ddS K' (c ++ [t]))), .ow (rD (later ++ (done ++ [t]).map fun t => c ++ [t])), .pl (RD c), .pl (tD t)], W, rfl, end_of ?_, ddS K' (c ++ [t]), .pl (tD t), fun r hr => ddS_mem.2 (.inl (h1 r hr)), fun u hu => ?_, ?_, rfl⟩
      · refine ru_dput (i := 4) (es := (.none, .none) :: eX RD PD (K'.map fun r => (r, allT p r))) (d := PD (turnL (allT p c) t)) (k1 := .im) (W1 := W) (kd := RD (c ++ [t])) (W2 := W) rfl (fwF2 (fw2 (fwVarO rfl) rfl (ixX key_RD (lk_fn (fun r => allT p r) K' c (h1 c hc)) _ _)) rfl rfl rfl (law_turn_ok (allT p c) hc3 t (by omega) ht.1)) (fw2 rfl (fwTup1 rfl rfl) (addM c [t] (by simp; omega) _ _)) rfl (fitX key_RD _ _) (by rw [List.length_cons, eX_len, List.length_map]; omega) ?_
        have e : turnL (allT p c) t = allT p (c ++ [t]) := by rw [allT_app]; rfl
        rw [e, putF key_RD (fun r => allT p r) K' (c ++ [t])]
        refine ru_app (i := 5) (ds := (later ++ done.map fun t => c ++ [t]).map RD) (d := RD (c ++ [t])) (k := .im) (W1 := W) rfl (fw2 rfl (fwTup1 rfl rfl) (addM c [t] (by simp; omega) _ _)) rfl (by rw [List.length_map, List.length_append, List.length_map]; omega) (ru_nil ?_)
        unfold rD
        rw [List.map_append (l₁ := done), ← List.append_assoc, List.map_append (l₁ := later ++ _)]
        rfl
      · rcases List.mem_append.1 hu with z | z
        · exact ddS_mem.2 (.inl (h2 u z))
        · rw [List.mem_singleton] at z
          rw [z]
          exact ddS_mem.2 (.inr rfl)
      · have := ddS_len (ks := K') (a := c ++ [t])
        rw [List.length_append, List.length_singleton]
        omega) ts [] [.pl (PD p), .pl (S ks), .ow (dX PD RD fd), s3, .ow (eD p K), .ow (rD later), .pl (RD c), s7] W rfl ⟨K, s7, fun r h => h, (fun t h => by cases h), Nat.le_refl _, by rw [List.map_nil, List.append_nil]⟩
  exact ⟨K', s7', W', h1, h2, h3, q1⟩
/-- one round -/
theorem law_outer (hn : n ≤ 3) (hp : p ∈ words n) {ts : List Tr} (hts : ts = turnsL n ks) (fd cs : Fd) (K : List Row) (hg : Good n fd) (hcs : ∀ c ∈ cs, c.1 = allT p c.2 ∧ c.2 ∈ K ∧ c.2.length ≤ 1000) (hK : K.length ≤ 1 + 6 * fd.length) (s3 s6 s7 : Sl) (W : List Int) :
    ∃ K' s6' s7' W', (∀ r ∈ K, r ∈ K') ∧ (∀ c ∈ cands ts (rnd fd cs).2, c.2 ∈ K') ∧ K'.length ≤ 1 + 6 * (rnd fd cs).1.length ∧
      forL (gN 6) lawO (cs.map fun c => RD c.2) [.pl (PD p), .pl (S ks), .ow (dX PD RD fd), s3, .ow (eD p K), .ow (.list []), s6, s7] W = some (.nx [.pl (PD p), .pl (S ks), .ow (dX PD RD (rnd fd cs).1), s3, .ow (eD p K'), .ow (rD ((cands ts (rnd fd cs).2).map (·.2))), s6', s7'] W') := by
  have htl : ts.length ≤ 6 := by rw [hts]; have := turns_len n ks; omega
  have h216 : 6 ^ n ≤ 216 := Nat.pow_le_pow_right (by decide) hn
  have hlen : p.length = n := (words_mem.1 hp).1
  obtain ⟨e', W', q1, K', s6', s7', h1, h2, h3, rfl⟩ := forL_pre2 (t := gN 6) (g := lawO) (fun c : Cd => RD c.2) cs
    (fun done env => ∃ (K' : List Row) (s6 s7 : Sl), (∀ r ∈ K, r ∈ K') ∧ (∀ c ∈ cands ts (rnd fd done).2, c.2 ∈ K') ∧ K'.length ≤ 1 + 6 * (rnd fd done).1.length ∧ env = [.pl (PD p), .pl (S ks), .ow (dX PD RD (rnd fd done).1), s3, .ow (eD p K'), .ow (rD ((cands ts (rnd fd done).2).map (·.2))), s6, s7]) (fun done c rest hall env W hR => by
      obtain ⟨K', s6, s7, h1, h2, h3, rfl⟩ := hR
      obtain ⟨hm, hdl, hin⟩ := pre_mem hall
      obtain ⟨c1, c2, c3⟩ := hcs c hm
      have gd : Good n (rnd fd done).1 := fold_good _ _ hg fun x hx => by
        rw [(hcs x (hin x hx)).1]
        exact allT_in hp _
      have hgl := gd.len
      have er : rnd fd (done ++ [c]) = add (rnd fd done) c := by
        unfold rnd
        rw [List.foldl_append]
        rfl
      obtain ⟨y, ey, _⟩ := rnd_ext fd done
      have h22 : (rnd fd done).2.length ≤ 216 := by
        rw [ey] at hgl
        have hgl : (fd ++ y).length ≤ 6 ^ n := hgl
        rw [List.length_append] at hgl
        rw [ey]
        show y.length ≤ 216
        omega
      rw [er]
      generalize rnd fd done = st at gd hgl h2 h3 h22
      have e1 : cCall oIx [cVar 4, cVar 6] [.pl (PD p), .pl (S ks), .ow (dX PD RD st.1), s3, .ow (eD p K'), .ow (rD ((cands ts st.2).map (·.2))), .pl (RD c.2), s7] W = some (PD (allT p c.2), .im, W) := fw2 (fwVarO rfl) rfl (ixX key_RD (lk_fn (fun r => allT p r) K' c.2 (h1 _ c2)) _ _)
      have tt : bOf (cCall oNotIn [cCall oIx [cVar 4, cVar 6], cVar 2]) [.pl (PD p), .pl (S ks), .ow (dX PD RD st.1), s3, .ow (eD p K'), .ow (rD ((cands ts st.2).map (·.2))), .pl (RD c.2), s7] W = some (!hasX st.1 c.1, W) := by
        rw [c1]
        exact fwB (fw2 e1 (fwVarO rfl) (niX key_PD st.1 (allT p c.2) _ _))
      unfold add
      by_cases hh : hasX st.1 c.1 = true
      · rw [if_pos hh]
        rw [hh] at tt
        exact ⟨_, [.pl (PD p), .pl (S ks), .ow (dX PD RD st.1), s3, .ow (eD p K'), .ow (rD ((cands ts st.2).map (·.2))), .pl (RD c.2), s7], W, rfl, end_of (ru_pass tt (ru_nil rfl)), K', .pl (RD c.2), s7, h1, h2, h3, rfl⟩
      · have hh' : hasX st.1 c.1 = false := by simpa using hh
        rw [if_neg hh]
        rw [hh'] at tt
        have hcl : (cands ts st.2).length ≤ 6 * 216 := by
          have : ∀ xs : Fd, (cands ts xs).length = xs.length * ts.length := fun xs => by
            unfold cands
            induction xs with
            | nil => simp
            | cons x xs ih => rw [List.flatMap_cons, List.length_append, ih, List.length_map, List.length_cons, Nat.succ_mul]; omega
          rw [this, Nat.mul_comm]
          exact Nat.mul_le_mul htl h22
        obtain ⟨K'', s7', W1, g1, g2, g3, q⟩ := law_inner (ks := ks) hn hp hts (st.1 ++ [c]) K' ((cands ts st.2).map (·.2)) c.2 (h1 _ c2) c3 (by omega) (by rw [List.length_map]; omega) s3 s7 W
        have ec : c = (allT p c.2, c.2) := by rw [← c1]
        refine ⟨_, [.pl (PD p), .pl (S ks), .ow (dX PD RD (st.1 ++ [c])), s3, .ow (eD p K''), .ow (rD ((cands ts (st.2 ++ [c])).map (·.2))), .pl (RD c.2), .no], W1, rfl, end_of (ru_ifT tt (ru_assoc (ru_dput (i := 2) (es := (.none, .none) :: eX PD RD st.1) (d := RD c.2) (k1 := .im) (W1 := W) (kd := PD (allT p c.2)) (W2 := W) rfl rfl e1 rfl (fitX key_PD _ _) (by rw [List.length_cons, eX_len]; omega) ?_))), K'', .pl (RD c.2), .no, fun r hr => g1 r (h1 r hr), fun x hx => ?_, ?_, rfl⟩
        · rw [← c1, putX key_PD _ hh', show ((c.1, c.2) : Cd) = c from rfl]
          refine ru_assoc (ru_seq ((fwFor (fwSeqL (fwF2 (fw1 rfl (lenM shD p _)) rfl rfl rfl (by rw [hlen, hts]; exact law_turns_ok n (by omega) ks))) rfl).trans q) (ru_wipeS (ru_wipe (ru_nilS (ru_nil ?_)))))
          rw [cands_snoc, List.map_append, List.map_map]
          rfl
        · rw [cands_snoc] at hx
          rcases List.mem_append.1 hx with z | z
          · exact g1 _ (h2 x z)
          · obtain ⟨t, ht, rfl⟩ := List.mem_map.1 z
            exact g2 t ht
        · show K''.length ≤ 1 + 6 * (st.1 ++ [c]).length
          rw [List.length_append, List.length_singleton]
          omega) cs [] [.pl (PD p), .pl (S ks), .ow (dX PD RD fd), s3, .ow (eD p K), .ow (.list []), s6, s7] W rfl ⟨K, s6, s7, fun r h => h, (fun c h => by cases h), hK, rfl⟩
  exact ⟨K', s6', s7', W', h1, h2, h3, q1⟩
theorem law_while (hn : n ≤ 3) (hp : p ∈ words n) : ∀ (m fuel k : Nat) (fd cs F : Fd) (K : List Row) (s5 s6 s7 : Sl) (W : List Int), m ≤ fuel → k + m ≤ 1000 → lawS (turnsL n ks) m fd cs = some F → Good n fd → (∀ c ∈ cs, c.1 = allT p c.2 ∧ c.2 ∈ K ∧ c.2.length = k) → (1 ≤ k ∨ cs.length ≤ 1) → (cs.map (·.2)).Pairwise Rel → K.length ≤ 1 + 6 * fd.length →
    ∃ W' s3' s4' s5' s6' s7', whileL fuel lawT lawB [.pl (PD p), .pl (S ks), .ow (dX PD RD fd), .pl (rD (cs.map (·.2))), .ow (eD p K), s5, s6, s7] W = some (.nx [.pl (PD p), .pl (S ks), .ow (dX PD RD F), s3', s4', s5', s6', s7'] W') := by
  intro m
  induction m with
  | zero => intro fuel k fd cs F K s5 s6 s7 W _ _ h; cases h
  | succ m ih =>
    intro fuel k fd cs F K s5 s6 s7 W hf hkm hr hg hcs hk1 hpw hK
    obtain ⟨f, rfl⟩ : ∃ f, fuel = f + 1 := ⟨fuel - 1, by omega⟩
    have t : lawT [.pl (PD p), .pl (S ks), .ow (dX PD RD fd), .pl (rD (cs.map (·.2))), .ow (eD p K), s5, s6, s7] W = some (!(cs.map (·.2)).isEmpty, W) := fwB (fw2 rfl fwLst0 (neLM RD (cs.map fun c : Cd => c.2) _ _))
    unfold lawS at hr
    by_cases he : cs.isEmpty = true
    · rw [if_pos he] at hr
      cases hr
      rw [show (cs.map (·.2)).isEmpty = true by cases cs with | nil => rfl | cons a cs => cases he] at t
      exact ⟨W, _, _, s5, s6, s7, fwWhileF t⟩
    · rw [if_neg he] at hr
      rw [show (cs.map (·.2)).isEmpty = false by cases cs with | nil => exact absurd rfl he | cons a cs => rfl] at t
      obtain ⟨K', s6', s7', W1, g1, g2, g3, q⟩ := law_outer (ks := ks) hn hp rfl fd cs K hg (fun c h => ⟨(hcs c h).1, (hcs c h).2.1, by have := (hcs c h).2.2; omega⟩) hK (.pl (rD (cs.map (·.2)))) s6 s7 W
      have es : iSeq (cCall oSortedZ [cVar 3]) [.pl (PD p), .pl (S ks), .ow (dX PD RD fd), .pl (rD (cs.map (·.2))), .ow (eD p K), .ow (.list []), s6, s7] W = some (cs.map fun c => RD c.2, .im, W) := by
        refine (fwSeqF (fw1 rfl (sortedR (cs.map (·.2)) k (fun r hr => ?_) (by rw [List.length_map]; exact hk1) hpw _))).trans ?_
        · obtain ⟨c, hc, rfl⟩ := List.mem_map.1 hr
          exact (hcs c hc).2.2
        · rw [List.map_map]
          rfl
      have b : lawB [.pl (PD p), .pl (S ks), .ow (dX PD RD fd), .pl (rD (cs.map (·.2))), .ow (eD p K), s5, s6, s7] W = some (.nx [.pl (PD p), .pl (S ks), .ow (dX PD RD (rnd fd cs).1), .pl (rD ((cands (turnsL n ks) (rnd fd cs).2).map (·.2))), .ow (eD p K'), .pl (rD ((cands (turnsL n ks) (rnd fd cs).2).map (·.2))), .no, .no] W1) :=
        end_of (ru_set fwLst0 rfl (ru_seq ((fwFor es rfl).trans q) (ru_wipe (ru_seq (show sSet 3 false (cVar 5) _ W1 = some (.nx [.pl (PD p), .pl (S ks), .ow (dX PD RD (rnd fd cs).1), .pl (rD ((cands (turnsL n ks) (rnd fd cs).2).map (·.2))), .ow (eD p K'), .pl (rD ((cands (turnsL n ks) (rnd fd cs).2).map (·.2))), .no, .no] W1) from rfl) (ru_nil rfl)))))
      obtain ⟨y, ey, hy⟩ := rnd_ext fd cs
      have hnew : ∀ c ∈ (rnd fd cs).2, c ∈ cs := by rw [ey]; exact hy
      obtain ⟨W', s3', s4', s5', s6'', s7'', z⟩ := ih f (k + 1) _ _ F K' (.pl (rD ((cands (turnsL n ks) (rnd fd cs).2).map (·.2)))) .no .no W1 (by omega) (by omega) hr (fold_good _ _ hg fun x hx => by rw [(hcs x hx).1]; exact allT_in hp _) (fun c hc => by
        refine ⟨?_, g2 c hc, ?_⟩
        · obtain ⟨e, he, t, _, rfl⟩ := cands_mem hc
          show turnL e.1 t = allT p (e.2 ++ [t])
          rw [allT_app, (hcs e (hnew e he)).1]
          rfl
        · obtain ⟨e, he, t, _, rfl⟩ := cands_mem hc
          show (e.2 ++ [t]).length = k + 1
          rw [List.length_append, (hcs e (hnew e he)).2.2]
          rfl) (.inl (by omega)) (rows_pw (turns_pw n ks) (k := k) (fun c hc => (hcs c (hnew c hc)).2.2) (by
        refine List.Pairwise.sublist (List.Sublist.map _ ?_) hpw
        exact new_sub cs (fd, []))) g3
      exact ⟨W', s3', s4', s5', s6'', s7'', (fwWhileT t b).trans z⟩
where
  new_sub : ∀ (cs : Fd) (st : Fd × Fd), (cs.foldl add (st.1, [])).2.Sublist cs
  | [], _ => .slnil
  | c :: cs, st => by
    have e : ∀ (xs : Fd) (a b : Fd), (xs.foldl add (a, b)).2 = b ++ (xs.foldl add (a, [])).2 := fun xs => by
      induction xs with
      | nil => intro a b; show b = b ++ []; rw [List.append_nil]
      | cons x xs ih =>
        intro a b
        have ea : ∀ b : Fd, add (a, b) x = if hasX a x.1 = true then (a, b) else (a ++ [x], b ++ [x]) := fun b => rfl
        rw [List.foldl_cons, List.foldl_cons, ea, ea]
        by_cases h : hasX a x.1 = true
        · rw [if_pos h, if_pos h]
          exact ih a b
        · rw [if_neg h, if_neg h, ih _ (b ++ [x]), ih _ ([] ++ [x]), List.nil_append, List.append_assoc]
    have ea : add (st.1, []) c = if hasX st.1 c.1 = true then (st.1, []) else (st.1 ++ [c], [] ++ [c]) := rfl
    rw [List.foldl_cons, ea]
    by_cases h : hasX st.1 c.1 = true
    · rw [if_pos h]
      exact (new_sub cs st).cons _
    · rw [if_neg h, e]
      exact List.Sublist.cons₂ c (new_sub cs (st.1 ++ [c], []))
theorem law_all_ok (hn : n ≤ 3) (hp : p ∈ words n) : f__law_all [PD p, S ks] = some (dX PD RD (comeF p n ks)) := by
  show PX.runF 8 2 g__law_all _ = _
  refine runF_of rfl ?_
  show Runs g__law_all [.pl (PD p), .pl (S ks), .no, .no, .no, .no, .no, .no] [] _
  unfold g__law_all
  refine ru_par (d1 := dX PD RD []) (k1 := .fr) (W1 := []) rfl rfl (fwLst1 rfl rfl) rfl ?_
  refine ru_set (fwDispN (kd := RD []) (v := PD p) (W1 := []) (W2 := []) rfl rfl rfl rfl (key_RD.fit [])) rfl ?_
  show Runs _ [.pl (PD p), .pl (S ks), .ow (dX PD RD []), .pl (rD [[]]), .ow (eD p [[]]), .no, .no, .no] [] _
  have h0 : lawS (turnsL n ks) 251 [] [(p, [])] = some (comeF p n ks) := law_run 250 [(p, [])] [(p, [])] _ (comeF_run hn hp)
  obtain ⟨W', s3, s4, s5, s6, s7, q⟩ := law_while (p := p) (ks := ks) hn hp 251 300 0 [] [(p, [])] (comeF p n ks) [[]] .no .no .no [] (by decide) (by decide) h0 ⟨.nil, fun e h => by cases h⟩ (fun c hc => by
    rw [List.mem_singleton] at hc
    subst hc
    exact ⟨rfl, by simp, rfl⟩) (.inr (by simp)) (List.pairwise_singleton _ _) (by decide)
  exact ru_seq q (ru_retO (fwVarO rfl) rfl ⟨_, rfl⟩)
end
end K33

set_option maxHeartbeats 2000000
namespace K33
open PySem PX
/-! ### turning back -/
structure TOk (many : Nat) (t : Tr) : Prop where
  w : t.1 = "over" ∨ t.1 = "under"
  lo : 1 ≤ t.2
  hi : t.2 ≤ many
theorem over_over (p : Pile) : overL (overL p) = p := by
  unfold overL
  rw [← List.map_reverse, List.reverse_reverse, List.map_map]
  have : ((fun s : Sh => (s.1, !s.2)) ∘ fun s => (s.1, !s.2)) = id := by
    funext s
    show (s.1, !(!s.2)) = s
    rw [Bool.not_not]
  rw [this, List.map_id]
theorem back_eq {many : Nat} {t : Tr} {p : Pile} (h : TOk many t) (hp : p.length = many) : allT (turnL p t) (backL many t) = p := by
  obtain ⟨hw, h1, h2⟩ := h
  unfold backL
  by_cases ho : t.1 = "over"
  · rw [if_pos ho]
    show turnL (turnL p t) t = p
    have e : ∀ q : Pile, turnL q t = overL (q.take t.2.toNat) ++ q.drop t.2.toNat := fun q => by unfold turnL; rw [if_pos ho]
    have hl : (overL (p.take t.2.toNat)).length = t.2.toNat := by rw [over_len, List.length_take]; omega
    rw [e (turnL p t), e p, List.take_left' hl, List.drop_left' hl, over_over, List.take_append_drop]
  · rw [if_neg ho]
    have e : ∀ (q : Pile) (k : Int), turnL q ("under", k) = q.drop k.toNat ++ q.take k.toNat := fun q k => by unfold turnL; rw [if_neg (show ¬ (("under" : Str) = "over") by decide)]
    have e0 : turnL p t = p.drop t.2.toNat ++ p.take t.2.toNat := by unfold turnL; rw [if_neg ho]
    by_cases hn : t.2 < (many : Int)
    · rw [if_pos hn]
      show turnL (turnL p t) ("under", (many : Int) - t.2) = p
      have hl : (p.drop t.2.toNat).length = ((many : Int) - t.2).toNat := by rw [List.length_drop]; omega
      rw [e, e0, List.take_left' hl, List.drop_left' hl, List.take_append_drop]
    · rw [if_neg hn]
      show turnL p t = p
      rw [e0, List.drop_of_length_le (by omega), List.take_of_length_le (by omega)]
      rfl
theorem back_len (many : Int) (t : Tr) : (backL many t).length ≤ 1 := by
  unfold backL
  split
  · simp
  · split <;> simp
theorem back_pos {many : Nat} {t : Tr} (h : TOk many t) : ∀ u ∈ backL many t, 0 ≤ u.2 := fun u hu => by
  have := h.lo
  unfold backL at hu
  split at hu
  · rw [List.mem_singleton] at hu; subst hu; omega
  · split at hu
    · rename_i h2
      rw [List.mem_singleton] at hu; subst hu; show 0 ≤ (many : Int) - t.2; omega
    · cases hu
theorem turn_inj {many : Nat} {t : Tr} {p q : Pile} (h : TOk many t) (hp : p.length = many) (hq : q.length = many) (e : turnL p t = turnL q t) : p = q := by
  rw [← back_eq h hp, ← back_eq h hq, e]
theorem all_inj {many : Nat} : ∀ {r : Row} {p q : Pile}, (∀ t ∈ r, TOk many t) → p.length = many → q.length = many → allT p r = allT q r → p = q
  | [], _, _, _, _, _, e => e
  | t :: r, p, q, h, hp, hq, e => turn_inj (h t (by simp)) hp hq (all_inj (r := r) (fun u hu => h u (by simp [hu])) (by rw [turn_len, hp]) (by rw [turn_len, hq]) e)
/-! ### how often -/
def itT (r : Row) : Nat → Pile → Pile
  | 0, p => p
  | j + 1, p => allT (itT r j p) r
theorem it_len (r : Row) : ∀ (j : Nat) (p : Pile), (itT r j p).length = p.length
  | 0, _ => rfl
  | j + 1, p => by
    show (allT (itT r j p) r).length = _
    rw [all_len, it_len r j p]
theorem it_add (r : Row) : ∀ (i j : Nat) (p : Pile), itT r (i + j) p = itT r i (itT r j p)
  | 0, j, p => by rw [Nat.zero_add]; rfl
  | i + 1, j, p => by
    rw [show i + 1 + j = (i + j) + 1 by omega]
    show allT (itT r (i + j) p) r = allT (itT r i (itT r j p)) r
    rw [it_add r i j p]
theorem it_inj {many : Nat} {r : Row} (h : ∀ t ∈ r, TOk many t) : ∀ (j : Nat) {p q : Pile}, p.length = many → q.length = many → itT r j p = itT r j q → p = q
  | 0, _, _, _, _, e => e
  | j + 1, p, q, hp, hq, e => it_inj h j hp hq (all_inj h (by rw [it_len, hp]) (by rw [it_len, hq]) e)
theorem it_in {n : Nat} {r : Row} {p : Pile} (hp : p ∈ words n) : ∀ j, itT r j p ∈ words n
  | 0 => hp
  | j + 1 => allT_in (it_in hp j) r
theorem comes_round {n : Nat} {r : Row} {p : Pile} (hn : n ≤ 3) (hp : p ∈ words n) (h : ∀ t ∈ r, TOk n t) : ∃ k, 1 ≤ k ∧ k ≤ 216 ∧ itT r k p = p := Classical.byContradiction fun hno => by
  have h216 : 6 ^ n ≤ 216 := Nat.pow_le_pow_right (by decide) hn
  have hlen : p.length = n := (words_mem.1 hp).1
  have hnd : ((List.range 217).map fun j => itT r j p).Nodup := by
    have : (List.range 217).Pairwise fun i j => i < j ∧ i ∈ List.range 217 ∧ j ∈ List.range 217 := List.Pairwise.imp_of_mem (fun {a b} ha hb h => ⟨h, ha, hb⟩) List.pairwise_lt_range
    unfold List.Nodup
    rw [List.pairwise_map]
    refine this.imp fun {i j} hij => show itT r i p ≠ itT r j p from fun e => hno ⟨j - i, by omega, ?_, ?_⟩
    · have := List.mem_range.1 hij.2.2
      omega
    · refine (it_inj h i hlen (by rw [it_len, hlen]) ?_).symm
      rw [e, ← it_add, show i + (j - i) = j by omega]
  have := ndLen (ns := words n) hnd fun x hx => by
    obtain ⟨j, _, rfl⟩ := List.mem_map.1 hx
    exact it_in hp j
  rw [List.length_map, List.length_range, words_len] at this
  omega
theorem least_of {P : Nat → Prop} : ∀ N : Nat, (∃ k, 1 ≤ k ∧ k ≤ N ∧ P k) → ∃ k, 1 ≤ k ∧ k ≤ N ∧ P k ∧ ∀ j, 1 ≤ j → j < k → ¬ P j
  | 0, ⟨k, h1, h2, _⟩ => by omega
  | N + 1, ⟨k, h1, h2, h3⟩ => by
    by_cases h : ∃ j, 1 ≤ j ∧ j ≤ N ∧ P j
    · obtain ⟨k, a, b, c, d⟩ := least_of N h
      exact ⟨k, a, by omega, c, d⟩
    · exact ⟨k, h1, h2, h3, fun j a b c => h ⟨j, a, by omega, c⟩⟩
/-- k is how often the turns come round -/
structure Ord (r : Row) (p : Pile) (k : Nat) : Prop where
  lo : 1 ≤ k
  hi : k ≤ 216
  at_ : itT r k p = p
  bef : ∀ j, 1 ≤ j → j < k → itT r j p ≠ p
theorem ord_ex {n : Nat} {r : Row} {p : Pile} (hn : n ≤ 3) (hp : p ∈ words n) (h : ∀ t ∈ r, TOk n t) : ∃ k, Ord r p k := by
  obtain ⟨k, a, b, c, d⟩ := least_of 216 (comes_round hn hp h)
  exact ⟨k, a, b, c, d⟩
theorem order_ok {r : Row} {p : Pile} {k : Nat} (hp : p.length ≤ 100) (hr : ∀ t ∈ r, 0 ≤ t.2) (h : Ord r p k) : f_order_of_turns [PD p, RD r] = some (.int k) := by
  show PX.runF 4 2 g_order_of_turns _ = _
  refine runF_of rfl ?_
  show Runs g_order_of_turns [.pl (PD p), .pl (RD r), .no, .no] [] _
  unfold g_order_of_turns
  refine ru_par (sl := .pl (PD (itT r 1 p))) (sl2 := .pl (.int 1)) (fwF2 rfl rfl rfl rfl (all_turned_ok p hp (.inl rfl) hr)) rfl fwK rfl ?_
  show Runs _ [.pl (PD p), .pl (RD r), .pl (PD (itT r 1 p)), .pl (.int ((1 : Nat) : Int))] [] _
  have loop : ∀ (d j fuel : Nat) (W : List Int), j + d = k → 1 ≤ j → d < fuel → whileL fuel (bOf (cCall oNe [cVar 2, cVar 0])) (sSeq (sPar 2 false 3 false (cFn f_all_turned [cVar 2, cVar 1]) (cCall oAdd [cVar 3, cK (.int 1)])) (sNil)) [.pl (PD p), .pl (RD r), .pl (PD (itT r j p)), .pl (.int (j : Nat))] W = some (.nx [.pl (PD p), .pl (RD r), .pl (PD p), .pl (.int (k : Nat))] W) := by
    intro d
    induction d with
    | zero =>
      intro j fuel W hj h1 hf
      obtain ⟨f, rfl⟩ : ∃ f, fuel = f + 1 := ⟨fuel - 1, by omega⟩
      obtain rfl : j = k := by omega
      have t : bOf (cCall oNe [cVar 2, cVar 0]) [.pl (PD p), .pl (RD r), .pl (PD (itT r j p)), .pl (.int (j : Nat))] W = some (false, W) := fwB ((fw2 rfl rfl (ne_PD _ _ _ _)).trans (by rw [h.at_, decide_eq_true rfl]; rfl))
      exact (fwWhileF t).trans (by rw [h.at_])
    | succ d ih =>
      intro j fuel W hj h1 hf
      obtain ⟨f, rfl⟩ : ∃ f, fuel = f + 1 := ⟨fuel - 1, by omega⟩
      have t : bOf (cCall oNe [cVar 2, cVar 0]) [.pl (PD p), .pl (RD r), .pl (PD (itT r j p)), .pl (.int (j : Nat))] W = some (true, W) := fwB ((fw2 rfl rfl (ne_PD _ _ _ _)).trans (by rw [decide_eq_false (h.bef j h1 (by omega))]; rfl))
      have b : (sSeq (sPar 2 false 3 false (cFn f_all_turned [cVar 2, cVar 1]) (cCall oAdd [cVar 3, cK (.int 1)])) (sNil)) [.pl (PD p), .pl (RD r), .pl (PD (itT r j p)), .pl (.int (j : Nat))] W = some (.nx [.pl (PD p), .pl (RD r), .pl (PD (itT r (j + 1) p)), .pl (.int (j + 1 : Nat))] W) :=
        end_of (ru_par (fwF2 rfl rfl rfl rfl (all_turned_ok (itT r j p) (by rw [it_len]; exact hp) (.inl rfl) hr)) rfl (fw2 rfl fwK (addI _ _ _ _)) rfl (ru_nil rfl))
      exact (fwWhileT t b).trans (ih (j + 1) f W (by omega) (by omega) (by omega))
  exact ru_seq (loop (k - 1) 1 300 [] (by have := h.lo; omega) (Nat.le_refl _) (by have := h.hi; omega)) (ru_ret rfl rfl ⟨_, rfl⟩)
/-! ### sides -/
theorem sides_ok (p : Pile) : f_sides_up [PD p] = some (.int ((p.filter fun s => s.2).length)) := by
  show PX.runF 3 1 g_sides_up _ = _
  refine runF_of rfl ?_
  show Runs g_sides_up [.pl (PD p), .no, .no] [] _
  unfold g_sides_up
  exact ru_ret (fw1 (fwLc rfl (fwSeqT rfl) rfl (lcL_fm shD (fun s => s.2) (fun _ => .int 1) p (fun s hs => ⟨_, rfl, fwB rfl, fun _ => ⟨.im, rfl, rfl⟩⟩))) (lenML (fun _ => PyData.int 1) _ _)) rfl ⟨_, rfl⟩
theorem sides_sum (p : Pile) : ((p.map fun s => if s.2 = true then (1 : Int) else 0).sum) = ((p.filter fun s => s.2).length : Int) := by
  induction p with
  | nil => rfl
  | cons s p ih =>
    rw [List.map_cons, List.sum_cons, ih, List.filter_cons]
    cases s.2 with
    | true => rw [if_pos rfl, if_pos rfl, List.length_cons]; omega
    | false => rw [if_neg Bool.false_ne_true, if_neg Bool.false_ne_true]; omega
end K33

set_option maxHeartbeats 2000000
namespace K33
open PySem PX
/-! ### sorted numbers, sorted piles -/
def srt {α : Type} (enc : α → PyData) (xs : List α) : List α := xs.mergeSort fun a b => PySem.W.dataLe false id (enc a) (enc b)
theorem srt_perm {α : Type} (enc : α → PyData) (xs : List α) : (srt enc xs).Perm xs := List.mergeSort_perm _ _
theorem srt_pw {α : Type} (enc : α → PyData) (xs : List α) : (srt enc xs).Pairwise fun a b => PySem.W.dataLe false id (enc a) (enc b) = true := by
  have T := PySem.W.sortLe_total (PyProof.Rows.listOrd PyProof.Rows.itemOrd) false (fun a : α => PySem.W.keyToks (enc a))
  exact List.pairwise_mergeSort (le := fun a b : α => PySem.W.dataLe false id (enc a) (enc b)) (fun a b c h1 h2 => T.trans a b c h1 h2) (fun a b => by rw [Bool.or_eq_true]; exact T.total a b) xs
theorem sortD_srt {α : Type} (enc : α → PyData) (xs : List α) : sortD (xs.map enc) = (srt enc xs).map enc := by
  unfold sortD srt
  rw [List.map_mergeSort]
  intro a _ b _
  rfl
theorem sortedSrt {α : Type} (enc : α → PyData) (hf : ∀ a, flat (enc a) = true) (ha : ∀ a b, PySem.W.alike (enc a) (enc b) = true) (hn : (∀ a, tupNe (enc a) = true) ∨ ∀ a, notTup (enc a) = true) (xs : List α) : sortB (xs.map enc) = true := by
  unfold sortB
  rw [Bool.and_eq_true, Bool.and_eq_true, Bool.or_eq_true]
  refine ⟨?_, ?_, ?_⟩
  · rw [List.all_map]
    exact List.all_eq_true.mpr fun x _ => hf x
  · unfold alikeB
    rw [List.all_map]
    refine List.all_eq_true.mpr fun a _ => ?_
    show ((xs.map enc).all fun e => PySem.W.alike (enc a) e) = true
    rw [List.all_map]
    exact List.all_eq_true.mpr fun b _ => ha a b
  · rcases hn with h | h
    · left
      rw [List.all_map]
      exact List.all_eq_true.mpr fun x _ => h x
    · right
      rw [List.all_map]
      exact List.all_eq_true.mpr fun x _ => h x
theorem flat_sh (s : Sh) : flat (shD s) = true := flat_D (α := Int × Bool) (by decide) s
theorem alike_sh (a b : Sh) : PySem.W.alike (shD a) (shD b) = true := by simp [shD, PySem.W.alike, PySem.W.alikeAll]
theorem sortedPile (p : Pile) (k : Kd) : oSorted [(PD p, k)] = some (.list ((srt shD p).map shD), .fr) := by
  show (if sortB (p.map shD) then some (PyData.list (sortD (p.map shD)), Kd.fr) else none) = _
  rw [if_pos (sortedSrt shD flat_sh alike_sh (.inl fun _ => rfl) p), sortD_srt]
theorem sortedPileL (p : Pile) (k : Kd) : oSorted [(.list (p.map shD), k)] = some (.list ((srt shD p).map shD), .fr) := by
  show (if sortB (p.map shD) then some (PyData.list (sortD (p.map shD)), Kd.fr) else none) = _
  rw [if_pos (sortedSrt shD flat_sh alike_sh (.inl fun _ => rfl) p), sortD_srt]
theorem sortedInts (xs : List Int) (k : Kd) : oSorted [(.list (xs.map PyData.int), k)] = some (.list ((srt PyData.int xs).map PyData.int), .fr) := by
  show (if sortB (xs.map PyData.int) then some (PyData.list (sortD (xs.map PyData.int)), Kd.fr) else none) = _
  rw [if_pos (sortedSrt PyData.int (fun _ => rfl) (fun _ _ => rfl) (.inr fun _ => rfl) xs), sortD_srt]
theorem srt_ints {xs ys : List Int} (hp : xs.Perm ys) (hs : ys.Pairwise (· ≤ ·)) : srt PyData.int xs = ys := by
  refine List.Perm.eq_of_pairwise (le := (· ≤ ·)) (fun a b _ _ h1 h2 => Int.le_antisymm h1 h2) ((srt_pw PyData.int xs).imp fun {a b} h => ?_) hs ((srt_perm _ _).trans hp)
  have h : (!PySem.W.dataLt (.int b) (.int a)) = true := h
  rw [PySem.W.dataLt_int] at h
  simp only [Bool.not_eq_true', decide_eq_false_iff_not] at h
  omega
theorem srt_pile {p : Pile} {ys : List Int} (hp : (p.map (·.1)).Perm ys) (hs : ys.Pairwise (· ≤ ·)) : (srt shD p).map (·.1) = ys := by
  refine List.Perm.eq_of_pairwise (le := (· ≤ ·)) (fun a b _ _ h1 h2 => Int.le_antisymm h1 h2) ?_ hs (((srt_perm _ _).map _).trans hp)
  rw [List.pairwise_map]
  refine (srt_pw shD p).imp fun {a b} h => ?_
  have h : (!PySem.W.dataLt (shD b) (shD a)) = true := h
  unfold shD at h
  rw [PySem.W.dataLt_pair (by simp [PySem.W.alike]) (by simp [PySem.W.alike])] at h
  have e1 : PyData.eqv (.int b.1) (.int a.1) = decide (b.1 = a.1) := PySem.W.Datum.eqv b.1 a.1
  rw [e1, PySem.W.dataLt_int] at h
  by_cases e : b.1 = a.1
  · omega
  · rw [if_neg (by simpa using e)] at h
    simp only [Bool.not_eq_true', decide_eq_false_iff_not] at h
    omega
/-! ### sorting by turning over -/
def gl (n : Nat) : List Int := ([1, 3, 5] : List Int).take n
structure PN (n : Nat) (q : Pile) : Prop where
  w : q ∈ words n
  g : ∀ x ∈ gl n, x ∈ q.map (·.1)
theorem turn_nums (q : Pile) (t : Tr) (x : Int) : x ∈ (turnL q t).map (·.1) ↔ x ∈ q.map (·.1) := by
  have ho : ∀ q : Pile, (overL q).map (·.1) = (q.map (·.1)).reverse := fun q => by
    unfold overL
    rw [List.map_map, ← List.map_reverse]
    rfl
  have hs : ∀ k, x ∈ q.map (·.1) ↔ x ∈ (q.take k).map (·.1) ∨ x ∈ (q.drop k).map (·.1) := fun k => by
    rw [← List.mem_append, ← List.map_append, List.take_append_drop]
  rw [hs t.2.toNat]
  unfold turnL
  split
  · rw [List.map_append, List.mem_append, ho, List.mem_reverse]
  · rw [List.map_append, List.mem_append, or_comm]
theorem PN.turn {n : Nat} {q : Pile} (h : PN n q) (t : Tr) : PN n (turnL q t) := ⟨turn_in t h.w, fun x hx => (turn_nums q t x).2 (h.g x hx)⟩
theorem PN.all {n : Nat} {q : Pile} (h : PN n q) : ∀ r : Row, PN n (allT q r) := fun r => by
  induction r generalizing q with
  | nil => exact h
  | cons t r ih => exact ih (h.turn t)
theorem nums_perm {n : Nat} {q : Pile} (hn : n ≤ 3) (h : PN n q) : (q.map (·.1)).Perm (gl n) := by
  have all : ∀ n ∈ [0, 1, 2, 3], ∀ q ∈ words n, (gl n).all (fun x => (q.map (·.1)).contains x) = true → (q.map (·.1)).isPerm (gl n) = true := by decide +kernel
  have := all n (by simp; omega) q h.w (List.all_eq_true.2 fun x hx => List.contains_iff_mem.2 (h.g x hx))
  exact List.isPerm_iff.1 this
theorem gl_pw {n : Nat} (hn : n ≤ 3) : (gl n).Pairwise (· ≤ ·) := by
  unfold gl
  exact List.Pairwise.sublist (List.take_sublist _ _) (by decide)
theorem gl_len {n : Nat} (hn : n ≤ 3) : (gl n).length = n := by
  unfold gl
  rw [List.length_take]
  show min n 3 = n
  omega
def shAt (q : Pile) (i : Int) : Sh := (q[i.toNat]?).getD (0, true)
def glAt (n : Nat) (i : Int) : Int := ((gl n)[i.toNat]?).getD 0
def atP (g : Int) (q : Pile) : Nat := (q.map (·.1)).findIdx fun z => decide (z = g)
def sdP (q : Pile) (a : Nat) : Bool := if a = 0 then (shAt q a).2 else !(shAt q a).2
def rowP (g : Int) (q : Pile) (place : Int) : Row := ((if 0 < atP g q then [(("over" : Str), ((atP g q : Nat) : Int) + 1)] else []) ++ (if sdP q (atP g q) = true then [(("over" : Str), (1 : Int))] else [])) ++ [(("over" : Str), place + 1)]
def stepO (n : Nat) (st : Row × Pile) (place : Int) : Row × Pile := if shAt st.2 place = (glAt n place, true) then st else (st.1 ++ rowP (glAt n place) st.2 place, allT st.2 (rowP (glAt n place) st.2 place))
def downL (n : Nat) : List Int := (List.range n).map fun i : Nat => ((n : Int) - 1) - i
def sortO (n : Nat) (q : Pile) : Row × Pile := (downL n).foldl (stepO n) ([], q)
theorem sortO_ok {n : Nat} {q : Pile} (hn : n ≤ 3) (h : PN n q) : (sortO n q).2 = (gl n).map (fun x => (x, true)) ∧ (∀ t ∈ (sortO n q).1, t.1 = "over" ∧ 1 ≤ t.2 ∧ t.2 ≤ n) ∧ (sortO n q).1.length ≤ 3 * n := by
  have all : ∀ n ∈ [0, 1, 2, 3], ∀ q ∈ words n, (gl n).all (fun x => (q.map (·.1)).contains x) = true → (decide ((sortO n q).2 = (gl n).map (fun x => (x, true))) && (sortO n q).1.all (fun t => decide (t.1 = "over") && decide (1 ≤ t.2) && decide (t.2 ≤ n)) && decide ((sortO n q).1.length ≤ 3 * n)) = true := by decide +kernel
  have := all n (by simp; omega) q h.w (List.all_eq_true.2 fun x hx => List.contains_iff_mem.2 (h.g x hx))
  rw [Bool.and_eq_true, Bool.and_eq_true, List.all_eq_true, decide_eq_true_eq, decide_eq_true_eq] at this
  exact ⟨this.1.1, fun t ht => by
    have := this.1.2 t ht
    rw [Bool.and_eq_true, Bool.and_eq_true, decide_eq_true_eq, decide_eq_true_eq, decide_eq_true_eq] at this
    exact ⟨this.1.1, this.1.2, this.2⟩, this.2⟩
theorem sortO_all {n : Nat} : ∀ (ds : List Int) (r : Row) (q q0 : Pile), allT q0 r = q → allT q0 (ds.foldl (stepO n) (r, q)).1 = (ds.foldl (stepO n) (r, q)).2
  | [], r, q, q0, h => h
  | d :: ds, r, q, q0, h => by
    rw [List.foldl_cons]
    have e : stepO n (r, q) d = if shAt q d = (glAt n d, true) then (r, q) else (r ++ rowP (glAt n d) q d, allT q (rowP (glAt n d) q d)) := rfl
    rw [e]
    by_cases hh : shAt q d = (glAt n d, true)
    · rw [if_pos hh]
      exact sortO_all ds r q q0 h
    · rw [if_neg hh]
      exact sortO_all ds _ _ q0 (by rw [allT_app, h])
end K33

set_option maxHeartbeats 2000000
namespace K33
open PySem PX
/-! ### sorted_by_over: the walk -/
theorem ne_sh (a b : Sh) (k k' : Kd) : oNe [(shD a, k), (shD b, k')] = some (.bool (!decide (a = b)), .im) := ev_ne (α := Int × Bool) (by decide) a b k k'
theorem sh_get {q : Pile} {i : Int} (h0 : 0 ≤ i) (h1 : i < q.length) : q[i.toNat]? = some (shAt q i) := by
  unfold shAt
  rw [List.getElem?_eq_getElem (show i.toNat < q.length by omega)]
  rfl
theorem ixPile {q : Pile} {i : Int} (h0 : 0 ≤ i) (h1 : i < q.length) (k k' : Kd) : oIx [(PD q, k), (.int i, k')] = some (shD (shAt q i), .im) := by
  have := fwIxN (ds := q.map shD) (d := shD (shAt q i)) (n := i.toNat) (by rw [List.getElem?_map, sh_get h0 h1]; rfl) k k'
  rw [show ((i.toNat : Nat) : Int) = i by omega] at this
  exact this
theorem ixGl {n : Nat} (hn : n ≤ 3) {i : Int} (h0 : 0 ≤ i) (h1 : i < n) (k k' : Kd) : oIx [(.list ((gl n).map PyData.int), k), (.int i, k')] = some (.int (glAt n i), .im) := by
  have hl := gl_len hn
  have := fwIxNL (ds := (gl n).map PyData.int) (d := .int (glAt n i)) (n := i.toNat) (by
    rw [List.getElem?_map]
    unfold glAt
    rw [List.getElem?_eq_getElem (show i.toNat < (gl n).length by omega)]
    rfl) k k'
  rw [show ((i.toNat : Nat) : Int) = i by omega] at this
  exact this
theorem gl_mem {n : Nat} (hn : n ≤ 3) {i : Int} (h0 : 0 ≤ i) (h1 : i < n) : glAt n i ∈ gl n := by
  have hl := gl_len hn
  unfold glAt
  rw [List.getElem?_eq_getElem (show i.toNat < (gl n).length by omega)]
  exact List.getElem_mem _
theorem idx_ok {xs : List Int} {g : Int} (h : g ∈ xs) (k k' : Kd) : oIndexL [(.list (xs.map PyData.int), k), (.int g, k')] = some (.int ((xs.findIdx fun z => decide (z = g) : Nat) : Int), .im) := by
  have hf : flat (.list (xs.map PyData.int)) = true := flat_D (α := List Int) (by decide) xs
  have e : idxD (.int g) (xs.map PyData.int) = some (xs.findIdx fun z => decide (z = g)) := by
    unfold idxD
    rw [List.findIdx?_map]
    have ec : ((fun z => PyData.eqv z (.int g)) ∘ PyData.int) = fun z => decide (z = g) := by
      funext z
      exact PySem.W.Datum.eqv z g
    rw [ec, List.findIdx?_eq_some_iff_findIdx_eq]
    exact ⟨List.findIdx_lt_length_of_exists ⟨g, h, by simp⟩, rfl⟩
  show (if flat (.list (xs.map PyData.int)) = true ∧ flat (.int g) = true then (idxD (.int g) (xs.map PyData.int)).map fun j => (PyData.int (j : Nat), Kd.im) else none) = _
  rw [if_pos ⟨hf, rfl⟩, e]
  rfl
abbrev sbI : Sx := (sSeq (sIf (bOf (cCall oNe [cCall oIx [cVar 0, cVar 3], cCall oTup [cCall oIx [cVar 2, cVar 3], cK (.bool true)]])) (sSeq (sSet 4 false (cCall oIndexL [cLc (iSeq (cVar 0)) (gT 2 (gsCons (gN 7) (gsCons (gN 8) (gsNil)))) (kTrue) (cVar 7) [7, 8], cCall oIx [cVar 2, cVar 3]])) (sSeq (sSet 5 false (cIf (bOf (cCall oGt [cVar 4, cK (.int 0)])) (cCall oLst [cCall oTup [cK (.str "over"), cCall oAdd [cVar 4, cK (.int 1)]]]) (cCall oLst []))) (sSeq (sSet 6 false (cIf (bOf (cCall oEq [cVar 4, cK (.int 0)])) (cCall oIx [cCall oIx [cVar 0, cVar 4], cK (.int 1)]) (cNot (cCall oIx [cCall oIx [cVar 0, cVar 4], cK (.int 1)])))) (sSeq (sSet 5 false (cCall oAdd [cCall oAdd [cVar 5, cIf (bOf (cVar 6)) (cCall oLst [cCall oTup [cK (.str "over"), cK (.int 1)]]) (cCall oLst [])], cCall oLst [cCall oTup [cK (.str "over"), cCall oAdd [cVar 3, cK (.int 1)]]]])) (sSeq (sExt 1 (cVar 5)) (sSeq (sSet 0 false (cFn f_all_turned [cVar 0, cVar 5])) (sNil))))))) (sNil)) (sNil))
theorem rowP_pos {g : Int} {q : Pile} {place : Int} (h : 0 ≤ place) : ∀ t ∈ rowP g q place, 0 ≤ t.2 := fun t ht => by
  unfold rowP at ht
  rcases List.mem_append.1 ht with z | z
  · rcases List.mem_append.1 z with z | z
    · split at z
      · rw [List.mem_singleton] at z; subst z; show (0 : Int) ≤ ((atP g q : Nat) : Int) + 1; omega
      · cases z
    · split at z
      · rw [List.mem_singleton] at z; subst z; show (0 : Int) ≤ 1; omega
      · cases z
  · rw [List.mem_singleton] at z; subst z; show (0 : Int) ≤ place + 1; omega
theorem rowP_len (g : Int) (q : Pile) (place : Int) : (rowP g q place).length ≤ 3 := by
  unfold rowP
  rw [List.length_append, List.length_append]
  split <;> split <;> simp
theorem fold_inv {n : Nat} : ∀ (ds : List Int) (st : Row × Pile), PN n st.2 → PN n (ds.foldl (stepO n) st).2 ∧ (ds.foldl (stepO n) st).1.length ≤ st.1.length + 3 * ds.length
  | [], _, h => ⟨h, Nat.le_refl _⟩
  | x :: ds, st, h => by
    rw [List.foldl_cons, List.length_cons]
    by_cases hh : shAt st.2 x = (glAt n x, true)
    · have e : stepO n st x = st := if_pos hh
      rw [e]
      obtain ⟨a, b⟩ := fold_inv ds st h
      exact ⟨a, by omega⟩
    · have e : stepO n st x = (st.1 ++ rowP (glAt n x) st.2 x, allT st.2 (rowP (glAt n x) st.2 x)) := if_neg hh
      have hl := rowP_len (glAt n x) st.2 x
      rw [e]
      obtain ⟨a, b⟩ := fold_inv ds (st.1 ++ rowP (glAt n x) st.2 x, allT st.2 (rowP (glAt n x) st.2 x)) (h.all _)
      refine ⟨a, ?_⟩
      dsimp only at b
      rw [List.length_append] at b
      omega
theorem sorted_ok {n : Nat} {q : Pile} (hn : n ≤ 3) (h : PN n q) : f_sorted_by_over [PD q] = some (RD (sortO n q).1) := by
  show PX.runF 9 1 g_sorted_by_over _ = _
  refine runF_of rfl ?_
  show Runs g_sorted_by_over [.pl (PD q), .no, .no, .no, .no, .no, .no, .no, .no] [] _
  unfold g_sorted_by_over
  have hlen : q.length = n := (words_mem.1 h.w).1
  refine ru_set fwLst0 rfl (ru_set (d := .list ((gl n).map PyData.int)) (k := .fr) (W1 := []) ((fw1 (d1 := .list ((q.map (·.1)).map PyData.int)) (k1 := .fr) (W1 := []) ((fwLc rfl (fwSeqT rfl) rfl (lcL_map shD (fun s => .int s.1) q (fun s hs => ⟨_, .im, rfl, rfl, rfl⟩))).trans (by rw [List.map_map]; rfl)) (sortedInts (q.map (·.1)) _)).trans (by rw [srt_ints (nums_perm hn h) (gl_pw hn)])) rfl ?_)
  show Runs _ [.pl (PD q), .ow (.list []), .pl (.list ((gl n).map PyData.int)), .no, .no, .no, .no, .no, .no] [] _
  obtain ⟨e', W', q1, s3, s4, s5, s6, rfl⟩ := forL_pre2 (t := gN 3) (g := sbI) PyData.int (downL n)
    (fun done env => ∃ s3 s4 s5 s6 : Sl, env = [.pl (PD (done.foldl (stepO n) ([], q)).2), .ow (.list ((done.foldl (stepO n) ([], q)).1.map tD)), .pl (.list ((gl n).map PyData.int)), s3, s4, s5, s6, .no, .no]) (fun done d rest hall env W hR => by
      obtain ⟨s3, s4, s5, s6, rfl⟩ := hR
      obtain ⟨hm, hdl, hin⟩ := pre_mem hall
      have hd : 0 ≤ d ∧ d < n := by
        unfold downL at hm
        obtain ⟨i, hi, rfl⟩ := List.mem_map.1 hm
        have := List.mem_range.1 hi
        omega
      have hdl : done.length < n := by
        unfold downL at hdl
        rw [List.length_map, List.length_range] at hdl
        exact hdl
      obtain ⟨hP, hL⟩ := fold_inv done ([], q) h
      rw [List.foldl_append]
      show ∃ e1 e2 W', _ ∧ _ ∧ ∃ s3 s4 s5 s6 : Sl, e2 = ([.pl (PD (stepO n (done.foldl (stepO n) ([], q)) d).2), .ow (.list ((stepO n (done.foldl (stepO n) ([], q)) d).1.map tD)), .pl (.list ((gl n).map PyData.int)), s3, s4, s5, s6, .no, .no] : SEnv)
      generalize done.foldl (stepO n) ([], q) = st at hP hL
      obtain ⟨r, x⟩ := st
      have hP : PN n x := hP
      have hL : r.length ≤ 0 + 3 * done.length := hL
      have hx : x.length = n := (words_mem.1 hP.w).1
      have eg : ∀ (s4 s5 s6 : Sl) (W : List Int), cCall oIx [cVar 2, cVar 3] [.pl (PD x), .ow (.list (r.map tD)), .pl (.list ((gl n).map PyData.int)), .pl (.int d), s4, s5, s6, .no, .no] W = some (.int (glAt n d), .im, W) := fun s4 s5 s6 W => fw2 rfl rfl (ixGl hn hd.1 hd.2 _ _)
      have tt : bOf (cCall oNe [cCall oIx [cVar 0, cVar 3], cCall oTup [cCall oIx [cVar 2, cVar 3], cK (.bool true)]]) [.pl (PD x), .ow (.list (r.map tD)), .pl (.list ((gl n).map PyData.int)), .pl (.int d), s4, s5, s6, .no, .no] W = some (!decide (shAt x d = (glAt n d, true)), W) :=
        fwB (fw2 (fw2 rfl rfl (ixPile hd.1 (by omega) _ _)) (fwTup2 (eg s4 s5 s6 W) rfl fwK rfl) (ne_sh (shAt x d) (glAt n d, true) _ _))
      by_cases hh : shAt x d = (glAt n d, true)
      · have e : stepO n (r, x) d = (r, x) := if_pos hh
        rw [e]
        rw [decide_eq_true hh] at tt
        exact ⟨_, [.pl (PD x), .ow (.list (r.map tD)), .pl (.list ((gl n).map PyData.int)), .pl (.int d), s4, s5, s6, .no, .no], W, rfl, end_of (ru_pass tt (ru_nil rfl)), .pl (.int d), s4, s5, s6, rfl⟩
      · have e : stepO n (r, x) d = (r ++ rowP (glAt n d) x d, allT x (rowP (glAt n d) x d)) := if_neg hh
        rw [e]
        rw [decide_eq_false hh] at tt
        have hgm : glAt n d ∈ x.map (·.1) := hP.g _ (gl_mem hn hd.1 hd.2)
        have hat : atP (glAt n d) x < x.length := by
          have := List.findIdx_lt_length_of_exists (xs := x.map (·.1)) (p := fun z => decide (z = glAt n d)) ⟨_, hgm, by simp⟩
          rw [List.length_map] at this
          exact this
        have hrl := rowP_len (glAt n d) x d
        generalize hg : glAt n d = g at hgm hat hrl eg
        refine ⟨_, [.pl (PD (allT x (rowP g x d))), .ow (.list ((r ++ rowP g x d).map tD)), .pl (.list ((gl n).map PyData.int)), .pl (.int d), .pl (.int ((atP g x : Nat) : Int)), .pl (.list ((rowP g x d).map tD)), .pl (.bool (sdP x (atP g x))), .no, .no], W, rfl, end_of ?_, .pl (.int d), .pl (.int ((atP g x : Nat) : Int)), .pl (.list ((rowP g x d).map tD)), .pl (.bool (sdP x (atP g x))), rfl⟩
        refine ru_ifT tt (ru_assoc (ru_set (d := .int ((atP g x : Nat) : Int)) (k := .im) (W1 := W) (fw2 ((fwLc rfl (fwSeqT rfl) rfl (lcL_map shD (fun s => .int s.1) x (fun s hs => ⟨_, .im, rfl, rfl, rfl⟩))).trans (by rw [show (fun s : Sh => PyData.int s.1) = PyData.int ∘ (·.1) from rfl, ← List.map_map])) (eg s4 s5 s6 W) (idx_ok hgm _ _)) rfl (ru_assoc (ru_set (d := .list ((if 0 < atP g x then [(("over" : Str), ((atP g x : Nat) : Int) + 1)] else []).map tD)) (k := .fr) (W1 := W) ?_ rfl ?_))))
        rotate_left
        · refine ru_assoc (ru_set (d := .bool (sdP x (atP g x))) (k := .im) (W1 := W) ?_ rfl (ru_assoc (ru_set (d := .list ((rowP g x d).map tD)) (k := .fr) (W1 := W) ?_ rfl (ru_assoc (ru_ext (i := 1) (ds := r.map tD) (es := (rowP g x d).map tD) (k := .im) (W1 := W) rfl rfl (by rw [List.length_map, List.length_map]; omega) (ru_assoc (ru_set (fwF2 rfl rfl rfl rfl (all_turned_ok x (by omega) (.inr rfl) (rowP_pos hd.1))) rfl (ru_nilS (ru_nil ?_)))))))))
          · have t2 : ∀ s5 : Sl, bOf (cCall oEq [cVar 4, cK (.int 0)]) [.pl (PD x), .ow (.list (r.map tD)), .pl (.list ((gl n).map PyData.int)), .pl (.int d), .pl (.int ((atP g x : Nat) : Int)), s5, s6, .no, .no] W = some (decide (((atP g x : Nat) : Int) = 0), W) := fun s5 => fwB (fw2 rfl fwK (evI_eq _ _ _ _))
            have ex : ∀ s5 : Sl, cCall oIx [cCall oIx [cVar 0, cVar 4], cK (.int 1)] [.pl (PD x), .ow (.list (r.map tD)), .pl (.list ((gl n).map PyData.int)), .pl (.int d), .pl (.int ((atP g x : Nat) : Int)), s5, s6, .no, .no] W = some (.bool (shAt x ((atP g x : Nat) : Int)).2, .im, W) := fun s5 => fw2 (fw2 rfl rfl (ixPile (by omega) (by omega) _ _)) fwK (fwIx1T _ _)
            unfold sdP
            by_cases h0 : atP g x = 0
            · rw [if_pos h0]
              have t2 := t2 (.pl (.list ((if 0 < atP g x then [(("over" : Str), ((atP g x : Nat) : Int) + 1)] else []).map tD)))
              rw [decide_eq_true (by omega)] at t2
              exact fwIfT t2 (ex _)
            · rw [if_neg h0]
              have t2 := t2 (.pl (.list ((if 0 < atP g x then [(("over" : Str), ((atP g x : Nat) : Int) + 1)] else []).map tD)))
              rw [decide_eq_false (by omega)] at t2
              exact fwIfF t2 (fwCNot (ex _))
          · have hr1 : (if 0 < atP g x then [(("over" : Str), ((atP g x : Nat) : Int) + 1)] else []).length ≤ 1 := by split <;> simp
            have hr2 : (if sdP x (atP g x) = true then [(("over" : Str), (1 : Int))] else []).length ≤ 1 := by split <;> simp
            unfold rowP
            refine fw2 (fw2 rfl (d2 := .list ((if sdP x (atP g x) = true then [(("over" : Str), (1 : Int))] else []).map tD)) (k2 := .fr) (W2 := W) ?_ (addML _ _ (by omega) _ _)) (fwLst1 (fwTup2 fwK rfl (fw2 rfl fwK (addI _ _ _ _)) rfl) rfl) (addML (e := tD) _ [(("over" : Str), d + 1)] (by rw [List.length_append, List.length_singleton]; omega) _ _)
            have t3 : bOf (cVar 6) [.pl (PD x), .ow (.list (r.map tD)), .pl (.list ((gl n).map PyData.int)), .pl (.int d), .pl (.int ((atP g x : Nat) : Int)), .pl (.list ((if 0 < atP g x then [(("over" : Str), ((atP g x : Nat) : Int) + 1)] else []).map tD)), .pl (.bool (sdP x (atP g x))), .no, .no] W = some (sdP x (atP g x), W) := fwB rfl
            by_cases hs : sdP x (atP g x) = true
            · rw [hs] at t3 ⊢
              rw [if_pos rfl]
              exact fwIfT t3 (fwLst1 (fwTup2 fwK rfl fwK rfl) rfl)
            · have hs' : sdP x (atP g x) = false := by simpa using hs
              rw [hs'] at t3 ⊢
              rw [if_neg Bool.false_ne_true]
              exact fwIfF t3 fwLst0
          · rw [List.map_append]
            rfl
        · have t2 : bOf (cCall oGt [cVar 4, cK (.int 0)]) [.pl (PD x), .ow (.list (r.map tD)), .pl (.list ((gl n).map PyData.int)), .pl (.int d), .pl (.int ((atP g x : Nat) : Int)), s5, s6, .no, .no] W = some (decide ((0 : Int) < ((atP g x : Nat) : Int)), W) := fwB (fw2 rfl fwK (gtI _ _ _ _))
          by_cases h0 : 0 < atP g x
          · rw [decide_eq_true (by omega)] at t2
            rw [if_pos h0]
            exact fwIfT t2 (fwLst1 (fwTup2 fwK rfl (fw2 rfl fwK (addI _ _ _ _)) rfl) rfl)
          · rw [decide_eq_false (by omega)] at t2
            rw [if_neg h0]
            exact fwIfF t2 fwLst0) (downL n) [] [.pl (PD q), .ow (.list []), .pl (.list ((gl n).map PyData.int)), .no, .no, .no, .no, .no, .no] [] rfl ⟨.no, .no, .no, .no, rfl⟩
  have hit : iR3 (cCall oSub [cCall oLen [cVar 0], cK (.int 1)]) (cCall oNeg [cK (.int 1)]) (cCall oNeg [cK (.int 1)]) [.pl (PD q), .ow (.list []), .pl (.list ((gl n).map PyData.int)), .no, .no, .no, .no, .no, .no] [] = some ((downL n).map PyData.int, .im, []) := by
    have := fwR3 (f := cCall oSub [cCall oLen [cVar 0], cK (.int 1)]) (g := cCall oNeg [cK (.int 1)]) (h := cCall oNeg [cK (.int 1)]) (env := [.pl (PD q), .ow (.list []), .pl (.list ((gl n).map PyData.int)), .no, .no, .no, .no, .no, .no]) (W := []) (lo := (n : Int) - 1) (hi := -1) (fw2 ((fw1 rfl (lenM shD q _)).trans (by rw [hlen])) fwK (subI _ _ _ _)) (fw1 fwK (negI _ _)) (fw1 fwK (negI _ _)) (by omega) (by omega) (by omega) (by omega)
    rw [show ((n : Int) - 1 - -1).toNat = n by omega] at this
    exact this
  exact ru_seq ((fwFor hit rfl).trans q1) (ru_wipe (ru_ret (fw1 (fwVarO rfl) rfl) rfl ⟨_, rfl⟩))
end K33

set_option maxHeartbeats 2000000
namespace K33
noncomputable section
open PySem PX

def gTurn : Sx :=  sSeq (sAsg (cCall oTup [cCall oAdd [cK (.int 1), cNext 1 (cK (.int 3))], cCall oLst []]) (gT 2 (gsCons (gN 3) (gsCons (gN 4) (gsNil))))) (sSeq (sFor (iR1 (cVar 3)) (gN 5) (sSeq (sSet 17 false (cNext 1 (cCall oAdd [cVar 5, cK (.int 1)]))) (sSeq (sSet 4 false (cCall oAdd [cCall oAdd [cSlice (cVar 4) none (some (cVar 17)), cCall oLst [cCall oTup [cCall oAdd [cCall oMul [cK (.int 2), cVar 5], cK (.int 1)], cCall oEq [cNext 1 (cK (.int 2)), cK (.int 0)]]]], cSlice (cVar 4) (some (cVar 17)) none])) (sNil)))) (sWipe [17] (sSeq (sSet 4 false (cCall oTuple [cVar 4])) (sSeq (sSet 6 false (cCall oTuple [cLc (iR1 (cNext 1 (cK (.int 4)))) (gN 5) (kTrue) (cCall oIx [cFn f__law_turns [cVar 3, cCall oTup [cK (.str "over"), cK (.str "under")]], cNext 1 (cCall oMul [cK (.int 2), cVar 3])]) [5]])) (sSeq (sSet 7 false (cVar 4)) (sSeq (sFor (iSeq (cVar 6)) (gN 8) (sSeq (sIf (kOr (bOf (cCall oNe [cFn f_turned [cVar 7, cVar 8], cFn f__law_turn [cVar 7, cVar 8]])) (kOr (bOf (cCall oNe [cFn f_all_turned [cFn f__law_turn [cVar 7, cVar 8], cFn f_back_turn [cVar 3, cVar 8]], cVar 7])) (bOf (cCall oGt [cCall oLen [cFn f_back_turn [cVar 3, cVar 8]], cK (.int 1)])))) (sSeq (sRetK (cK (.bool false))) (sNil)) (sNil)) (sSeq (sSet 7 false (cFn f__law_turn [cVar 7, cVar 8])) (sNil)))) (sSeq (sIf (kOr (bOf (cCall oNe [cFn f_all_turned [cVar 4, cVar 6], cVar 7])) (bOf (cCall oNe [cFn f_sides_up [cVar 4], cCall oSum [cLc (iSeq (cVar 4)) (gT 2 (gsCons (gN 18) (gsCons (gN 19) (gsNil)))) (kTrue) (cCall oInt [cVar 19]) [18, 19]]]))) (sSeq (sRetK (cK (.bool false))) (sNil)) (sNil)) (sSeq (sPar 9 false 10 false (cVar 7) (cK (.int 1))) (sSeq (whileL 300 (bOf (cCall oNe [cVar 9, cVar 4])) (sSeq (sFor (iSeq (cVar 6)) (gN 8) (sSeq (sSet 9 false (cFn f__law_turn [cVar 9, cVar 8])) (sNil))) (sSeq (sAug 10 (fun x y => x + y) (cK (.int 1))) (sNil)))) (sSeq (sIf (bOf (cCall oNe [cFn f_order_of_turns [cVar 4, cVar 6], cVar 10])) (sSeq (sRetK (cK (.bool false))) (sNil)) (sNil)) (sSeq (sSet 11 false (cFn f__law_all [cVar 4, cCall oTup [cK (.str "over"), cK (.str "under")]])) (sSeq (sSet 12 false (cCall oTuple [cCall oSorted [cLc (iSeq (cVar 4)) (gT 2 (gsCons (gN 18) (gsCons (gN 19) (gsNil)))) (kTrue) (cCall oTup [cVar 18, cCall oEq [cNext 1 (cK (.int 2)), cK (.int 0)]]) [18, 19]]])) (sSeq (sSet 12 false (cIf (bOf (cCall oEq [cNext 1 (cK (.int 2)), cK (.int 0)])) (cVar 12) (cVar 7))) (sSeq (sSet 13 false (cCall oAdd [cCall oTup [cCall oTup [cK (.int 100), cK (.bool true)]], cSlice (cVar 4) (some (cK (.int 1))) none])) (sSeq (sIf (kOr (bOf (cCall oNe [cFn f_fewest_turns [cVar 4, cVar 12], cIf (bOf (cCall oIn [cVar 12, cVar 11])) (cCall oIx [cVar 11, cVar 12]) (cK .none)])) (kOr (bOf (cCall oNe [cFn f_can_come [cVar 4, cVar 12], cCall oIn [cVar 12, cVar 11]])) (bOf (cCall oIsNot [cFn f_can_come [cVar 4, cVar 13], cK (.bool false)])))) (sSeq (sRetK (cK (.bool false))) (sNil)) (sNil)) (sSeq (sFor (iSeq (cCall oTup [cCall oTup [cK (.str "over")], cCall oTup [cK (.str "under")], cCall oTup [cK (.str "over"), cK (.str "under")], cCall oTup []])) (gN 14) (sSeq (sIf (bOf (cCall oNe [cFn f_how_many [cVar 4, cVar 14], cCall oLenN [cFn f__law_all [cVar 4, cVar 14]]])) (sSeq (sRetK (cK (.bool false))) (sNil)) (sNil)) (sNil))) (sWipe [14] (sSeq (sPar 15 false 16 false (cFn f_sorted_by_over [cVar 4]) (cVar 4)) (sSeq (sFor (iSeq (cVar 15)) (gN 8) (sSeq (sIf (kOr (bOf (cCall oNe [cCall oIx [cVar 8, cK (.int 0)], cK (.str "over")])) (kNot (bOf (cChain oLe oLe (cK (.int 1)) (cCall oIx [cVar 8, cK (.int 1)]) (cVar 3))))) (sSeq (sRetK (cK (.bool false))) (sNil)) (sNil)) (sSeq (sSet 16 false (cFn f__law_turn [cVar 16, cVar 8])) (sNil)))) (sSeq (sIf (kOr (bOf (cCall oNe [cVar 16, cCall oTuple [cLc (iSeq (cCall oSorted [cVar 4])) (gT 2 (gsCons (gN 18) (gsCons (gN 19) (gsNil)))) (kTrue) (cCall oTup [cVar 18, cK (.bool true)]) [18, 19]]])) (bOf (cCall oGt [cCall oLen [cVar 15], cCall oMul [cK (.int 3), cVar 3]]))) (sSeq (sRetK (cK (.bool false))) (sNil)) (sNil)) (sNil)))))))))))))))))))))
def R (env : SEnv) : Prop := ∃ s2 s3 s4 s5 s6 s7 s8 s9 s10 s11 s12 s13 s14 s15 s16 s17 s18 s19 : Sl, s5.own = false ∧ s18.own = false ∧ s19.own = false ∧ env = [.no, .wd, s2, s3, s4, s5, s6, s7, s8, s9, s10, s11, s12, s13, s14, s15, s16, s17, s18, s19]
structure Tn (n : Nat) (p : Pile) (r : Row) : Prop where
  n3 : n ≤ 3
  n1 : 1 ≤ n
  pn : PN n p
  ts : ∀ t ∈ r, TOk n t
  rl : r.length ≤ 3
theorem Tn.plen {n : Nat} {p : Pile} {r : Row} (h : Tn n p r) : p.length = n := (words_mem.1 h.pn.w).1
def gE : Sx := sSeq (sPar 15 false 16 false (cFn f_sorted_by_over [cVar 4]) (cVar 4)) (sSeq (sFor (iSeq (cVar 15)) (gN 8) (sSeq (sIf (kOr (bOf (cCall oNe [cCall oIx [cVar 8, cK (.int 0)], cK (.str "over")])) (kNot (bOf (cChain oLe oLe (cK (.int 1)) (cCall oIx [cVar 8, cK (.int 1)]) (cVar 3))))) (sSeq (sRetK (cK (.bool false))) (sNil)) (sNil)) (sSeq (sSet 16 false (cFn f__law_turn [cVar 16, cVar 8])) (sNil)))) (sSeq (sIf (kOr (bOf (cCall oNe [cVar 16, cCall oTuple [cLc (iSeq (cCall oSorted [cVar 4])) (gT 2 (gsCons (gN 18) (gsCons (gN 19) (gsNil)))) (kTrue) (cCall oTup [cVar 18, cK (.bool true)]) [18, 19]]])) (bOf (cCall oGt [cCall oLen [cVar 15], cCall oMul [cK (.int 3), cVar 3]]))) (sSeq (sRetK (cK (.bool false))) (sNil)) (sNil)) (sNil)))
theorem neStr (a b : Str) (k k' : Kd) : oNe [(.str a, k), (.str b, k')] = some (.bool (!decide (a = b)), .im) := ev_ne (α := Str) (by decide) a b k k'
theorem partE (s2 s3 s4 s5 s6 s7 s8 s9 s10 s11 s12 s13 s14 s15 s16 s17 s18 s19 : Sl) (W : List Int) (n : Nat) (p : Pile) (r : Row) (h : Tn n p r) (h5 : s5.own = false) (h18 : s18.own = false) (h19 : s19.own = false) : Runs gE [.no, .wd, s2, .pl (.int (n : Nat)), .pl (PD p), s5, s6, s7, s8, s9, s10, s11, s12, s13, s14, s15, s16, s17, s18, s19] W (Nxt R) := by
  unfold gE
  obtain ⟨g1, g2, g3⟩ := sortO_ok h.n3 h.pn
  have hpl := h.plen
  have h3 := h.n3
  refine ru_par (fwF1 rfl rfl (sorted_ok h.n3 h.pn)) rfl rfl rfl ?_
  show Runs _ [.no, .wd, s2, .pl (.int (n : Nat)), .pl (PD p), s5, s6, s7, s8, s9, s10, s11, s12, s13, s14, .pl (RD (sortO n p).1), .pl (PD p), s17, s18, s19] W _
  obtain ⟨e', W', q1, s8, rfl⟩ := forL_pre2 (t := gN 8) (g := (sSeq (sIf (kOr (bOf (cCall oNe [cCall oIx [cVar 8, cK (.int 0)], cK (.str "over")])) (kNot (bOf (cChain oLe oLe (cK (.int 1)) (cCall oIx [cVar 8, cK (.int 1)]) (cVar 3))))) (sSeq (sRetK (cK (.bool false))) (sNil)) (sNil)) (sSeq (sSet 16 false (cFn f__law_turn [cVar 16, cVar 8])) (sNil)))) tD (sortO n p).1
    (fun done env => ∃ s8 : Sl, env = [.no, .wd, s2, .pl (.int (n : Nat)), .pl (PD p), s5, s6, s7, s8, s9, s10, s11, s12, s13, s14, .pl (RD (sortO n p).1), .pl (PD (allT p done)), s17, s18, s19]) (fun done t rest hall env W hR => by
      obtain ⟨s8, rfl⟩ := hR
      obtain ⟨hm, hdl, hin⟩ := pre_mem hall
      obtain ⟨t1, t2, t3⟩ := g2 t hm
      have hal : (allT p done).length ≤ 100 := by rw [all_len, hpl]; omega
      have e1 : bOf (cCall oNe [cCall oIx [cVar 8, cK (.int 0)], cK (.str "over")]) [.no, .wd, s2, .pl (.int (n : Nat)), .pl (PD p), s5, s6, s7, .pl (tD t), s9, s10, s11, s12, s13, s14, .pl (RD (sortO n p).1), .pl (PD (allT p done)), s17, s18, s19] W = some (false, W) := fwB ((fw2 (fw2 rfl fwK (fwIx0T _ _)) fwK (neStr _ _ _ _)).trans (by rw [decide_eq_true t1]; rfl))
      have e2 : kNot (bOf (cChain oLe oLe (cK (.int 1)) (cCall oIx [cVar 8, cK (.int 1)]) (cVar 3))) [.no, .wd, s2, .pl (.int (n : Nat)), .pl (PD p), s5, s6, s7, .pl (tD t), s9, s10, s11, s12, s13, s14, .pl (RD (sortO n p).1), .pl (PD (allT p done)), s17, s18, s19] W = some (!(decide ((1 : Int) ≤ t.2) && decide (t.2 ≤ (n : Int))), W) := fwNot (fwB (fwChain fwK (fw2 rfl fwK (fwIx1T _ _)) (leI _ _ _ _) (fun _ => rfl) (fun _ => leI _ _ _ _)))
      rw [decide_eq_true t2, decide_eq_true t3] at e2
      refine ⟨_, [.no, .wd, s2, .pl (.int (n : Nat)), .pl (PD p), s5, s6, s7, .pl (tD t), s9, s10, s11, s12, s13, s14, .pl (RD (sortO n p).1), .pl (PD (allT p (done ++ [t]))), s17, s18, s19], W, rfl, end_of (ru_pass (W1 := W) (fwOr (b := false) (c := false) (W1 := W) e1 fun _ => e2) (ru_set (fwF2 rfl rfl rfl rfl (law_turn_ok (allT p done) hal t (by omega) (.inl t1))) rfl (ru_nil ?_))), .pl (tD t), rfl⟩
      rw [allT_app]
      rfl) (sortO n p).1 [] [.no, .wd, s2, .pl (.int (n : Nat)), .pl (PD p), s5, s6, s7, s8, s9, s10, s11, s12, s13, s14, .pl (RD (sortO n p).1), .pl (PD p), s17, s18, s19] W rfl ⟨s8, rfl⟩
  refine ru_seq ((fwFor (fwSeqT rfl) rfl).trans q1) ?_
  have ea : allT p (sortO n p).1 = (gl n).map fun x => (x, true) := by
    have := sortO_all (n := n) (downL n) [] p p rfl
    rw [← g1]
    exact this
  have el : (srt shD p).map (fun s => shD (s.1, true)) = ((gl n).map fun x => ((x, true) : Sh)).map shD := by
    rw [← srt_pile (nums_perm h.n3 h.pn) (gl_pw h.n3), List.map_map, List.map_map]
    rfl
  have e1 := fwB (fw2 (op := oNe) (env := [.no, .wd, s2, .pl (.int (n : Nat)), .pl (PD p), s5, s6, s7, s8, s9, s10, s11, s12, s13, s14, .pl (RD (sortO n p).1), .pl (PD (allT p (sortO n p).1)), s17, s18, s19]) (W := W') (f := cVar 16) (W1 := W') rfl (fw1 (op := oTuple) (d1 := .list (((gl n).map fun x => ((x, true) : Sh)).map shD)) (k1 := .fr) (W1 := W') ((fwLc (it := iSeq (cCall oSorted [cVar 4])) (tg := gT 2 (gsCons (gN 18) (gsCons (gN 19) (gsNil)))) (c := kTrue) (f := cCall oTup [cVar 18, cK (.bool true)]) (vs := [18, 19]) (by show ((!s18.own) && ((!s19.own) && true)) = true; rw [h18, h19]; rfl) (fwSeqF (fw1 rfl (sortedPile p _))) rfl (lcL_map shD (fun s => shD (s.1, true)) (srt shD p) (fun s hs => ⟨_, .im, rfl, fwTup2 rfl rfl fwK rfl, rfl⟩))).trans (by rw [el])) rfl) (ne_PD (allT p (sortO n p).1) ((gl n).map fun x => (x, true)) _ _))
  rw [decide_eq_true ea] at e1
  have e2 : bOf (cCall oGt [cCall oLen [cVar 15], cCall oMul [cK (.int 3), cVar 3]]) [.no, .wd, s2, .pl (.int (n : Nat)), .pl (PD p), s5, s6, s7, s8, s9, s10, s11, s12, s13, s14, .pl (RD (sortO n p).1), .pl (PD (allT p (sortO n p).1)), s17, s18, s19] W' = some (decide ((3 : Int) * (n : Nat) < (sortO n p).1.length), W') := fwB (fw2 (fw1 rfl (lenM tD _ _)) (fw2 fwK rfl (mulI 3 (n : Nat) (by omega) _ _)) (gtI _ _ _ _))
  rw [decide_eq_false (by omega)] at e2
  exact ru_pass (W1 := W') (fwOr (b := false) (c := false) (W1 := W') e1 fun _ => e2) (ru_nil ⟨_, _, rfl, _, _, _, _, _, _, _, _, _, _, _, _, _, _, _, _, _, _, h5, h18, h19, rfl⟩)
end
end K33

set_option maxHeartbeats 2000000
namespace K33
noncomputable section
open PySem PX

def gD : Sx := sSeq (sIf (kOr (bOf (cCall oNe [cFn f_fewest_turns [cVar 4, cVar 12], cIf (bOf (cCall oIn [cVar 12, cVar 11])) (cCall oIx [cVar 11, cVar 12]) (cK .none)])) (kOr (bOf (cCall oNe [cFn f_can_come [cVar 4, cVar 12], cCall oIn [cVar 12, cVar 11]])) (bOf (cCall oIsNot [cFn f_can_come [cVar 4, cVar 13], cK (.bool false)])))) (sSeq (sRetK (cK (.bool false))) (sNil)) (sNil)) (sSeq (sFor (iSeq (cCall oTup [cCall oTup [cK (.str "over")], cCall oTup [cK (.str "under")], cCall oTup [cK (.str "over"), cK (.str "under")], cCall oTup []])) (gN 14) (sSeq (sIf (bOf (cCall oNe [cFn f_how_many [cVar 4, cVar 14], cCall oLenN [cFn f__law_all [cVar 4, cVar 14]]])) (sSeq (sRetK (cK (.bool false))) (sNil)) (sNil)) (sNil))) (sWipe [14] (sSeq (sPar 15 false 16 false (cFn f_sorted_by_over [cVar 4]) (cVar 4)) (sSeq (sFor (iSeq (cVar 15)) (gN 8) (sSeq (sIf (kOr (bOf (cCall oNe [cCall oIx [cVar 8, cK (.int 0)], cK (.str "over")])) (kNot (bOf (cChain oLe oLe (cK (.int 1)) (cCall oIx [cVar 8, cK (.int 1)]) (cVar 3))))) (sSeq (sRetK (cK (.bool false))) (sNil)) (sNil)) (sSeq (sSet 16 false (cFn f__law_turn [cVar 16, cVar 8])) (sNil)))) (sSeq (sIf (kOr (bOf (cCall oNe [cVar 16, cCall oTuple [cLc (iSeq (cCall oSorted [cVar 4])) (gT 2 (gsCons (gN 18) (gsCons (gN 19) (gsNil)))) (kTrue) (cCall oTup [cVar 18, cK (.bool true)]) [18, 19]]])) (bOf (cCall oGt [cCall oLen [cVar 15], cCall oMul [cK (.int 3), cVar 3]]))) (sSeq (sRetK (cK (.bool false))) (sNil)) (sNil)) (sNil))))))
theorem oddOut {n : Nat} {p q : Pile} {ks : List Str} (hn : n ≤ 3) (hp : p ∈ words n) : hasX (comeF p n ks) ((100, true) :: q) = false := by
  cases hh : hasX (comeF p n ks) ((100, true) :: q) with
  | false => rfl
  | true =>
    obtain ⟨e, he, e2⟩ := List.mem_map.1 (hasX_iff.1 hh)
    have := (words_mem.1 ((comeF_good hn hp).mem e he)).2 (100, true) (by rw [e2]; simp)
    exact absurd this (by decide)
def kindsL : List (List Str) := [["over"], ["under"], ["over", "under"], []]
theorem partD (s2 s3 s4 s5 s6 s7 s8 s9 s10 s11 s12 s13 s14 s15 s16 s17 s18 s19 : Sl) (W : List Int) (n : Nat) (p : Pile) (r : Row) (h : Tn n p r) (g : Pile) (h5 : s5.own = false) (h18 : s18.own = false) (h19 : s19.own = false) : Runs gD [.no, .wd, s2, .pl (.int (n : Nat)), .pl (PD p), s5, s6, s7, s8, s9, s10, .pl (dX PD RD (comeF p n [("over" : Str), "under"])), .pl (PD g), .pl (PD ((100, true) :: p.drop 1)), s14, s15, s16, s17, s18, s19] W (Nxt R) := by
  unfold gD
  have h3 := h.n3
  have hw := h.pn.w
  have ti : bOf (cCall oIn [cVar 12, cVar 11]) [.no, .wd, s2, .pl (.int (n : Nat)), .pl (PD p), s5, s6, s7, s8, s9, s10, .pl (dX PD RD (comeF p n [("over" : Str), "under"])), .pl (PD g), .pl (PD ((100, true) :: p.drop 1)), s14, s15, s16, s17, s18, s19] W = some (hasX (comeF p n [("over" : Str), "under"]) g, W) := fwB (fw2 rfl rfl (inX key_PD _ g _ _))
  have ci : cIf (bOf (cCall oIn [cVar 12, cVar 11])) (cCall oIx [cVar 11, cVar 12]) (cK .none) [.no, .wd, s2, .pl (.int (n : Nat)), .pl (PD p), s5, s6, s7, s8, s9, s10, .pl (dX PD RD (comeF p n [("over" : Str), "under"])), .pl (PD g), .pl (PD ((100, true) :: p.drop 1)), s14, s15, s16, s17, s18, s19] W = some (((lkX (comeF p n [("over" : Str), "under"]) g).map RD).getD .none, .im, W) := by
    rw [← has_lk] at ti
    cases hl : lkX (comeF p n [("over" : Str), "under"]) g with
    | none =>
      rw [hl] at ti
      exact fwIfF ti fwK
    | some v =>
      rw [hl] at ti
      exact fwIfT ti (fw2 rfl rfl (ixX key_PD hl _ _))
  have hf : flat (((lkX (comeF p n [("over" : Str), "under"]) g).map RD).getD .none) = true := by
    cases lkX (comeF p n [("over" : Str), "under"]) g with
    | none => rfl
    | some v => exact flat_RD v
  have e1 := fwB (fw2 (op := oNe) (env := [.no, .wd, s2, .pl (.int (n : Nat)), .pl (PD p), s5, s6, s7, s8, s9, s10, .pl (dX PD RD (comeF p n [("over" : Str), "under"])), .pl (PD g), .pl (PD ((100, true) :: p.drop 1)), s14, s15, s16, s17, s18, s19]) (W := W) (fwF2 (f := cVar 4) (g := cVar 12) (W1 := W) (W2 := W) rfl rfl rfl rfl (fewest_ok h3 hw g)) ci (ne_same _ hf _ _))
  have e2 := fwB (fw2 (op := oNe) (env := [.no, .wd, s2, .pl (.int (n : Nat)), .pl (PD p), s5, s6, s7, s8, s9, s10, .pl (dX PD RD (comeF p n [("over" : Str), "under"])), .pl (PD g), .pl (PD ((100, true) :: p.drop 1)), s14, s15, s16, s17, s18, s19]) (W := W) (fwF2 (f := cVar 4) (g := cVar 12) (W1 := W) (W2 := W) rfl rfl rfl rfl (can_ok h3 hw g)) (fw2 (op := oIn) (f := cVar 12) (g := cVar 11) (W1 := W) (W2 := W) rfl rfl (inX key_PD _ g _ _)) (ne_same _ rfl _ _))
  have e3 := fwB (fw2 (op := oIsNot) (env := [.no, .wd, s2, .pl (.int (n : Nat)), .pl (PD p), s5, s6, s7, s8, s9, s10, .pl (dX PD RD (comeF p n [("over" : Str), "under"])), .pl (PD g), .pl (PD ((100, true) :: p.drop 1)), s14, s15, s16, s17, s18, s19]) (W := W) (g := cK (.bool false)) (fwF2 (f := cVar 4) (g := cVar 13) (W1 := W) (W2 := W) rfl rfl rfl rfl ((can_ok h3 hw ((100, true) :: p.drop 1)).trans (by rw [oddOut h3 hw]))) fwK (dr := .bool false) (kr := .im) rfl)
  refine ru_pass (W1 := W) (fwOr (b := false) (c := false) (W1 := W) e1 fun _ => fwOr (b := false) (c := false) (W1 := W) e2 fun _ => e3) ?_
  have e4 : ∀ (f g h i : Ex) (env : SEnv) (W : List Int) (d1 d2 d3 d4 : PyData), f env W = some (d1, .im, W) → g env W = some (d2, .im, W) → h env W = some (d3, .im, W) → i env W = some (d4, .im, W) → cCall oTup [f, g, h, i] env W = some (.tuple [d1, d2, d3, d4], .im, W) := fun f g h i env W d1 d2 d3 d4 a1 a2 a3 a4 => by
    simp [cCall, cArgs, a1, a2, a3, a4, oTup, esc]
  have hit : (iSeq (cCall oTup [cCall oTup [cK (.str "over")], cCall oTup [cK (.str "under")], cCall oTup [cK (.str "over"), cK (.str "under")], cCall oTup []])) [.no, .wd, s2, .pl (.int (n : Nat)), .pl (PD p), s5, s6, s7, s8, s9, s10, .pl (dX PD RD (comeF p n [("over" : Str), "under"])), .pl (PD g), .pl (PD ((100, true) :: p.drop 1)), s14, s15, s16, s17, s18, s19] W = some (kindsL.map S, .im, W) := fwSeqT (e4 _ _ _ _ _ _ _ _ _ _ (fwTup1 fwK rfl) (fwTup1 fwK rfl) (fwTup2 fwK rfl fwK rfl) rfl)
  obtain ⟨e', W', q1, s14, rfl⟩ := forL_pre2 (t := gN 14) (g := (sSeq (sIf (bOf (cCall oNe [cFn f_how_many [cVar 4, cVar 14], cCall oLenN [cFn f__law_all [cVar 4, cVar 14]]])) (sSeq (sRetK (cK (.bool false))) (sNil)) (sNil)) (sNil))) S kindsL
    (fun done env => ∃ s14 : Sl, env = [.no, .wd, s2, .pl (.int (n : Nat)), .pl (PD p), s5, s6, s7, s8, s9, s10, .pl (dX PD RD (comeF p n [("over" : Str), "under"])), .pl (PD g), .pl (PD ((100, true) :: p.drop 1)), s14, s15, s16, s17, s18, s19]) (fun done ks rest hall env W hR => by
      obtain ⟨s14, rfl⟩ := hR
      have e1 := fwB (fw2 (op := oNe) (env := [.no, .wd, s2, .pl (.int (n : Nat)), .pl (PD p), s5, s6, s7, s8, s9, s10, .pl (dX PD RD (comeF p n [("over" : Str), "under"])), .pl (PD g), .pl (PD ((100, true) :: p.drop 1)), .pl (S ks), s15, s16, s17, s18, s19]) (W := W) (fwF2 (f := cVar 4) (g := cVar 14) (W1 := W) (W2 := W) rfl rfl rfl rfl (how_ok (ks := ks) h3 hw)) (fw1 (op := oLenN) (kr := .im) (dr := .int (comeF p n ks).length) (fwF2 (f := cVar 4) (g := cVar 14) (W1 := W) (W2 := W) rfl rfl rfl rfl (law_all_ok (ks := ks) h3 hw)) (lenN_X _ _)) (ne_same _ rfl _ _))
      exact ⟨_, [.no, .wd, s2, .pl (.int (n : Nat)), .pl (PD p), s5, s6, s7, s8, s9, s10, .pl (dX PD RD (comeF p n [("over" : Str), "under"])), .pl (PD g), .pl (PD ((100, true) :: p.drop 1)), .pl (S ks), s15, s16, s17, s18, s19], W, rfl, end_of (ru_pass e1 (ru_nil rfl)), .pl (S ks), rfl⟩) kindsL [] [.no, .wd, s2, .pl (.int (n : Nat)), .pl (PD p), s5, s6, s7, s8, s9, s10, .pl (dX PD RD (comeF p n [("over" : Str), "under"])), .pl (PD g), .pl (PD ((100, true) :: p.drop 1)), s14, s15, s16, s17, s18, s19] W rfl ⟨s14, rfl⟩
  refine ru_seq ((fwFor hit rfl).trans q1) (ru_wipe ?_)
  exact partE _ .no .no _ _ _ _ _ _ _ _ _ _ _ _ _ _ _ W' n p r h h5 h18 h19
where
  lenN_X (fd : Fd) (k : Kd) : oLenN [(dX PD RD fd, k)] = some (.int fd.length, .im) := by
    show (if isT ((PyData.none, PyData.none) :: eX PD RD fd) = true then some (PyData.int ((((PyData.none, PyData.none) :: eX PD RD fd).length : Int) - 1), Kd.im) else none) = _
    rw [if_pos (show isT ((PyData.none, PyData.none) :: eX PD RD fd) = true from rfl), List.length_cons, eX_len, show ((fd.length + 1 : Nat) : Int) - 1 = (fd.length : Int) by omega]
end
end K33

set_option maxHeartbeats 2000000
namespace K33
noncomputable section
open PySem PX

def gC : Sx := sSeq (sSet 11 false (cFn f__law_all [cVar 4, cCall oTup [cK (.str "over"), cK (.str "under")]])) (sSeq (sSet 12 false (cCall oTuple [cCall oSorted [cLc (iSeq (cVar 4)) (gT 2 (gsCons (gN 18) (gsCons (gN 19) (gsNil)))) (kTrue) (cCall oTup [cVar 18, cCall oEq [cNext 1 (cK (.int 2)), cK (.int 0)]]) [18, 19]]])) (sSeq (sSet 12 false (cIf (bOf (cCall oEq [cNext 1 (cK (.int 2)), cK (.int 0)])) (cVar 12) (cVar 7))) (sSeq (sSet 13 false (cCall oAdd [cCall oTup [cCall oTup [cK (.int 100), cK (.bool true)]], cSlice (cVar 4) (some (cK (.int 1))) none])) (sSeq (sIf (kOr (bOf (cCall oNe [cFn f_fewest_turns [cVar 4, cVar 12], cIf (bOf (cCall oIn [cVar 12, cVar 11])) (cCall oIx [cVar 11, cVar 12]) (cK .none)])) (kOr (bOf (cCall oNe [cFn f_can_come [cVar 4, cVar 12], cCall oIn [cVar 12, cVar 11]])) (bOf (cCall oIsNot [cFn f_can_come [cVar 4, cVar 13], cK (.bool false)])))) (sSeq (sRetK (cK (.bool false))) (sNil)) (sNil)) (sSeq (sFor (iSeq (cCall oTup [cCall oTup [cK (.str "over")], cCall oTup [cK (.str "under")], cCall oTup [cK (.str "over"), cK (.str "under")], cCall oTup []])) (gN 14) (sSeq (sIf (bOf (cCall oNe [cFn f_how_many [cVar 4, cVar 14], cCall oLenN [cFn f__law_all [cVar 4, cVar 14]]])) (sSeq (sRetK (cK (.bool false))) (sNil)) (sNil)) (sNil))) (sWipe [14] (sSeq (sPar 15 false 16 false (cFn f_sorted_by_over [cVar 4]) (cVar 4)) (sSeq (sFor (iSeq (cVar 15)) (gN 8) (sSeq (sIf (kOr (bOf (cCall oNe [cCall oIx [cVar 8, cK (.int 0)], cK (.str "over")])) (kNot (bOf (cChain oLe oLe (cK (.int 1)) (cCall oIx [cVar 8, cK (.int 1)]) (cVar 3))))) (sSeq (sRetK (cK (.bool false))) (sNil)) (sNil)) (sSeq (sSet 16 false (cFn f__law_turn [cVar 16, cVar 8])) (sNil)))) (sSeq (sIf (kOr (bOf (cCall oNe [cVar 16, cCall oTuple [cLc (iSeq (cCall oSorted [cVar 4])) (gT 2 (gsCons (gN 18) (gsCons (gN 19) (gsNil)))) (kTrue) (cCall oTup [cVar 18, cK (.bool true)]) [18, 19]]])) (bOf (cCall oGt [cCall oLen [cVar 15], cCall oMul [cK (.int 3), cVar 3]]))) (sSeq (sRetK (cK (.bool false))) (sNil)) (sNil)) (sNil))))))))))
theorem partC (s2 s3 s4 s5 s6 s7 s8 s9 s10 s11 s12 s13 s14 s15 s16 s17 s18 s19 : Sl) (W : List Int) (n : Nat) (p : Pile) (r : Row) (h : Tn n p r) (h5 : s5.own = false) (h18 : s18.own = false) (h19 : s19.own = false) : Runs gC [.no, .wd, s2, .pl (.int (n : Nat)), .pl (PD p), s5, s6, .pl (PD (allT p r)), s8, s9, s10, s11, s12, s13, s14, s15, s16, s17, s18, s19] W (Nxt R) := by
  unfold gC
  have h3 := h.n3
  have hw := h.pn.w
  have hpl := h.plen
  refine ru_set (fwF2 rfl rfl (fwTup2 fwK rfl fwK rfl) rfl (law_all_ok (ks := [("over" : Str), "under"]) h3 hw)) rfl ?_
  show Runs _ [.no, .wd, s2, .pl (.int (n : Nat)), .pl (PD p), s5, s6, .pl (PD (allT p r)), s8, s9, s10, .pl (dX PD RD (comeF p n [("over" : Str), "under"])), s12, s13, s14, s15, s16, s17, s18, s19] W _
  obtain ⟨bs, W1, lc, _, _⟩ := lcL_drawG (t := gT 2 (gsCons (gN 18) (gsCons (gN 19) (gsNil)))) (c := kTrue) (e := cCall oTup [cVar 18, cCall oEq [cNext 1 (cK (.int 2)), cK (.int 0)]]) (env := wipeE [.no, .wd, s2, .pl (.int (n : Nat)), .pl (PD p), s5, s6, .pl (PD (allT p r)), s8, s9, s10, .pl (dX PD RD (comeF p n [("over" : Str), "under"])), s12, s13, s14, s15, s16, s17, s18, s19] [18, 19]) shD shD (fun _ => True) p W (fun s hs W => ⟨_, (s.1, decide (nx W 2 = 0)), .im, W.tail, rfl, rfl, fwTup2 rfl rfl (fw2 (fwNext rfl fwK (by decide)) fwK (evI_eq _ _ _ _)) rfl, rfl, trivial⟩)
  refine ru_set (d := PD (srt shD bs)) (k := .im) (W1 := W1) (fw1 (fw1 (fwLc (by show ((!s18.own) && ((!s19.own) && true)) = true; rw [h18, h19]; rfl) (fwSeqT rfl) rfl lc) (sortedPileL bs _)) rfl) rfl ?_
  show Runs _ [.no, .wd, s2, .pl (.int (n : Nat)), .pl (PD p), s5, s6, .pl (PD (allT p r)), s8, s9, s10, .pl (dX PD RD (comeF p n [("over" : Str), "under"])), .pl (PD (srt shD bs)), s13, s14, s15, s16, s17, s18, s19] W1 _
  have tt : bOf (cCall oEq [cNext 1 (cK (.int 2)), cK (.int 0)]) [.no, .wd, s2, .pl (.int (n : Nat)), .pl (PD p), s5, s6, .pl (PD (allT p r)), s8, s9, s10, .pl (dX PD RD (comeF p n [("over" : Str), "under"])), .pl (PD (srt shD bs)), s13, s14, s15, s16, s17, s18, s19] W1 = some (decide (nx W1 2 = 0), W1.tail) := fwB (fw2 (fwNext rfl fwK (by decide)) fwK (evI_eq _ _ _ _))
  have eg : cIf (bOf (cCall oEq [cNext 1 (cK (.int 2)), cK (.int 0)])) (cVar 12) (cVar 7) [.no, .wd, s2, .pl (.int (n : Nat)), .pl (PD p), s5, s6, .pl (PD (allT p r)), s8, s9, s10, .pl (dX PD RD (comeF p n [("over" : Str), "under"])), .pl (PD (srt shD bs)), s13, s14, s15, s16, s17, s18, s19] W1 = some (PD (if decide (nx W1 2 = 0) = true then srt shD bs else allT p r), .im, W1.tail) := by
    by_cases hz : nx W1 2 = 0
    · rw [decide_eq_true hz] at tt ⊢
      exact fwIfT tt rfl
    · rw [decide_eq_false hz] at tt ⊢
      exact fwIfF tt rfl
  refine ru_set eg rfl ?_
  generalize (if decide (nx W1 2 = 0) = true then srt shD bs else allT p r) = g
  refine ru_set (d := PD ((100, true) :: p.drop 1)) (k := .im) (W1 := W1.tail) (fw2 (d1 := .tuple (([(100, true)] : Pile).map shD)) (fwTup1 (fwTup2 fwK rfl fwK rfl) rfl) (fwDropM (e := shD) (xs := p) (n := 1) (by decide) rfl fwK) (addM (e := shD) [(100, true)] (p.drop ((1 : Int).toNat)) (by rw [List.length_drop]; simp; omega) _ _)) rfl ?_
  exact partD _ .no .no _ _ _ _ _ _ .no .no .no _ _ _ _ _ _ W1.tail n p r h g h5 h18 h19
end
end K33

set_option maxHeartbeats 2000000
namespace K33
noncomputable section
open PySem PX

def gB : Sx := sSeq (sFor (iSeq (cVar 6)) (gN 8) (sSeq (sIf (kOr (bOf (cCall oNe [cFn f_turned [cVar 7, cVar 8], cFn f__law_turn [cVar 7, cVar 8]])) (kOr (bOf (cCall oNe [cFn f_all_turned [cFn f__law_turn [cVar 7, cVar 8], cFn f_back_turn [cVar 3, cVar 8]], cVar 7])) (bOf (cCall oGt [cCall oLen [cFn f_back_turn [cVar 3, cVar 8]], cK (.int 1)])))) (sSeq (sRetK (cK (.bool false))) (sNil)) (sNil)) (sSeq (sSet 7 false (cFn f__law_turn [cVar 7, cVar 8])) (sNil)))) (sSeq (sIf (kOr (bOf (cCall oNe [cFn f_all_turned [cVar 4, cVar 6], cVar 7])) (bOf (cCall oNe [cFn f_sides_up [cVar 4], cCall oSum [cLc (iSeq (cVar 4)) (gT 2 (gsCons (gN 18) (gsCons (gN 19) (gsNil)))) (kTrue) (cCall oInt [cVar 19]) [18, 19]]]))) (sSeq (sRetK (cK (.bool false))) (sNil)) (sNil)) (sSeq (sPar 9 false 10 false (cVar 7) (cK (.int 1))) (sSeq (whileL 300 (bOf (cCall oNe [cVar 9, cVar 4])) (sSeq (sFor (iSeq (cVar 6)) (gN 8) (sSeq (sSet 9 false (cFn f__law_turn [cVar 9, cVar 8])) (sNil))) (sSeq (sAug 10 (fun x y => x + y) (cK (.int 1))) (sNil)))) (sSeq (sIf (bOf (cCall oNe [cFn f_order_of_turns [cVar 4, cVar 6], cVar 10])) (sSeq (sRetK (cK (.bool false))) (sNil)) (sNil)) (sSeq (sSet 11 false (cFn f__law_all [cVar 4, cCall oTup [cK (.str "over"), cK (.str "under")]])) (sSeq (sSet 12 false (cCall oTuple [cCall oSorted [cLc (iSeq (cVar 4)) (gT 2 (gsCons (gN 18) (gsCons (gN 19) (gsNil)))) (kTrue) (cCall oTup [cVar 18, cCall oEq [cNext 1 (cK (.int 2)), cK (.int 0)]]) [18, 19]]])) (sSeq (sSet 12 false (cIf (bOf (cCall oEq [cNext 1 (cK (.int 2)), cK (.int 0)])) (cVar 12) (cVar 7))) (sSeq (sSet 13 false (cCall oAdd [cCall oTup [cCall oTup [cK (.int 100), cK (.bool true)]], cSlice (cVar 4) (some (cK (.int 1))) none])) (sSeq (sIf (kOr (bOf (cCall oNe [cFn f_fewest_turns [cVar 4, cVar 12], cIf (bOf (cCall oIn [cVar 12, cVar 11])) (cCall oIx [cVar 11, cVar 12]) (cK .none)])) (kOr (bOf (cCall oNe [cFn f_can_come [cVar 4, cVar 12], cCall oIn [cVar 12, cVar 11]])) (bOf (cCall oIsNot [cFn f_can_come [cVar 4, cVar 13], cK (.bool false)])))) (sSeq (sRetK (cK (.bool false))) (sNil)) (sNil)) (sSeq (sFor (iSeq (cCall oTup [cCall oTup [cK (.str "over")], cCall oTup [cK (.str "under")], cCall oTup [cK (.str "over"), cK (.str "under")], cCall oTup []])) (gN 14) (sSeq (sIf (bOf (cCall oNe [cFn f_how_many [cVar 4, cVar 14], cCall oLenN [cFn f__law_all [cVar 4, cVar 14]]])) (sSeq (sRetK (cK (.bool false))) (sNil)) (sNil)) (sNil))) (sWipe [14] (sSeq (sPar 15 false 16 false (cFn f_sorted_by_over [cVar 4]) (cVar 4)) (sSeq (sFor (iSeq (cVar 15)) (gN 8) (sSeq (sIf (kOr (bOf (cCall oNe [cCall oIx [cVar 8, cK (.int 0)], cK (.str "over")])) (kNot (bOf (cChain oLe oLe (cK (.int 1)) (cCall oIx [cVar 8, cK (.int 1)]) (cVar 3))))) (sSeq (sRetK (cK (.bool false))) (sNil)) (sNil)) (sSeq (sSet 16 false (cFn f__law_turn [cVar 16, cVar 8])) (sNil)))) (sSeq (sIf (kOr (bOf (cCall oNe [cVar 16, cCall oTuple [cLc (iSeq (cCall oSorted [cVar 4])) (gT 2 (gsCons (gN 18) (gsCons (gN 19) (gsNil)))) (kTrue) (cCall oTup [cVar 18, cK (.bool true)]) [18, 19]]])) (bOf (cCall oGt [cCall oLen [cVar 15], cCall oMul [cK (.int 3), cVar 3]]))) (sSeq (sRetK (cK (.bool false))) (sNil)) (sNil)) (sNil)))))))))))))))
theorem partB (s2 s3 s4 s5 s6 s7 s8 s9 s10 s11 s12 s13 s14 s15 s16 s17 s18 s19 : Sl) (W : List Int) (n : Nat) (p : Pile) (r : Row) (h : Tn n p r) (h5 : s5.own = false) (h18 : s18.own = false) (h19 : s19.own = false) : Runs gB [.no, .wd, s2, .pl (.int (n : Nat)), .pl (PD p), s5, .pl (RD r), .pl (PD p), s8, s9, s10, s11, s12, s13, s14, s15, s16, s17, s18, s19] W (Nxt R) := by
  unfold gB
  have h3 := h.n3
  have hw := h.pn.w
  have hpl := h.plen
  have hpos : ∀ t ∈ r, 0 ≤ t.2 := fun t ht => by have := (h.ts t ht).lo; omega
  obtain ⟨e', W', q1, s8, rfl⟩ := forL_pre2 (t := gN 8) (g := (sSeq (sIf (kOr (bOf (cCall oNe [cFn f_turned [cVar 7, cVar 8], cFn f__law_turn [cVar 7, cVar 8]])) (kOr (bOf (cCall oNe [cFn f_all_turned [cFn f__law_turn [cVar 7, cVar 8], cFn f_back_turn [cVar 3, cVar 8]], cVar 7])) (bOf (cCall oGt [cCall oLen [cFn f_back_turn [cVar 3, cVar 8]], cK (.int 1)])))) (sSeq (sRetK (cK (.bool false))) (sNil)) (sNil)) (sSeq (sSet 7 false (cFn f__law_turn [cVar 7, cVar 8])) (sNil)))) tD r
    (fun done env => ∃ s8 : Sl, env = [.no, .wd, s2, .pl (.int (n : Nat)), .pl (PD p), s5, .pl (RD r), .pl (PD (allT p done)), s8, s9, s10, s11, s12, s13, s14, s15, s16, s17, s18, s19]) (fun done t rest hall env W hR => by
      obtain ⟨s8, rfl⟩ := hR
      obtain ⟨hm, hdl, hin⟩ := pre_mem hall
      have ht := h.ts t hm
      have hal : (allT p done).length = n := by rw [all_len, hpl]
      have ht0 : 0 ≤ t.2 := by have := ht.lo; omega
      have lt := law_turn_ok (allT p done) (by omega) t ht0 ht.w
      have eb := back_ok (n : Nat) t
      have e1 := fwB (fw2 (op := oNe) (env := [.no, .wd, s2, .pl (.int (n : Nat)), .pl (PD p), s5, .pl (RD r), .pl (PD (allT p done)), .pl (tD t), s9, s10, s11, s12, s13, s14, s15, s16, s17, s18, s19]) (W := W) (fwF2 (f := cVar 7) (g := cVar 8) (W1 := W) (W2 := W) rfl rfl rfl rfl (turned_ok (allT p done) (by omega) t ht0)) (fwF2 (f := cVar 7) (g := cVar 8) (W1 := W) (W2 := W) rfl rfl rfl rfl lt) (ne_same _ (flat_PD _) _ _))
      have e2 := fwB (fw2 (op := oNe) (env := [.no, .wd, s2, .pl (.int (n : Nat)), .pl (PD p), s5, .pl (RD r), .pl (PD (allT p done)), .pl (tD t), s9, s10, s11, s12, s13, s14, s15, s16, s17, s18, s19]) (W := W) (g := cVar 7) (W2 := W) (fwF2 (fwF2 (f := cVar 7) (g := cVar 8) (W1 := W) (W2 := W) rfl rfl rfl rfl lt) rfl (fwF2 (f := cVar 3) (g := cVar 8) (W1 := W) (W2 := W) rfl rfl rfl rfl eb) rfl (all_turned_ok (turnL (allT p done) t) (by rw [turn_len]; omega) (.inl rfl) (back_pos ht))) rfl (ne_PD _ (allT p done) _ _))
      rw [back_eq ht hal, decide_eq_true rfl] at e2
      have hbl := back_len (n : Nat) t
      have e3 : bOf (cCall oGt [cCall oLen [cFn f_back_turn [cVar 3, cVar 8]], cK (.int 1)]) [.no, .wd, s2, .pl (.int (n : Nat)), .pl (PD p), s5, .pl (RD r), .pl (PD (allT p done)), .pl (tD t), s9, s10, s11, s12, s13, s14, s15, s16, s17, s18, s19] W = some (decide ((1 : Int) < (backL (n : Nat) t).length), W) := fwB (fw2 (fw1 (fwF2 rfl rfl rfl rfl eb) (lenM tD _ _)) fwK (gtI _ _ _ _))
      rw [decide_eq_false (by omega)] at e3
      refine ⟨_, [.no, .wd, s2, .pl (.int (n : Nat)), .pl (PD p), s5, .pl (RD r), .pl (PD (allT p (done ++ [t]))), .pl (tD t), s9, s10, s11, s12, s13, s14, s15, s16, s17, s18, s19], W, rfl, end_of (ru_pass (W1 := W) (fwOr (b := false) (c := false) (W1 := W) e1 fun _ => fwOr (b := false) (c := false) (W1 := W) e2 fun _ => e3) (ru_set (fwF2 rfl rfl rfl rfl lt) rfl (ru_nil ?_))), .pl (tD t), rfl⟩
      rw [allT_app]
      rfl) r [] [.no, .wd, s2, .pl (.int (n : Nat)), .pl (PD p), s5, .pl (RD r), .pl (PD p), s8, s9, s10, s11, s12, s13, s14, s15, s16, s17, s18, s19] W rfl ⟨s8, rfl⟩
  refine ru_seq ((fwFor (fwSeqT rfl) rfl).trans q1) ?_
  have e1 := fwB (fw2 (op := oNe) (env := [.no, .wd, s2, .pl (.int (n : Nat)), .pl (PD p), s5, .pl (RD r), .pl (PD (allT p r)), s8, s9, s10, s11, s12, s13, s14, s15, s16, s17, s18, s19]) (W := W') (g := cVar 7) (W2 := W') (fwF2 (f := cVar 4) (g := cVar 6) (W1 := W') (W2 := W') rfl rfl rfl rfl (all_turned_ok p (by omega) (.inl rfl) hpos)) rfl (ne_same _ (flat_PD _) _ _))
  have e2 := fwB (fw2 (op := oNe) (env := [.no, .wd, s2, .pl (.int (n : Nat)), .pl (PD p), s5, .pl (RD r), .pl (PD (allT p r)), s8, s9, s10, s11, s12, s13, s14, s15, s16, s17, s18, s19]) (W := W') (fwF1 (f := cVar 4) (W1 := W') rfl rfl (sides_ok p)) (fw1 (op := oSum) (fwLc (it := iSeq (cVar 4)) (tg := gT 2 (gsCons (gN 18) (gsCons (gN 19) (gsNil)))) (c := kTrue) (f := cCall oInt [cVar 19]) (vs := [18, 19]) (by show ((!s18.own) && ((!s19.own) && true)) = true; rw [h18, h19]; rfl) (fwSeqT rfl) rfl (lcL_map shD (fun s => .int (if s.2 = true then 1 else 0)) p (fun s hs => ⟨_, .im, rfl, fw1 rfl rfl, rfl⟩))) (sumM (fun s : Sh => if s.2 = true then (1 : Int) else 0) p _)) (evI_ne _ _ _ _))
  rw [sides_sum, decide_eq_true rfl] at e2
  refine ru_pass (W1 := W') (fwOr (b := false) (c := false) (W1 := W') e1 fun _ => e2) ?_
  obtain ⟨k, hk⟩ := ord_ex h3 hw h.ts
  refine ru_par (sl := .pl (PD (itT r 1 p))) (sl2 := .pl (.int 1)) rfl rfl fwK rfl ?_
  have loop : ∀ (d j fuel : Nat) (s8 : Sl) (W : List Int), j + d = k → 1 ≤ j → d < fuel → ∃ s8' W', whileL fuel (bOf (cCall oNe [cVar 9, cVar 4])) (sSeq (sFor (iSeq (cVar 6)) (gN 8) (sSeq (sSet 9 false (cFn f__law_turn [cVar 9, cVar 8])) (sNil))) (sSeq (sAug 10 (fun x y => x + y) (cK (.int 1))) (sNil))) [.no, .wd, s2, .pl (.int (n : Nat)), .pl (PD p), s5, .pl (RD r), .pl (PD (allT p r)), s8, .pl (PD (itT r j p)), .pl (.int (j : Nat)), s11, s12, s13, s14, s15, s16, s17, s18, s19] W = some (.nx [.no, .wd, s2, .pl (.int (n : Nat)), .pl (PD p), s5, .pl (RD r), .pl (PD (allT p r)), s8', .pl (PD p), .pl (.int (k : Nat)), s11, s12, s13, s14, s15, s16, s17, s18, s19] W') := by
    intro d
    induction d with
    | zero =>
      intro j fuel s8 W hj h1 hf
      obtain ⟨f, rfl⟩ : ∃ f, fuel = f + 1 := ⟨fuel - 1, by omega⟩
      obtain rfl : j = k := by omega
      have t : (bOf (cCall oNe [cVar 9, cVar 4])) [.no, .wd, s2, .pl (.int (n : Nat)), .pl (PD p), s5, .pl (RD r), .pl (PD (allT p r)), s8, .pl (PD (itT r j p)), .pl (.int (j : Nat)), s11, s12, s13, s14, s15, s16, s17, s18, s19] W = some (false, W) := fwB ((fw2 rfl rfl (ne_PD _ _ _ _)).trans (by rw [hk.at_, decide_eq_true rfl]; rfl))
      exact ⟨s8, W, (fwWhileF t).trans (by rw [hk.at_])⟩
    | succ d ih =>
      intro j fuel s8 W hj h1 hf
      obtain ⟨f, rfl⟩ : ∃ f, fuel = f + 1 := ⟨fuel - 1, by omega⟩
      have t : (bOf (cCall oNe [cVar 9, cVar 4])) [.no, .wd, s2, .pl (.int (n : Nat)), .pl (PD p), s5, .pl (RD r), .pl (PD (allT p r)), s8, .pl (PD (itT r j p)), .pl (.int (j : Nat)), s11, s12, s13, s14, s15, s16, s17, s18, s19] W = some (true, W) := fwB ((fw2 rfl rfl (ne_PD _ _ _ _)).trans (by rw [decide_eq_false (hk.bef j h1 (by omega))]; rfl))
      have hil : (itT r j p).length = n := by rw [it_len, hpl]
      obtain ⟨e', W1, q, s8', rfl⟩ := forL_pre2 (t := gN 8) (g := (sSeq (sSet 9 false (cFn f__law_turn [cVar 9, cVar 8])) (sNil))) tD r
        (fun done env => ∃ s8 : Sl, env = [.no, .wd, s2, .pl (.int (n : Nat)), .pl (PD p), s5, .pl (RD r), .pl (PD (allT p r)), s8, .pl (PD (allT (itT r j p) done)), .pl (.int (j : Nat)), s11, s12, s13, s14, s15, s16, s17, s18, s19]) (fun done t rest hall env W hR => by
          obtain ⟨s8, rfl⟩ := hR
          obtain ⟨hm, hdl, hin⟩ := pre_mem hall
          have ht := h.ts t hm
          have hal : (allT (itT r j p) done).length = n := by rw [all_len, hil]
          refine ⟨_, [.no, .wd, s2, .pl (.int (n : Nat)), .pl (PD p), s5, .pl (RD r), .pl (PD (allT p r)), .pl (tD t), .pl (PD (allT (itT r j p) (done ++ [t]))), .pl (.int (j : Nat)), s11, s12, s13, s14, s15, s16, s17, s18, s19], W, rfl, end_of (ru_set (fwF2 rfl rfl rfl rfl (law_turn_ok (allT (itT r j p) done) (by omega) t (by have := ht.lo; omega) ht.w)) rfl (ru_nil ?_)), .pl (tD t), rfl⟩
          rw [allT_app]
          rfl) r [] [.no, .wd, s2, .pl (.int (n : Nat)), .pl (PD p), s5, .pl (RD r), .pl (PD (allT p r)), s8, .pl (PD (itT r j p)), .pl (.int (j : Nat)), s11, s12, s13, s14, s15, s16, s17, s18, s19] W rfl ⟨s8, rfl⟩
      have b : (sSeq (sFor (iSeq (cVar 6)) (gN 8) (sSeq (sSet 9 false (cFn f__law_turn [cVar 9, cVar 8])) (sNil))) (sSeq (sAug 10 (fun x y => x + y) (cK (.int 1))) (sNil))) [.no, .wd, s2, .pl (.int (n : Nat)), .pl (PD p), s5, .pl (RD r), .pl (PD (allT p r)), s8, .pl (PD (itT r j p)), .pl (.int (j : Nat)), s11, s12, s13, s14, s15, s16, s17, s18, s19] W = some (.nx [.no, .wd, s2, .pl (.int (n : Nat)), .pl (PD p), s5, .pl (RD r), .pl (PD (allT p r)), s8', .pl (PD (itT r (j + 1) p)), .pl (.int (j + 1 : Nat)), s11, s12, s13, s14, s15, s16, s17, s18, s19] W1) :=
        end_of (ru_seq ((fwFor (fwSeqT rfl) rfl).trans q) (ru_aug rfl fwK (ru_nil rfl)))
      obtain ⟨s8'', W2, z⟩ := ih (j + 1) f s8' W1 (by omega) (by omega) (by omega)
      exact ⟨s8'', W2, (fwWhileT t b).trans z⟩
  obtain ⟨s8', W2, z⟩ := loop (k - 1) 1 300 s8 W' (by have := hk.lo; omega) (Nat.le_refl _) (by have := hk.hi; omega)
  refine ru_seq z ?_
  refine ru_pass (fwB (fw2 (fwF2 rfl rfl rfl rfl (order_ok (by omega) hpos hk)) rfl (ne_same _ rfl _ _))) ?_
  exact partC _ .no .no _ _ .no _ _ _ _ _ _ _ _ _ _ _ _ W2 n p r h h5 h18 h19
end
end K33

set_option maxHeartbeats 2000000
namespace K33
noncomputable section
open PySem PX

theorem rg_at {n : Nat} {done rest : List Int} {k : Int} (h : rgZ 0 n = done ++ k :: rest) : k = (done.length : Nat) ∧ done.length < n := by
  have hlt : done.length < n := by
    have := congrArg List.length h
    rw [rgZ_len, List.length_append, List.length_cons] at this
    omega
  have hg : (rgZ 0 n)[done.length]? = (done ++ k :: rest)[done.length]? := by rw [h]
  rw [List.getElem?_append_right (Nat.le_refl _), Nat.sub_self] at hg
  unfold rgZ at hg
  rw [List.getElem?_map, List.getElem?_range hlt] at hg
  have hg2 : (0 : Int) + (done.length : Nat) = k := Option.some.inj hg
  exact ⟨by omega, hlt⟩
theorem fwTakeML {α : Type} {e : α → PyData} {xs : List α} {n : Int} {env : SEnv} {W W1 W2 : List Int} {f g : Ex} {k k1 : Kd} (hn : 0 ≤ n ∧ n ≤ xs.length) (e1 : f env W = some (.list (xs.map e), k, W1)) (e2 : g env W1 = some (.int n, k1, W2)) : cSlice f none (some g) env W = some (.list ((xs.take n.toNat).map e), .fr, W2) := by
  obtain ⟨m, rfl⟩ : ∃ m : Nat, n = m := ⟨n.toNat, by omega⟩
  unfold cSlice
  rw [e1, Option.bind_some]
  simp only [PX.part, Option.bind_some, e2]
  show Option.map _ (oSl (.list (xs.map e)) _ _) = _
  simp only [oSl, Option.map_some, cutD_to, Int.toNat_natCast, List.map_take]
theorem insPN {k : Nat} {x : Pile} {b : Bool} {m : Nat} (hk : k < 3) (h : PN k x) : PN (k + 1) (x.take m ++ [((2 * (k : Int) + 1), b)] ++ x.drop m) := by
  obtain ⟨h1, h2⟩ := words_mem.1 h.w
  have hin : ∀ s, s ∈ x.take m ++ [((2 * (k : Int) + 1), b)] ++ x.drop m ↔ s ∈ x ∨ s = (2 * (k : Int) + 1, b) := fun s => by
    rw [List.mem_append, List.mem_append, List.mem_singleton]
    conv => rhs; rw [← List.take_append_drop m x, List.mem_append]
    constructor
    · rintro ((z | z) | z)
      · exact .inl (.inl z)
      · exact .inr z
      · exact .inl (.inr z)
    · rintro ((z | z) | z)
      · exact .inl (.inl z)
      · exact .inr z
      · exact .inl (.inr z)
  refine ⟨words_mem.2 ⟨?_, fun s hs => ?_⟩, fun g hg => ?_⟩
  · rw [List.length_append, List.length_append, List.length_take, List.length_drop, List.length_singleton]
    omega
  · rcases (hin s).1 hs with z | z
    · exact h2 s z
    · subst z
      have all : ∀ k ∈ [0, 1, 2], ∀ b ∈ [true, false], ((2 * ((k : Nat) : Int) + 1, b) : Sh) ∈ letters := by decide
      exact all k (by simp; omega) b (by cases b <;> simp)
  · have eg : ∀ k ∈ [0, 1, 2], gl (k + 1) = gl k ++ [2 * ((k : Nat) : Int) + 1] := by decide
    rw [eg k (by simp; omega), List.mem_append, List.mem_singleton] at hg
    rw [List.mem_map]
    rcases hg with z | z
    · obtain ⟨s, hs, e⟩ := List.mem_map.1 (h.g g z)
      exact ⟨s, (hin s).2 (.inl hs), e⟩
    · exact ⟨_, (hin _).2 (.inr rfl), z.symm⟩
theorem turns_both (n : Nat) : (turnsL n [("over" : Str), "under"]).length = 2 * n := by
  unfold turnsL
  rw [List.filter_eq_self.2 (by intro w hw; simpa using hw)]
  rw [List.flatMap_cons, List.flatMap_cons, List.flatMap_nil, List.append_nil, List.length_append, List.length_map, List.length_map, rgZ_len]
  omega
theorem turn_ok (env : SEnv) (W : List Int) (a : Int) (hR : R env) : Runs gTurn (env.set 2 (.pl (.int a))) W (Nxt R) := by
  obtain ⟨s2, s3, s4, s5, s6, s7, s8, s9, s10, s11, s12, s13, s14, s15, s16, s17, s18, s19, h5, h18, h19, rfl⟩ := hR
  show Runs gTurn [.no, .wd, .pl (.int a), s3, s4, s5, s6, s7, s8, s9, s10, s11, s12, s13, s14, s15, s16, s17, s18, s19] W _
  unfold gTurn
  have b1 := nx_bd W (m := 3) (by decide)
  obtain ⟨n, hn⟩ : ∃ n : Nat, (1 : Int) + nx W 3 = n := ⟨(1 + nx W 3).toNat, by omega⟩
  have n1 : 1 ≤ n := by omega
  have n3 : n ≤ 3 := by omega
  refine ru_asg (d := .tuple [.int (n : Nat), .list []]) (k := .im) (W1 := W.tail) (e' := [.no, .wd, .pl (.int a), .pl (.int (n : Nat)), .pl (.list (([]).map shD)), s5, s6, s7, s8, s9, s10, s11, s12, s13, s14, s15, s16, s17, s18, s19]) (fwTup2 ((fw2 fwK (fwNext rfl fwK (by decide)) (addI _ _ _ _)).trans (by rw [hn])) rfl fwLst0 rfl) rfl rfl ?_
  obtain ⟨e', W', q1, x, s5, s17, hx, h5, rfl⟩ := forL_pre2 (t := gN 5) (g := (sSeq (sSet 17 false (cNext 1 (cCall oAdd [cVar 5, cK (.int 1)]))) (sSeq (sSet 4 false (cCall oAdd [cCall oAdd [cSlice (cVar 4) none (some (cVar 17)), cCall oLst [cCall oTup [cCall oAdd [cCall oMul [cK (.int 2), cVar 5], cK (.int 1)], cCall oEq [cNext 1 (cK (.int 2)), cK (.int 0)]]]], cSlice (cVar 4) (some (cVar 17)) none])) (sNil)))) PyData.int (rgZ 0 n)
    (fun done env => ∃ (x : Pile) (s5 s17 : Sl), PN done.length x ∧ s5.own = false ∧ env = [.no, .wd, .pl (.int a), .pl (.int (n : Nat)), .pl (.list ((x).map shD)), s5, s6, s7, s8, s9, s10, s11, s12, s13, s14, s15, s16, s17, s18, s19]) (fun done k rest hall env W hR => by
      obtain ⟨x, s5, s17, hx, h5, rfl⟩ := hR
      obtain ⟨hk, hlt⟩ := rg_at hall
      have hxl : x.length = done.length := (words_mem.1 hx.w).1
      have c1 := nx_bd W (m := k + 1) (by omega)
      have c2 := nx_bd W.tail (m := 2) (by decide)
      refine ⟨_, [.no, .wd, .pl (.int a), .pl (.int (n : Nat)), .pl (.list ((x.take (nx W (k + 1)).toNat ++ [((2 * (done.length : Int) + 1), decide (nx W.tail 2 = 0))] ++ x.drop (nx W (k + 1)).toNat).map shD)), .pl (.int k), s6, s7, s8, s9, s10, s11, s12, s13, s14, s15, s16, .pl (.int (nx W (k + 1))), s18, s19], W.tail.tail, rfl, end_of (ru_set (fwNext rfl (fw2 rfl fwK (addI _ _ _ _)) (by omega)) rfl (ru_set (fw2 (fw2 (fwTakeML (xs := x) (e := shD) ⟨c1.1, by omega⟩ rfl rfl) (d2 := .list (([((2 * (done.length : Int) + 1), decide (nx W.tail 2 = 0))] : Pile).map shD)) (k2 := .fr) (W2 := W.tail.tail) (fwLst1 (fwTup2 ((fw2 (fw2 fwK rfl (mulI 2 k (by omega) _ _)) fwK (addI _ _ _ _)).trans (by rw [hk])) rfl (fw2 (fwNext rfl fwK (by decide)) fwK (evI_eq _ _ _ _)) rfl) rfl) (addML (e := shD) _ [((2 * (done.length : Int) + 1), decide (nx W.tail 2 = 0))] (by rw [List.length_take]; simp; omega) _ _)) (fwDropML (xs := x) (e := shD) c1.1 rfl rfl) (addML (e := shD) _ _ (by rw [List.length_append, List.length_take, List.length_drop]; simp; omega) _ _)) rfl (ru_nil rfl))), _, .pl (.int k), .pl (.int (nx W (k + 1))), ?_, rfl, rfl⟩
      rw [List.length_append, List.length_singleton]
      exact insPN (by omega) hx) (rgZ 0 n) [] [.no, .wd, .pl (.int a), .pl (.int (n : Nat)), .pl (.list (([]).map shD)), s5, s6, s7, s8, s9, s10, s11, s12, s13, s14, s15, s16, s17, s18, s19] W.tail rfl ⟨[], s5, s17, ⟨by decide, fun x hx => by cases hx⟩, h5, rfl⟩
  rw [rgZ_len] at hx
  have hxl : x.length = n := (words_mem.1 hx.w).1
  refine ru_seq ((fwFor (fwR1Z (hi := n) rfl (by omega) (by omega)) rfl).trans q1) (ru_wipe ?_)
  refine ru_set (d := PD x) (k := .im) (W1 := W') (fw1 rfl rfl) rfl ?_
  show Runs _ [.no, .wd, .pl (.int a), .pl (.int (n : Nat)), .pl (PD x), s5, s6, s7, s8, s9, s10, s11, s12, s13, s14, s15, s16, .no, s18, s19] W' _
  have b2 := nx_bd W' (m := 4) (by decide)
  have hb := turns_both n
  obtain ⟨r, W1, lc, hrl, hr⟩ := lcL_drawG (t := gN 5) (c := kTrue) (e := cCall oIx [cFn f__law_turns [cVar 3, cCall oTup [cK (.str "over"), cK (.str "under")]], cNext 1 (cCall oMul [cK (.int 2), cVar 3])]) (env := wipeE [.no, .wd, .pl (.int a), .pl (.int (n : Nat)), .pl (PD x), s5, s6, s7, s8, s9, s10, s11, s12, s13, s14, s15, s16, .no, s18, s19] [5]) PyData.int tD (fun t => t ∈ turnsL n [("over" : Str), "under"]) (rgZ 0 (nx W' 4).toNat) W'.tail (fun k hk W => by
    have c := nx_bd W (m := 2 * (n : Int)) (by omega)
    have hlt : (nx W (2 * (n : Int))).toNat < (turnsL n [("over" : Str), "under"]).length := by rw [hb]; omega
    refine ⟨_, (turnsL n [("over" : Str), "under"])[(nx W (2 * (n : Int))).toNat], .im, W.tail, rfl, rfl, fw2 (fwF2 rfl rfl (fwTup2 fwK rfl fwK rfl) rfl (law_turns_ok n (by omega) [("over" : Str), "under"])) (fwNext rfl (fw2 fwK rfl (mulI 2 (n : Nat) (by omega) _ _)) (by omega)) ?_, rfl, List.getElem_mem hlt⟩
    have := fwIxNL (ds := (turnsL n [("over" : Str), "under"]).map tD) (n := (nx W (2 * (n : Int))).toNat) (d := tD (turnsL n [("over" : Str), "under"])[(nx W (2 * (n : Int))).toNat]) (by rw [List.getElem?_map, List.getElem?_eq_getElem hlt]; rfl) .im .im
    rw [show (((nx W (2 * (n : Int))).toNat : Nat) : Int) = nx W (2 * (n : Int)) by omega] at this
    exact this)
  refine ru_set (d := RD r) (k := .im) (W1 := W1) (fw1 (fwLc (by show ((!s5.own) && true) = true; rw [h5]; rfl) (fwR1Z (hi := nx W' 4) (fwNext rfl fwK (by decide)) (by omega) (by omega)) rfl lc) rfl) rfl (ru_set (d := PD x) (k := .im) (W1 := W1) rfl rfl ?_)
  exact partB _ .no .no _ .no .no _ _ _ _ _ _ _ _ _ _ _ _ W1 n x r ⟨n3, n1, hx, fun t ht => by
    have := turns_mem (hr t ht)
    exact ⟨this.1, this.2.1, this.2.2⟩, by rw [hrl, rgZ_len]; omega⟩ h5 h18 h19
theorem draws_ok (ns : List Int) (hn : ns.length ≤ 63) : ∃ ds W', g__law_draws (envS 8 ns 100) [] = some (.rt (.list (ds.map PyData.int)) W') ∧ drOk ds := PX.draws_ok 100 (by decide) (by decide) ns hn
theorem law_ok (W : List Int) (h : drOk W) : ∃ W', g_law (envL 20) W = some (.rt (.bool true) W') := law_of (m := 2) (turn := gTurn) R (by decide) (by decide) ⟨.no, .no, .no, .no, .no, .no, .no, .no, .no, .no, .no, .no, .no, .no, .no, .no, .no, .no, rfl, rfl, rfl, rfl⟩ turn_ok
end
end K33

namespace K33
open PySem PySem.Spec PyProof.Rows L2 PX
theorem all_mk {l : PySem.W.OpenLaw} {w : World} {K : PySem.W.Frag} {h : Heap} {mg : Str → Option Value} {fa f1 f2 f3 f4 f5 f6 f7 f8 f9 f10 f11 f12 f13 f14 f15 f16 f17 f18 : Addr} (hdr : ∀ ns : List Int, ns.length ≤ 63 → ∃ ds W', g__law_draws (envS 8 ns 100) [] = some (.rt (.list (ds.map PyData.int)) W') ∧ drOk ds) (hlw : ∀ W, drOk W → ∃ W', g_law (envL 20) W = some (.rt (.bool true) W')) (X : K.In h) (G : h.Ns mainGlobals mg) (hfa : mg "law" = some (.ref fa))
    {od1 od2 od3 od4 od5 od6 od7 od8 od9 od10 od11 od12 od13 od14 od15 od16 od17 od18 an1 an2 an3 an4 an5 an6 an7 an8 an9 an10 an11 an12 an13 an14 an15 an16 an17 an18 : Option Addr} {sl1 sl2 sl3 sl4 sl5 sl6 sl7 sl8 sl9 sl10 sl11 sl12 sl13 sl14 sl15 sl16 sl17 sl18 : Array (Option Value)} {oc1 oc2 oc3 oc4 oc5 oc6 oc7 oc8 oc9 oc10 oc11 oc12 oc13 oc14 oc15 oc16 oc17 oc18 kV1 kV2 kV3 kV4 kV5 kV6 kV7 kV8 kV9 kV10 kV11 kV12 kV13 kV14 kV15 kV16 kV17 kV18 dc1 dc2 dc3 dc4 dc5 dc6 dc7 dc8 dc9 dc10 dc11 dc12 dc13 dc14 dc15 dc16 dc17 dc18 pm1 pm2 pm3 pm4 pm5 pm6 pm7 pm8 pm9 pm10 pm11 pm12 pm13 pm14 pm15 pm16 pm17 pm18 cd1 cd2 cd3 cd4 cd5 cd6 cd7 cd8 cd9 cd10 cd11 cd12 cd13 cd14 cd15 cd16 cd17 cd18 ct1 ct2 ct3 ct4 ct5 ct6 ct7 ct8 ct9 ct10 ct11 ct12 ct13 ct14 ct15 ct16 ct17 ct18 : Value}
    (a1 : PySem.W.nsIn K mainGlobals "over" = some (some (.ref f1))) (l1 : K.lookup f1 = some ⟨oc1, od1, .func (PySem.W.fnOf "over" "over" (defArgs s_over) (defBody s_over) (defScope s_over) .none kV1 dc1 pm1 an1 cd1 ct1), sl1⟩) (c1 : PySem.W.codeIn K cd1 "over" = true) (k1 : PySem.W.keepIn K (.ref f1) = true)
    (a2 : PySem.W.nsIn K mainGlobals "turned" = some (some (.ref f2))) (l2 : K.lookup f2 = some ⟨oc2, od2, .func (PySem.W.fnOf "turned" "turned" (defArgs s_turned) (defBody s_turned) (defScope s_turned) .none kV2 dc2 pm2 an2 cd2 ct2), sl2⟩) (c2 : PySem.W.codeIn K cd2 "turned" = true) (k2 : PySem.W.keepIn K (.ref f2) = true)
    (a3 : PySem.W.nsIn K mainGlobals "all_turned" = some (some (.ref f3))) (l3 : K.lookup f3 = some ⟨oc3, od3, .func (PySem.W.fnOf "all_turned" "all_turned" (defArgs s_all_turned) (defBody s_all_turned) (defScope s_all_turned) .none kV3 dc3 pm3 an3 cd3 ct3), sl3⟩) (c3 : PySem.W.codeIn K cd3 "all_turned" = true) (k3 : PySem.W.keepIn K (.ref f3) = true)
    (a4 : PySem.W.nsIn K mainGlobals "back_turn" = some (some (.ref f4))) (l4 : K.lookup f4 = some ⟨oc4, od4, .func (PySem.W.fnOf "back_turn" "back_turn" (defArgs s_back_turn) (defBody s_back_turn) (defScope s_back_turn) .none kV4 dc4 pm4 an4 cd4 ct4), sl4⟩) (c4 : PySem.W.codeIn K cd4 "back_turn" = true) (k4 : PySem.W.keepIn K (.ref f4) = true)
    (a5 : PySem.W.nsIn K mainGlobals "all_turns" = some (some (.ref f5))) (l5 : K.lookup f5 = some ⟨oc5, od5, .func (PySem.W.fnOf "all_turns" "all_turns" (defArgs s_all_turns) (defBody s_all_turns) (defScope s_all_turns) .none kV5 dc5 pm5 an5 cd5 ct5), sl5⟩) (c5 : PySem.W.codeIn K cd5 "all_turns" = true) (k5 : PySem.W.keepIn K (.ref f5) = true)
    (a6 : PySem.W.nsIn K mainGlobals "come_to" = some (some (.ref f6))) (l6 : K.lookup f6 = some ⟨oc6, od6, .func (PySem.W.fnOf "come_to" "come_to" (defArgs s_come_to) (defBody s_come_to) (defScope s_come_to) .none kV6 dc6 pm6 an6 cd6 ct6), sl6⟩) (c6 : PySem.W.codeIn K cd6 "come_to" = true) (k6 : PySem.W.keepIn K (.ref f6) = true)
    (a7 : PySem.W.nsIn K mainGlobals "fewest_turns" = some (some (.ref f7))) (l7 : K.lookup f7 = some ⟨oc7, od7, .func (PySem.W.fnOf "fewest_turns" "fewest_turns" (defArgs s_fewest_turns) (defBody s_fewest_turns) (defScope s_fewest_turns) .none kV7 dc7 pm7 an7 cd7 ct7), sl7⟩) (c7 : PySem.W.codeIn K cd7 "fewest_turns" = true) (k7 : PySem.W.keepIn K (.ref f7) = true)
    (a8 : PySem.W.nsIn K mainGlobals "can_come" = some (some (.ref f8))) (l8 : K.lookup f8 = some ⟨oc8, od8, .func (PySem.W.fnOf "can_come" "can_come" (defArgs s_can_come) (defBody s_can_come) (defScope s_can_come) .none kV8 dc8 pm8 an8 cd8 ct8), sl8⟩) (c8 : PySem.W.codeIn K cd8 "can_come" = true) (k8 : PySem.W.keepIn K (.ref f8) = true)
    (a9 : PySem.W.nsIn K mainGlobals "how_many" = some (some (.ref f9))) (l9 : K.lookup f9 = some ⟨oc9, od9, .func (PySem.W.fnOf "how_many" "how_many" (defArgs s_how_many) (defBody s_how_many) (defScope s_how_many) .none kV9 dc9 pm9 an9 cd9 ct9), sl9⟩) (c9 : PySem.W.codeIn K cd9 "how_many" = true) (k9 : PySem.W.keepIn K (.ref f9) = true)
    (a10 : PySem.W.nsIn K mainGlobals "order_of_turns" = some (some (.ref f10))) (l10 : K.lookup f10 = some ⟨oc10, od10, .func (PySem.W.fnOf "order_of_turns" "order_of_turns" (defArgs s_order_of_turns) (defBody s_order_of_turns) (defScope s_order_of_turns) .none kV10 dc10 pm10 an10 cd10 ct10), sl10⟩) (c10 : PySem.W.codeIn K cd10 "order_of_turns" = true) (k10 : PySem.W.keepIn K (.ref f10) = true)
    (a11 : PySem.W.nsIn K mainGlobals "sides_up" = some (some (.ref f11))) (l11 : K.lookup f11 = some ⟨oc11, od11, .func (PySem.W.fnOf "sides_up" "sides_up" (defArgs s_sides_up) (defBody s_sides_up) (defScope s_sides_up) .none kV11 dc11 pm11 an11 cd11 ct11), sl11⟩) (c11 : PySem.W.codeIn K cd11 "sides_up" = true) (k11 : PySem.W.keepIn K (.ref f11) = true)
    (a12 : PySem.W.nsIn K mainGlobals "sorted_by_over" = some (some (.ref f12))) (l12 : K.lookup f12 = some ⟨oc12, od12, .func (PySem.W.fnOf "sorted_by_over" "sorted_by_over" (defArgs s_sorted_by_over) (defBody s_sorted_by_over) (defScope s_sorted_by_over) .none kV12 dc12 pm12 an12 cd12 ct12), sl12⟩) (c12 : PySem.W.codeIn K cd12 "sorted_by_over" = true) (k12 : PySem.W.keepIn K (.ref f12) = true)
    (a13 : PySem.W.nsIn K mainGlobals "_law_draws" = some (some (.ref f13))) (l13 : K.lookup f13 = some ⟨oc13, od13, .func (PySem.W.fnOf "_law_draws" "_law_draws" (defArgs s__law_draws) (defBody s__law_draws) (defScope s__law_draws) .none kV13 dc13 pm13 an13 cd13 ct13), sl13⟩) (c13 : PySem.W.codeIn K cd13 "_law_draws" = true) (k13 : PySem.W.keepIn K (.ref f13) = true)
    (a14 : PySem.W.nsIn K mainGlobals "_law_next" = some (some (.ref f14))) (l14 : K.lookup f14 = some ⟨oc14, od14, .func (PySem.W.fnOf "_law_next" "_law_next" (defArgs s__law_next) (defBody s__law_next) (defScope s__law_next) .none kV14 dc14 pm14 an14 cd14 ct14), sl14⟩) (c14 : PySem.W.codeIn K cd14 "_law_next" = true) (k14 : PySem.W.keepIn K (.ref f14) = true)
    (a15 : PySem.W.nsIn K mainGlobals "_law_turn" = some (some (.ref f15))) (l15 : K.lookup f15 = some ⟨oc15, od15, .func (PySem.W.fnOf "_law_turn" "_law_turn" (defArgs s__law_turn) (defBody s__law_turn) (defScope s__law_turn) .none kV15 dc15 pm15 an15 cd15 ct15), sl15⟩) (c15 : PySem.W.codeIn K cd15 "_law_turn" = true) (k15 : PySem.W.keepIn K (.ref f15) = true)
    (a16 : PySem.W.nsIn K mainGlobals "_law_turns" = some (some (.ref f16))) (l16 : K.lookup f16 = some ⟨oc16, od16, .func (PySem.W.fnOf "_law_turns" "_law_turns" (defArgs s__law_turns) (defBody s__law_turns) (defScope s__law_turns) .none kV16 dc16 pm16 an16 cd16 ct16), sl16⟩) (c16 : PySem.W.codeIn K cd16 "_law_turns" = true) (k16 : PySem.W.keepIn K (.ref f16) = true)
    (a17 : PySem.W.nsIn K mainGlobals "_law_all" = some (some (.ref f17))) (l17 : K.lookup f17 = some ⟨oc17, od17, .func (PySem.W.fnOf "_law_all" "_law_all" (defArgs s__law_all) (defBody s__law_all) (defScope s__law_all) .none kV17 dc17 pm17 an17 cd17 ct17), sl17⟩) (c17 : PySem.W.codeIn K cd17 "_law_all" = true) (k17 : PySem.W.keepIn K (.ref f17) = true)
    (a18 : PySem.W.nsIn K mainGlobals "law" = some (some (.ref f18))) (l18 : K.lookup f18 = some ⟨oc18, od18, .func (PySem.W.fnOf "law" "law" (defArgs s_law) (defBody s_law) (defScope s_law) .none kV18 dc18 pm18 an18 cd18 ct18), sl18⟩) (c18 : PySem.W.codeIn K cd18 "law" = true) (k18 : PySem.W.keepIn K (.ref f18) = true)
    (z1 : PySem.W.nsIn K mainGlobals "abs" = some none) (z2 : PySem.W.nsIn K mainGlobals "int" = some none) (z3 : PySem.W.nsIn K mainGlobals "len" = some none) (z4 : PySem.W.nsIn K mainGlobals "list" = some none) (z5 : PySem.W.nsIn K mainGlobals "range" = some none) (z6 : PySem.W.nsIn K mainGlobals "sorted" = some none) (z7 : PySem.W.nsIn K mainGlobals "sum" = some none) (z8 : PySem.W.nsIn K mainGlobals "tuple" = some none) :
    ∃ fd : FuncData, (∀ (s : Shared) (v : Value), BindsTo s fd ⟨[v], []⟩ [("script", v)]) ∧ ∀ base : Heap, K.In base → base.Ns mainGlobals mg → FnOk l.prog w K mg base CX0 6 fa fd ["script"] (spLaw (FW.mk K w)) := by
  have e := hfa.symm.trans (PySem.W.mg_of X G a18)
  cases e
  have b : Bl mg := ⟨PySem.W.mg_none_of X G z1, PySem.W.mg_none_of X G z2, PySem.W.mg_none_of X G z3, PySem.W.mg_none_of X G z4, PySem.W.mg_none_of X G z5, PySem.W.mg_none_of X G z6, PySem.W.mg_none_of X G z7, PySem.W.mg_none_of X G z8⟩
  have F1 := fun_mk (st := s_over) l1 c1 k1
  have b1 := F1.binds (ps := ["sheets"]) fun _ _ _ _ _ _ us hl => match us, hl with | [_], _ => rfl
  have F2 := fun_mk (st := s_turned) l2 c2 k2
  have b2 := F2.binds (ps := ["pile", "turn"]) fun _ _ _ _ _ _ us hl => match us, hl with | [_, _], _ => rfl
  have F3 := fun_mk (st := s_all_turned) l3 c3 k3
  have b3 := F3.binds (ps := ["pile", "turns"]) fun _ _ _ _ _ _ us hl => match us, hl with | [_, _], _ => rfl
  have F4 := fun_mk (st := s_back_turn) l4 c4 k4
  have b4 := F4.binds (ps := ["many", "turn"]) fun _ _ _ _ _ _ us hl => match us, hl with | [_, _], _ => rfl
  have F5 := fun_mk (st := s_all_turns) l5 c5 k5
  have b5 := F5.binds (ps := ["many", "kinds"]) fun _ _ _ _ _ _ us hl => match us, hl with | [_, _], _ => rfl
  have F6 := fun_mk (st := s_come_to) l6 c6 k6
  have b6 := F6.binds (ps := ["pile", "kinds"]) fun _ _ _ _ _ _ us hl => match us, hl with | [_, _], _ => rfl
  have F7 := fun_mk (st := s_fewest_turns) l7 c7 k7
  have b7 := F7.binds (ps := ["one", "other"]) fun _ _ _ _ _ _ us hl => match us, hl with | [_, _], _ => rfl
  have F8 := fun_mk (st := s_can_come) l8 c8 k8
  have b8 := F8.binds (ps := ["one", "other"]) fun _ _ _ _ _ _ us hl => match us, hl with | [_, _], _ => rfl
  have F9 := fun_mk (st := s_how_many) l9 c9 k9
  have b9 := F9.binds (ps := ["pile", "kinds"]) fun _ _ _ _ _ _ us hl => match us, hl with | [_, _], _ => rfl
  have F10 := fun_mk (st := s_order_of_turns) l10 c10 k10
  have b10 := F10.binds (ps := ["pile", "turns"]) fun _ _ _ _ _ _ us hl => match us, hl with | [_, _], _ => rfl
  have F11 := fun_mk (st := s_sides_up) l11 c11 k11
  have b11 := F11.binds (ps := ["pile"]) fun _ _ _ _ _ _ us hl => match us, hl with | [_], _ => rfl
  have F12 := fun_mk (st := s_sorted_by_over) l12 c12 k12
  have b12 := F12.binds (ps := ["pile"]) fun _ _ _ _ _ _ us hl => match us, hl with | [_], _ => rfl
  have F13 := fun_mk (st := s__law_draws) l13 c13 k13
  have b13 := F13.binds (ps := ["script", "many"]) fun _ _ _ _ _ _ us hl => match us, hl with | [_, _], _ => rfl
  have F14 := fun_mk (st := s__law_next) l14 c14 k14
  have b14 := F14.binds (ps := ["w", "many"]) fun _ _ _ _ _ _ us hl => match us, hl with | [_, _], _ => rfl
  have F15 := fun_mk (st := s__law_turn) l15 c15 k15
  have b15 := F15.binds (ps := ["pile", "turn"]) fun _ _ _ _ _ _ us hl => match us, hl with | [_, _], _ => rfl
  have F16 := fun_mk (st := s__law_turns) l16 c16 k16
  have b16 := F16.binds (ps := ["many", "kinds"]) fun _ _ _ _ _ _ us hl => match us, hl with | [_, _], _ => rfl
  have F17 := fun_mk (st := s__law_all) l17 c17 k17
  have b17 := F17.binds (ps := ["pile", "kinds"]) fun _ _ _ _ _ _ us hl => match us, hl with | [_, _], _ => rfl
  have F18 := fun_mk (st := s_law) l18 c18 k18
  refine ⟨PySem.W.fnOf "law" "law" (defArgs s_law) (defBody s_law) (defScope s_law) .none kV18 dc18 pm18 an18 cd18 ct18, fun s v => .of_eq rfl, fun base _ _ => ?_⟩
  have c_over : Cal l.prog w (FW.mk K w) mg base "over" 1 ["sheets"] (spF (FW.mk K w) 1 f_over) := ⟨f1, _, ok_over (K := FW.mk K w) b F1, PySem.W.mg_of X G a1, k1, b1⟩
  have c_turned : Cal l.prog w (FW.mk K w) mg base "turned" 2 ["pile", "turn"] (spF (FW.mk K w) 2 f_turned) := ⟨f2, _, ok_turned (K := FW.mk K w) b c_over F2, PySem.W.mg_of X G a2, k2, b2⟩
  have c_all_turned : Cal l.prog w (FW.mk K w) mg base "all_turned" 3 ["pile", "turns"] (spF (FW.mk K w) 2 f_all_turned) := ⟨f3, _, ok_all_turned (K := FW.mk K w) b c_turned F3, PySem.W.mg_of X G a3, k3, b3⟩
  have c_back_turn : Cal l.prog w (FW.mk K w) mg base "back_turn" 1 ["many", "turn"] (spF (FW.mk K w) 2 f_back_turn) := ⟨f4, _, ok_back_turn (K := FW.mk K w) b F4, PySem.W.mg_of X G a4, k4, b4⟩
  have c_all_turns : Cal l.prog w (FW.mk K w) mg base "all_turns" 1 ["many", "kinds"] (spF (FW.mk K w) 2 f_all_turns) := ⟨f5, _, ok_all_turns (K := FW.mk K w) b F5, PySem.W.mg_of X G a5, k5, b5⟩
  have c_come_to : Cal l.prog w (FW.mk K w) mg base "come_to" 3 ["pile", "kinds"] (spF (FW.mk K w) 2 f_come_to) := ⟨f6, _, ok_come_to (K := FW.mk K w) b c_all_turns c_turned F6, PySem.W.mg_of X G a6, k6, b6⟩
  have c_fewest_turns : Cal l.prog w (FW.mk K w) mg base "fewest_turns" 4 ["one", "other"] (spF (FW.mk K w) 2 f_fewest_turns) := ⟨f7, _, ok_fewest_turns (K := FW.mk K w) b c_come_to F7, PySem.W.mg_of X G a7, k7, b7⟩
  have c_can_come : Cal l.prog w (FW.mk K w) mg base "can_come" 5 ["one", "other"] (spF (FW.mk K w) 2 f_can_come) := ⟨f8, _, ok_can_come (K := FW.mk K w) b c_fewest_turns F8, PySem.W.mg_of X G a8, k8, b8⟩
  have c_how_many : Cal l.prog w (FW.mk K w) mg base "how_many" 4 ["pile", "kinds"] (spF (FW.mk K w) 2 f_how_many) := ⟨f9, _, ok_how_many (K := FW.mk K w) b c_come_to F9, PySem.W.mg_of X G a9, k9, b9⟩
  have c_order_of_turns : Cal l.prog w (FW.mk K w) mg base "order_of_turns" 4 ["pile", "turns"] (spF (FW.mk K w) 2 f_order_of_turns) := ⟨f10, _, ok_order_of_turns (K := FW.mk K w) b c_all_turned F10, PySem.W.mg_of X G a10, k10, b10⟩
  have c_sides_up : Cal l.prog w (FW.mk K w) mg base "sides_up" 1 ["pile"] (spF (FW.mk K w) 1 f_sides_up) := ⟨f11, _, ok_sides_up (K := FW.mk K w) b F11, PySem.W.mg_of X G a11, k11, b11⟩
  have c_sorted_by_over : Cal l.prog w (FW.mk K w) mg base "sorted_by_over" 4 ["pile"] (spF (FW.mk K w) 1 f_sorted_by_over) := ⟨f12, _, ok_sorted_by_over (K := FW.mk K w) b c_all_turned F12, PySem.W.mg_of X G a12, k12, b12⟩
  have c_draws : Cal l.prog w (FW.mk K w) mg base "_law_draws" 1 ["script", "many"] (spDraws (FW.mk K w) 100) := ⟨f13, _, ok__law_draws (K := FW.mk K w) b F13 hdr, PySem.W.mg_of X G a13, k13, b13⟩
  have c_next : Cal l.prog w (FW.mk K w) mg base "_law_next" 1 ["w", "many"] (spNext (FW.mk K w)) := ⟨f14, _, ok__law_next (K := FW.mk K w) b F14, PySem.W.mg_of X G a14, k14, b14⟩
  have c__law_turn : Cal l.prog w (FW.mk K w) mg base "_law_turn" 1 ["pile", "turn"] (spF (FW.mk K w) 2 f__law_turn) := ⟨f15, _, ok__law_turn (K := FW.mk K w) b F15, PySem.W.mg_of X G a15, k15, b15⟩
  have c__law_turns : Cal l.prog w (FW.mk K w) mg base "_law_turns" 1 ["many", "kinds"] (spF (FW.mk K w) 2 f__law_turns) := ⟨f16, _, ok__law_turns (K := FW.mk K w) b F16, PySem.W.mg_of X G a16, k16, b16⟩
  have c__law_all : Cal l.prog w (FW.mk K w) mg base "_law_all" 2 ["pile", "kinds"] (spF (FW.mk K w) 2 f__law_all) := ⟨f17, _, ok__law_all (K := FW.mk K w) b c__law_turns c__law_turn F17, PySem.W.mg_of X G a17, k17, b17⟩
  exact ok_law (K := FW.mk K w) b c_draws c_next c__law_turns c_turned c__law_turn c_all_turned c_back_turn c_sides_up c_order_of_turns c__law_all c_fewest_turns c_can_come c_how_many c_sorted_by_over F18 hlw
end K33
open PySem PySem.W PyProof.Rows
set_option maxHeartbeats 0 in
theorem PySem.Challenge.cw_papermade_k33_piles_that_are_turned_holds : PySem.Challenge.rw_papermade_k33_piles_that_are_turned.Holds := by
  w_on; o_law; k_head; (case hw => w_witness2)
  k_fill
  refine L2.walk_of (l := PySem.Challenge.rw_papermade_k33_piles_that_are_turned) (n := 63) (k := 6) (x := "script") (CX := fun _ => L2.CX0) (sp := fun w => PX.spLaw (PX.FW.mk _ w)) rfl (by decide) rfl ⟨rfl, by decide, by decide⟩ (fun w h Y => PySem.W.kIn_of Y) ?F (fun _ _ a ns hl _ hS => ⟨a, ns, rfl, hS, hl, fun _ => rfl⟩) (fun _ _ _ _ _ h => h)
  case F =>
    intro w mg fa h KX G hmg
    refine' K33.all_mk K33.draws_ok K33.law_ok KX G hmg ?a1 ?l1 ?c1 ?k1 ?a2 ?l2 ?c2 ?k2 ?a3 ?l3 ?c3 ?k3 ?a4 ?l4 ?c4 ?k4 ?a5 ?l5 ?c5 ?k5 ?a6 ?l6 ?c6 ?k6 ?a7 ?l7 ?c7 ?k7 ?a8 ?l8 ?c8 ?k8 ?a9 ?l9 ?c9 ?k9 ?a10 ?l10 ?c10 ?k10 ?a11 ?l11 ?c11 ?k11 ?a12 ?l12 ?c12 ?k12 ?a13 ?l13 ?c13 ?k13 ?a14 ?l14 ?c14 ?k14 ?a15 ?l15 ?c15 ?k15 ?a16 ?l16 ?c16 ?k16 ?a17 ?l17 ?c17 ?k17 ?a18 ?l18 ?c18 ?k18 ?z1 ?z2 ?z3 ?z4 ?z5 ?z6 ?z7 ?z8
    (case a1 => k_is); (case l1 => k_is); (case c1 => k_is); (case k1 => k_is); (case a2 => k_is); (case l2 => k_is); (case c2 => k_is); (case k2 => k_is); (case a3 => k_is); (case l3 => k_is); (case c3 => k_is); (case k3 => k_is); (case a4 => k_is); (case l4 => k_is); (case c4 => k_is); (case k4 => k_is); (case a5 => k_is); (case l5 => k_is); (case c5 => k_is); (case k5 => k_is); (case a6 => k_is); (case l6 => k_is); (case c6 => k_is); (case k6 => k_is); (case a7 => k_is); (case l7 => k_is); (case c7 => k_is); (case k7 => k_is); (case a8 => k_is); (case l8 => k_is); (case c8 => k_is); (case k8 => k_is); (case a9 => k_is); (case l9 => k_is); (case c9 => k_is); (case k9 => k_is); (case a10 => k_is); (case l10 => k_is); (case c10 => k_is); (case k10 => k_is); (case a11 => k_is); (case l11 => k_is); (case c11 => k_is); (case k11 => k_is); (case a12 => k_is); (case l12 => k_is); (case c12 => k_is); (case k12 => k_is); (case a13 => k_is); (case l13 => k_is); (case c13 => k_is); (case k13 => k_is); (case a14 => k_is); (case l14 => k_is); (case c14 => k_is); (case k14 => k_is); (case a15 => k_is); (case l15 => k_is); (case c15 => k_is); (case k15 => k_is); (case a16 => k_is); (case l16 => k_is); (case c16 => k_is); (case k16 => k_is); (case a17 => k_is); (case l17 => k_is); (case c17 => k_is); (case k17 => k_is); (case a18 => k_is); (case l18 => k_is); (case c18 => k_is); (case k18 => k_is); (case z1 => k_is); (case z2 => k_is); (case z3 => k_is); (case z4 => k_is); (case z5 => k_is); (case z6 => k_is); (case z7 => k_is); (case z8 => k_is)
