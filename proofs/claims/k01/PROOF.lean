import PyProof.Rows.All
import Wide.All
import OpenK.AllK
import Wide.FinOn
import HandS.ForMost
import HandS.Evl
import HandS.Exc
import HandS.ExcOwn
import HandS.TryOnly
import HandS.TryMany
import HandS.CallSlots
import HandS.WordsExc
import HandS.StrMore
import HandS.TupAny
import HandS.Deep
import HandS.Walk
import HandS.IsInst
import HandS.Codes
import PyProof.StrBlock2
import HandS.TupMul
import PyProof.StrLawsTight
import PyProof.StrLawsLast
import PyProof.StrLawsFrom
import HandS.ExcInit
import HandS.ExcField
import HandS.ExcIs
import KE.KExcIs
import KE.KIsAll
import HandS.Flow
import PyProof.P3Eq
import PySem.Challenge.RW_sheetwatch_k01_rules_with_a_bad_place
set_option Elab.async false
set_option linter.all false
set_option maxRecDepth 100000
set_option maxHeartbeats 4000000
/-! A mini language over HandS, 1: values as trees, what represents them, operations. -/
namespace Mp
open PySem L2 Evl
open SX (S S_len S_cat S_inj)

/-! ### values -/
inductive D where
  | non | bl (b : Bool) | int (i : Int) | str (l : List Nat) | ty (n : String) | lst (ds : List D) | tup (ds : List D) | fls (ds : List D)
  deriving Inhabited, Repr, BEq

mutual
def D.py : D → PyData
  | .non => .none
  | .bl b => .bool b
  | .int i => .int i
  | .str l => .str (S l)
  | .ty _ => .dict []
  | .lst ds => .list (D.pys ds)
  | .tup ds => .tuple (D.pys ds)
  | .fls ds => .list (D.pys ds)
def D.pys : List D → List PyData
  | [] => []
  | d :: ds => d.py :: D.pys ds
end
/-- a tuple: frozen, or of the module -/
def TpAt (K : PySem.W.Frag) (G : Hp) (p : Addr) (vs : List V) : Prop :=
  G p = some (.tup vs) ∨ ∃ (o : Obj) (its : Array Value) (n : Nat), K.lookup p = some o ∧ o.cls = .type "tuple" ∧ o.data = .seq its n ∧ its.size ≤ sizeLine ∧ Vals vs its.toList
theorem TpAt.sq {K : PySem.W.Frag} {G : Hp} {p : Addr} {vs : List V} (h : TpAt K G p vs) : SqT K G p vs := h.imp .inl id
theorem TpAt.mono {K : PySem.W.Frag} {G G' : Hp} {p : Addr} {vs : List V} (e : Ex G G') (h : TpAt K G p vs) : TpAt K G' p vs := h.imp (e _ _) id
mutual
/-- v stands for d; its objects are in the frozen heap G -/
def Rp (K : PySem.W.Frag) (G : Hp) : D → V → Prop
  | .non, v => v = .non
  | .bl b, v => v = .bl b
  | .int i, v => v = .int i
  | .str l, v => v = .str (S l)
  | .ty n, v => v = .ty n
  | .lst ds, v => ∃ p vs, v = .ref p ∧ G p = some (.lst vs) ∧ Rps K G ds vs
  | .tup ds, v => ∃ p vs, v = .ref p ∧ TpAt K G p vs ∧ Rps K G ds vs
  | .fls ds, v => ∃ p vs, v = .ref p ∧ SqL K G p vs ∧ Rps K G ds vs
def Rps (K : PySem.W.Frag) (G : Hp) : List D → List V → Prop
  | [], vs => vs = []
  | d :: ds, vs => ∃ v r, vs = v :: r ∧ Rp K G d v ∧ Rps K G ds r
end
section
variable {K : PySem.W.Frag} {G G' H H' : Hp}
mutual
theorem Rp.mono (e : Ex G G') : ∀ (d : D) (v : V), Rp K G d v → Rp K G' d v
  | .non, _, h => h
  | .bl _, _, h => h
  | .int _, _, h => h
  | .str _, _, h => h
  | .ty _, _, h => h
  | .lst ds, _, h => by
    obtain ⟨p, vs, h1, h2, h3⟩ := h
    exact ⟨p, vs, h1, e _ _ h2, Rps.mono e ds vs h3⟩
  | .tup ds, _, h => by
    obtain ⟨p, vs, h1, h2, h3⟩ := h
    exact ⟨p, vs, h1, h2.mono e, Rps.mono e ds vs h3⟩
  | .fls ds, _, h => by
    obtain ⟨p, vs, h1, h2, h3⟩ := h
    exact ⟨p, vs, h1, ex_l e h2, Rps.mono e ds vs h3⟩
theorem Rps.mono (e : Ex G G') : ∀ (ds : List D) (vs : List V), Rps K G ds vs → Rps K G' ds vs
  | [], _, h => h
  | d :: ds, _, h => by
    obtain ⟨v, r, h1, h2, h3⟩ := h
    exact ⟨v, r, h1, Rp.mono e d v h2, Rps.mono e ds r h3⟩
end
mutual
theorem Rp.dp : ∀ (d : D) (v : V), d.py.canLay0 = true → Rp K G d v → Dp K G v d.py
  | .non, _, _, h => by cases h; exact .non
  | .bl _, _, _, h => by cases h; exact .bl _
  | .int _, _, _, h => by cases h; exact .int _
  | .str _, _, _, h => by cases h; exact .str _
  | .ty _, _, c, _ => by cases c
  | .lst ds, _, c, h => by
    obtain ⟨p, vs, rfl, h2, h3⟩ := h
    exact .lst (SqL.of h2) (Rps.dp ds vs c h3)
  | .tup ds, _, c, h => by
    obtain ⟨p, vs, rfl, h2, h3⟩ := h
    exact .tup h2.sq (Rps.dp ds vs c h3)
  | .fls ds, _, c, h => by
    obtain ⟨p, vs, rfl, h2, h3⟩ := h
    exact .lst h2 (Rps.dp ds vs c h3)
theorem Rps.dp : ∀ (ds : List D) (vs : List V), PyData.canLayAll0 (D.pys ds) = true → Rps K G ds vs → DpAll K G vs (D.pys ds)
  | [], _, _, h => by cases h; exact .nil
  | d :: ds, _, c, h => by
    obtain ⟨v, r, rfl, h2, h3⟩ := h
    have c2 : (d.py.canLay0 && PyData.canLayAll0 (D.pys ds)) = true := c
    rw [Bool.and_eq_true] at c2
    exact .cons (Rp.dp d v c2.1 h2) (Rps.dp ds r c2.2 h3)
end
theorem pys_map : ∀ ds : List D, D.pys ds = ds.map D.py
  | [] => rfl
  | d :: ds => by rw [List.map_cons, ← pys_map ds]; rfl
theorem Rps.length : ∀ (ds : List D) (vs : List V), Rps K G ds vs → vs.length = ds.length
  | [], _, h => by cases h; rfl
  | d :: ds, _, h => by
    obtain ⟨v, r, rfl, _, h3⟩ := h
    rw [List.length_cons, List.length_cons, Rps.length ds r h3]
theorem Rps.get : ∀ (ds : List D) (vs : List V) (i : Nat) (d : D), Rps K G ds vs → ds[i]? = some d → ∃ v, vs[i]? = some v ∧ Rp K G d v
  | [], _, _, _, _, e => by simp at e
  | d :: ds, _, 0, _, h, e => by
    obtain ⟨v, r, rfl, h2, h3⟩ := h
    cases e
    exact ⟨v, rfl, h2⟩
  | d :: ds, _, i + 1, x, h, e => by
    obtain ⟨v, r, rfl, h2, h3⟩ := h
    exact Rps.get ds r i x h3 e
theorem Rps.append : ∀ (ds es : List D) (vs us : List V), Rps K G ds vs → Rps K G es us → Rps K G (ds ++ es) (vs ++ us)
  | [], _, _, _, h, q => by cases h; exact q
  | d :: ds, es, _, us, h, q => by
    obtain ⟨v, r, rfl, h2, h3⟩ := h
    exact ⟨v, r ++ us, rfl, h2, Rps.append ds es r us h3 q⟩
theorem Rps.take : ∀ (n : Nat) (ds : List D) (vs : List V), Rps K G ds vs → Rps K G (ds.take n) (vs.take n)
  | 0, _, _, _ => rfl
  | _ + 1, [], _, h => by cases h; rfl
  | n + 1, d :: ds, _, h => by
    obtain ⟨v, r, rfl, h2, h3⟩ := h
    exact ⟨v, r.take n, rfl, h2, Rps.take n ds r h3⟩
theorem Rps.drop : ∀ (n : Nat) (ds : List D) (vs : List V), Rps K G ds vs → Rps K G (ds.drop n) (vs.drop n)
  | 0, _, _, h => h
  | _ + 1, [], _, h => by cases h; rfl
  | n + 1, d :: ds, _, h => by
    obtain ⟨v, r, rfl, h2, h3⟩ := h
    exact Rps.drop n ds r h3
theorem Rps.one {d : D} {v : V} (h : Rp K G d v) : Rps K G [d] [v] := ⟨v, [], rfl, h, rfl⟩
theorem Rps.snoc {ds : List D} {vs : List V} {d : D} {v : V} (h : Rps K G ds vs) (q : Rp K G d v) : Rps K G (ds ++ [d]) (vs ++ [v]) := Rps.append _ _ _ _ h (Rps.one q)

/-- as a value that is read only: frozen, or a list that is ours with frozen items -/
def Rq (K : PySem.W.Frag) (G H : Hp) (d : D) (v : V) : Prop := Rp K G d v ∨ ∃ ds p vs, d = .lst ds ∧ v = .ref p ∧ H p = some (.lst vs) ∧ Rps K G ds vs
theorem Rq.dp {d : D} {v : V} (e : Ex G H) (h : Rq K G H d v) (c : d.py.canLay0 = true) : Dp K H v d.py := by
  rcases h with h | ⟨ds, p, vs, rfl, rfl, h1, h2⟩
  · exact Rp.dp d v c (Rp.mono e d v h)
  · exact .lst (SqL.of h1) (Rps.dp ds vs c (Rps.mono e ds vs h2))
theorem Rq.lst {ds : List D} {v : V} (e : Ex G H) (h : Rq K G H (.lst ds) v) : ∃ p vs, v = .ref p ∧ H p = some (.lst vs) ∧ Rps K G ds vs := by
  rcases h with h | ⟨es, p, vs, h0, h1, h2, h3⟩
  · obtain ⟨p, vs, h1, h2, h3⟩ := h
    exact ⟨p, vs, h1, e _ _ h2, h3⟩
  · cases h0
    exact ⟨p, vs, h1, h2, h3⟩
theorem Rq.rp {d : D} {v : V} (h : Rq K G H d v) (n : ∀ ds, d ≠ .lst ds) : Rp K G d v := by
  rcases h with h | ⟨ds, p, vs, e, _⟩
  · exact h
  · exact absurd e (n ds)
theorem Rq.tup {ds : List D} {v : V} (h : Rq K G H (.tup ds) v) : ∃ p vs, v = .ref p ∧ TpAt K G p vs ∧ Rps K G ds vs := h.rp fun _ z => nomatch z
theorem Rq.fls {ds : List D} {v : V} (h : Rq K G H (.fls ds) v) : ∃ p vs, v = .ref p ∧ SqL K G p vs ∧ Rps K G ds vs := h.rp fun _ z => nomatch z
theorem Rq.int {i : Int} {v : V} (h : Rq K G H (.int i) v) : v = .int i := h.rp fun _ z => nomatch z
theorem Rq.str {l : List Nat} {v : V} (h : Rq K G H (.str l) v) : v = .str (S l) := h.rp fun _ z => nomatch z
theorem Rq.bl {b : Bool} {v : V} (h : Rq K G H (.bl b) v) : v = .bl b := h.rp fun _ z => nomatch z
theorem Rq.non {v : V} (h : Rq K G H .non v) : v = .non := h.rp fun _ z => nomatch z

/-! ### a pure step -/
structure Pu (G H G' H' : Hp) : Prop where
  g : Ex G G'
  i : Ex G' H'
  h : Ex H H'
  f : ∀ a, G a = none → H a ≠ none → G' a = none
theorem Pu.refl (e : Ex G H) : Pu G H G H := ⟨Ex.refl G, e, Ex.refl H, fun _ h _ => h⟩
theorem Pu.trans {G2 H2 : Hp} (a : Pu G H G' H') (b : Pu G' H' G2 H2) : Pu G H G2 H2 :=
  ⟨a.g.trans b.g, b.i, a.h.trans b.h, fun x n m => b.f x (a.f x n m) (by
    cases q : H x with
    | none => exact absurd q m
    | some o => rw [a.h x o q]; exact fun z => nomatch z)⟩
theorem none_of_ex {p : Addr} (e : Ex G H) (h : H p = none) : G p = none := fresh_back e h
/-- a new frozen object -/
theorem Pu.new {p : Addr} {o : HO} (e : Ex G H) (h : H p = none) : Pu G H (upd G p o) (upd H p o) :=
  ⟨Ex.new (none_of_ex e h), fun a u q => by
    by_cases z : a = p
    · subst z; rw [upd_same] at q ⊢; exact q
    · rw [upd_ne z] at q ⊢; exact e a u q, Ex.new h, fun a n m => by
    by_cases z : a = p
    · subst z; exact absurd h m
    · rw [upd_ne z]; exact n⟩
theorem sz_line {n : Nat} (h : n ≤ 16777216) : n ≤ sizeLine := Nat.le_trans h (by decide)
end
end Mp
/-! A mini language over HandS, 2: operations by values. -/
namespace Mp
open PySem L2 Evl
open SX (S S_len S_cat S_inj)

inductive Op2 where
  | add | sub | mul | fdiv | mod | pow | eq | ne | lt | le | gt | ge | inn | nin | isn | nsn | idx
  deriving DecidableEq, Repr
def flat : D → Bool
  | .non | .bl _ | .int _ | .str _ => true
  | _ => false
def shp (d : D) : Bool := SeqAt.shaped d.py
def eqD (a b : D) : Option Bool := if shp a && shp b then some (PyData.eqv a.py b.py) else none
/-- x in ds -/
def inD (x : D) (ds : List D) : Bool := ds.any fun z => PyData.eqv z.py x.py
def memD (x y : D) : Option Bool :=
  match y with
  | .str l => match x with
    | .str [c] => some (decide (c ∈ l))
    | _ => none
  | .tup ds => if flat x && ds.all flat then some (inD x ds) else none
  | .lst ds => if flat x && ds.all flat then some (inD x ds) else if shp x && shp (.lst ds) then some (inD x ds) else none
  | _ => none
def idxD (x i : D) : Option D :=
  match i with
  | .int i => match x with
    | .lst ds => atI ds i
    | .tup ds => atI ds i
    | .fls ds => atI ds i
    | .str l => if l.length ≤ 16777216 then (atI l i).map fun c => .str [c] else none
    | _ => none
  | _ => none
def addD (x y : D) : Option D :=
  match x, y with
  | .int a, .int b => some (.int (a + b))
  | .str a, .str b => if a.length + b.length ≤ 16777216 then some (.str (a ++ b)) else none
  | .lst a, .lst b => if a.length + b.length ≤ 16777216 then some (.lst (a ++ b)) else none
  | .tup a, .tup b => if a.length + b.length ≤ 16777216 then some (.tup (a ++ b)) else none
  | _, _ => none
def mulD (x y : D) : Option D :=
  match x, y with
  | .int a, .int b => if (decide (-(2 ^ 64) < a) && decide (a < 2 ^ 64)) || (decide (-(2 ^ 64) < b) && decide (b < 2 ^ 64)) then some (.int (a * b)) else none
  | .str a, .int n => if 2 ≤ n ∧ n ≤ 1000 ∧ 1 ≤ a.length ∧ a.length ≤ 1000 then some (.str (List.replicate n.toNat a).flatten) else none
  | .lst a, .int n => if 0 ≤ n ∧ n ≤ 1000 ∧ a.length ≤ 1000 then some (.lst (List.replicate n.toNat a).flatten) else none
  | _, _ => none
def i2 (f : Int → Int → Option D) (x y : D) : Option D :=
  match x, y with
  | .int a, .int b => f a b
  | _, _ => none
/-- an order: ints, texts -/
def ordD (f : Int → Int → Bool) (g : List Nat → List Nat → Bool) (x y : D) : Option D :=
  match x, y with
  | .int a, .int b => some (.bl (f a b))
  | .str a, .str b => some (.bl (g a b))
  | _, _ => none
def nonD : D → Bool
  | .non => true
  | _ => false
def Op2.run : Op2 → D → D → Option D
  | .add, x, y => addD x y
  | .sub, x, y => i2 (fun a b => some (.int (a - b))) x y
  | .mul, x, y => mulD x y
  | .fdiv, x, y => i2 (fun a b => if 0 < b ∧ b < 1073741824 then some (.int (a / b)) else none) x y
  | .mod, x, y => i2 (fun a b => if 0 < b then some (.int (a % b)) else none) x y
  | .pow, x, y => i2 (fun a b => if 0 ≤ b ∧ b ≤ 1000 ∧ a.natAbs < 2 ^ 64 then some (.int (a ^ b.toNat)) else none) x y
  | .eq, x, y => (eqD x y).map .bl
  | .ne, x, y => (eqD x y).map fun b => .bl (!b)
  | .lt, x, y => ordD (fun a b => decide (a < b)) (fun a b => decide (a < b)) x y
  | .le, x, y => ordD (fun a b => decide (a ≤ b)) (fun a b => !decide (b < a)) x y
  | .gt, x, y => ordD (fun a b => decide (b < a)) (fun a b => decide (b < a)) x y
  | .ge, x, y => ordD (fun a b => decide (b ≤ a)) (fun a b => !decide (a < b)) x y
  | .inn, x, y => (memD x y).map .bl
  | .nin, x, y => (memD x y).map fun b => .bl (!b)
  | .isn, x, y => if nonD y then some (.bl (nonD x)) else none
  | .nsn, x, y => if nonD y then some (.bl (!nonD x)) else none
  | .idx, x, y => idxD x y

def rOr (r r' : R2) : R2 := fun x y H Q => r x y H Q ∨ r' x y H Q
def rStr (g : Str → Str → Bool) : R2 := fun x y H Q => ∃ i j, x = .str i ∧ y = .str j ∧ Q (.bl (g i j)) H
def rAddS2 : R2 := fun x y H Q => ∃ i j, x = .str i ∧ y = .str j ∧ i.length + j.length ≤ sizeLine ∧ Q (.str (i ++ j)) H
def rMulS : R2 := fun x y H Q => ∃ (i : Str) (n : Int), x = .str i ∧ y = .int n ∧ 2 ≤ n ∧ n ≤ 1000 ∧ 1 ≤ i.length ∧ i.length ≤ 1000 ∧ Q (.str (Txt.mul i n)) H
def rIsN2 (f : Bool → Bool) : R2 := fun x y H Q => y = .non ∧ Q (.bl (f (decide (x = .non)))) H
def rInC (f : Bool → Bool) : R2 := fun x y H Q => ∃ (c : Nat) (z : Str), x = .str ⟨#[c]⟩ ∧ y = .str z ∧ Q (.bl (f (decide (c ∈ z.cps.toList)))) H
def Op2.rd (K : PySem.W.Frag) : Op2 → R2
  | .add => rOr (rI0 fun i j => .int (i + j)) (rOr rAddS2 (rOr rCat (rCatA K)))
  | .sub => rI0 fun i j => .int (i - j)
  | .mul => rOr (rI CMul fun i j => .int (i * j)) (rOr rMulS rRep)
  | .fdiv => rI CDiv fun i j => .int (i / j)
  | .mod => rI (fun _ j => 0 < j) fun i j => .int (i % j)
  | .pow => rI CPow fun i j => .int (i ^ j.toNat)
  | .eq => rEqD K
  | .ne => rNeD K
  | .lt => rOr (rI0 fun i j => .bl (decide (i < j))) (rStr fun i j => decide (i.cps.toList < j.cps.toList))
  | .le => rOr (rI0 fun i j => .bl (decide (i ≤ j))) (rStr fun i j => !decide (j.cps.toList < i.cps.toList))
  | .gt => rOr (rI0 fun i j => .bl (decide (j < i))) (rStr fun i j => decide (j.cps.toList < i.cps.toList))
  | .ge => rOr (rI0 fun i j => .bl (decide (j ≤ i))) (rStr fun i j => !decide (i.cps.toList < j.cps.toList))
  | .inn => rOr (rInC id) (rOr (rIn K false) (rInD K))
  | .nin => rOr (rInC not) (rOr (rIn K true) (rNotInD K))
  | .isn => rIsN2 id
  | .nsn => rIsN2 not
  | .idx => rIx K

/-! ### the machine's rules for these readings -/
section
variable {X : Cx}
theorem op_mulS : OpR X (binaryOp .Mult) rMulS := by
  intro pins s σ H x y v u Q I rx ry h
  obtain ⟨i, n, rfl, rfl, h2, h3, h1, h4, q⟩ := h
  obtain ⟨t, rfl⟩ := rx
  obtain ⟨t', rfl⟩ := ry
  refine SB.mul ⟨by rw [decide_eq_false (by omega), decide_eq_false (by omega)]; rfl, fun _ _ z => ?_, fun _ _ => ?_⟩ (fun t' k => ⟨.str (Txt.mul i n), H, I.tok _, ⟨_, rfl⟩, q⟩)
  · have e : (1000 : Int) ≤ (2 ^ 63 - 1) / n := by
      refine (Int.le_ediv_iff_mul_le (by omega)).mpr ?_
      have : 1000 * n ≤ 1000 * 1000 := by omega
      omega
    omega
  · have e : i.length * n.toNat ≤ 1000 * 1000 := Nat.mul_le_mul h4 (by omega)
    have e2 : 1000 * 1000 ≤ sizeLine := by decide
    show decide (i.length * n.toNat > sizeLine) = false
    exact decide_eq_false (by omega)

theorem opr_add : OpR X (binaryOp .Add) (Op2.rd X.K .add) := OpR.or op_add (OpR.or op_add_str (OpR.or op_cat op_catA))
theorem opr_sub : OpR X (binaryOp .Sub) (Op2.rd X.K .sub) := op_sub
theorem opr_mul : OpR X (binaryOp .Mult) (Op2.rd X.K .mul) := OpR.or op_mul (OpR.or op_mulS op_rep)
theorem opr_fdiv : OpR X (binaryOp .FloorDiv) (Op2.rd X.K .fdiv) := op_fdiv
theorem opr_mod : OpR X (binaryOp .Mod) (Op2.rd X.K .mod) := op_mod
theorem opr_pow : OpR X (binaryOp .Pow) (Op2.rd X.K .pow) := op_pow
theorem opr_eq (hu : X.A.units + 64 < cLine) : OpR X (compareOp .Eq) (Op2.rd X.K .eq) := op_eqD hu
theorem opr_ne (hu : X.A.units + 64 < cLine) : OpR X (compareOp .NotEq) (Op2.rd X.K .ne) := op_neD hu
theorem opr_lt : OpR X (compareOp .Lt) (Op2.rd X.K .lt) := OpR.or op_lt op_lt_str
theorem opr_le : OpR X (compareOp .LtE) (Op2.rd X.K .le) := OpR.or op_le op_le_str
theorem opr_gt : OpR X (compareOp .Gt) (Op2.rd X.K .gt) := OpR.or op_gt op_gt_str
theorem opr_ge : OpR X (compareOp .GtE) (Op2.rd X.K .ge) := OpR.or op_ge op_ge_str
theorem opr_in (hu : X.A.units + 65 < cLine) : OpR X (compareOp .In) (Op2.rd X.K .inn) := OpR.or op_in_sign (OpR.or op_in_seq (op_inD hu))
theorem opr_nin (hu : X.A.units + 65 < cLine) : OpR X (compareOp .NotIn) (Op2.rd X.K .nin) := OpR.or op_notIn_sign (OpR.or op_notIn_seq (op_notInD hu))
theorem opr_isn : OpR X (compareOp .Is) (Op2.rd X.K .isn) := op_isN
theorem opr_nsn : OpR X (compareOp .IsNot) (Op2.rd X.K .nsn) := op_notN
end

/-! ### what is run is told -/
section
variable {K : PySem.W.Frag} {G H : Hp} {Q : VK} {a b : V}
theorem mul_rep {l : List Nat} {n : Int} (h2 : 2 ≤ n) (h1 : 1 ≤ l.length) : Txt.mul (S l) n = S (List.replicate n.toNat l).flatten := by
  unfold Txt.mul
  rw [if_neg (by omega), if_neg ?_]
  · show (⟨(List.replicate n.toNat l.toArray).foldl (· ++ ·) #[]⟩ : Str) = ⟨((List.replicate n.toNat l).flatten).toArray⟩
    have key : ∀ (m : Nat) (acc : List Nat), (List.replicate m l.toArray).foldl (· ++ ·) acc.toArray = (acc ++ (List.replicate m l).flatten).toArray := by
      intro m
      induction m with
      | zero => intro acc; simp
      | succ m ih =>
        intro acc
        rw [List.replicate_succ, List.replicate_succ, List.foldl_cons, List.flatten_cons]
        have e : acc.toArray ++ l.toArray = (acc ++ l).toArray := by simp
        rw [e, ih (acc ++ l), List.append_assoc]
    have := key n.toNat []
    simpa using this
  · rw [Bool.or_eq_true]
    intro z
    rcases z with z | z
    · have := eq_of_beq z; omega
    · have := eq_of_beq z
      rw [S_len] at this
      omega
theorem eqV_py : ∀ {x y : D} {v u : V}, flat x = true → flat y = true → Rp K G x v → Rp K G y u → eqV v u = PyData.eqv x.py y.py := by
  intro x y v u hx hy h1 h2
  cases x <;> cases y <;> first
    | (cases hx; done)
    | (cases hy; done)
    | (cases h1; cases h2; simp [eqV, D.py, PyData.eqv])
theorem flatV_of {x : D} {v : V} (hx : flat x = true) (h : Rp K G x v) : flatV v = true := by
  cases x <;> first | (cases hx; done) | (cases h; rfl)
theorem flats_of : ∀ (ds : List D) (vs : List V), ds.all flat = true → Rps K G ds vs → vs.all flatV = true
  | [], _, _, h => by cases h; rfl
  | d :: ds, _, hf, h => by
    obtain ⟨v, r, rfl, h2, h3⟩ := h
    rw [List.all_cons, Bool.and_eq_true] at hf
    rw [List.all_cons, flatV_of hf.1 h2, flats_of ds r hf.2 h3]
    rfl
theorem inV_py {x : D} {v : V} (hx : flat x = true) (h1 : Rp K G x v) : ∀ (ds : List D) (vs : List V), ds.all flat = true → Rps K G ds vs → inV v vs = inD x ds
  | [], _, _, h => by cases h; rfl
  | d :: ds, _, hf, h => by
    obtain ⟨u, r, rfl, h2, h3⟩ := h
    rw [List.all_cons, Bool.and_eq_true] at hf
    show (u :: r).any (fun y => eqV y v) = (d :: ds).any fun z => PyData.eqv z.py x.py
    rw [List.any_cons, List.any_cons, eqV_py hf.1 hx h2 h1]
    have ih := inV_py hx h1 ds r hf.2 h3
    have ih' : r.any (fun y => eqV y v) = ds.any fun z => PyData.eqv z.py x.py := ih
    rw [ih']
theorem inD_py (x : D) (ds : List D) : ((D.pys ds).any fun z => PyData.eqv z x.py) = inD x ds := by
  rw [pys_map, List.any_map]
  rfl
theorem eq_sound {x y : D} {c : Bool} (h : eqD x y = some c) (e : Ex G H) (hx : Rq K G H x a) (hy : Rq K G H y b) : ∃ d1 d2, Dp K H a d1 ∧ Dp K H b d2 ∧ SeqAt.shaped d1 = true ∧ SeqAt.shaped d2 = true ∧ PyData.eqv d1 d2 = c := by
  unfold eqD at h
  split at h
  · rename_i hs
    rw [Bool.and_eq_true] at hs
    exact ⟨x.py, y.py, hx.dp e (SeqAt.canLay_of_shaped hs.1), hy.dp e (SeqAt.canLay_of_shaped hs.2), hs.1, hs.2, Option.some.inj h⟩
  · cases h
theorem ix_rp {ds : List D} {vs : List V} {i : Int} {d : D} (h : Rps K G ds vs) (e : atI ds i = some d) : ∃ v, atI vs i = some v ∧ Rp K G d v := by
  unfold atI at e ⊢
  rw [Rps.length ds vs h]
  cases q : ixN ds.length i with
  | none => rw [q] at e; cases e
  | some j =>
    rw [q] at e
    exact Rps.get ds vs j d h e
theorem nonD_rp {x : D} {v : V} (h : Rq K G H x v) : decide (v = V.non) = nonD x := by
  rcases h with h | ⟨ds, p, vs, rfl, rfl, _⟩
  · cases x <;> first
      | (cases h; rfl)
      | (obtain ⟨p, vs, rfl, _⟩ := h; rfl)
  · rfl
/-- a flat value read -/
theorem Rq.flat {x : D} {v : V} (h : Rq K G H x v) (hf : flat x = true) : Rp K G x v := h.rp fun ds z => by rw [z] at hf; cases hf
theorem mem_sound {x y : D} {c : Bool} {f : Bool → Bool} {neg : Bool} (hn : ∀ t, (if neg = true then !t else t) = f t) (h : memD x y = some c) (e : Ex G H) (hx : Rq K G H x a) (hy : Rq K G H y b) (q : Q (.bl (f c)) H) :
    rInC f a b H Q ∨ rIn K neg a b H Q ∨ (∃ d ds, Dp K H a d ∧ Dp K H b (.list ds) ∧ SeqAt.shaped d = true ∧ SeqAt.shaped (.list ds) = true ∧ Q (.bl (f (ds.any fun z => PyData.eqv z d))) H) := by
  unfold memD at h
  split at h
  · split at h
    · cases Option.some.inj h
      exact .inl ⟨_, _, hx.str, hy.str, q⟩
    · cases h
  · split at h
    · rename_i hf
      rw [Bool.and_eq_true] at hf
      cases Option.some.inj h
      obtain ⟨p, vs, rfl, h1, h2⟩ := hy.tup
      refine .inr (.inl ⟨p, vs, rfl, .inr (h1.mono e).sq, flatV_of hf.1 (hx.flat hf.1), flats_of _ _ hf.2 h2, ?_⟩)
      rw [inV_py hf.1 (hx.flat hf.1) _ _ hf.2 h2, hn]
      exact q
    · cases h
  · split at h
    · rename_i hf
      rw [Bool.and_eq_true] at hf
      cases Option.some.inj h
      obtain ⟨p, vs, rfl, h1, h2⟩ := hy.lst e
      refine .inr (.inl ⟨p, vs, rfl, .inl (SqL.of h1), flatV_of hf.1 (hx.flat hf.1), flats_of _ _ hf.2 h2, ?_⟩)
      rw [inV_py hf.1 (hx.flat hf.1) _ _ hf.2 h2, hn]
      exact q
    · split at h
      · rename_i hs
        rw [Bool.and_eq_true] at hs
        cases Option.some.inj h
        refine .inr (.inr ⟨_, _, hx.dp e (SeqAt.canLay_of_shaped hs.1), hy.dp e (SeqAt.canLay_of_shaped hs.2), hs.1, hs.2, ?_⟩)
        rw [inD_py]
        exact q
      · cases h
  · cases h
theorem Op2.sound {o : Op2} {x y d : D} (h : o.run x y = some d) (e : Ex G H) (hx : Rq K G H x a) (hy : Rq K G H y b) (k : ∀ v G' H', Pu G H G' H' → Rp K G' d v → Q v H') : o.rd K a b H Q := by
  have k0 : ∀ v, Rp K G d v → Q v H := fun v r => k v G H (Pu.refl e) r
  cases o with
  | add =>
    have h : addD x y = some d := h
    unfold addD at h
    split at h
    · cases Option.some.inj h
      exact .inl ⟨_, _, hx.int, hy.int, k0 _ rfl⟩
    · split at h
      · rename_i hz
        cases Option.some.inj h
        refine .inr (.inl ⟨_, _, hx.str, hy.str, by rw [S_len, S_len]; exact sz_line hz, k0 _ ?_⟩)
        rw [S_cat]
        rfl
      · cases h
    · split at h
      · rename_i hz
        cases Option.some.inj h
        obtain ⟨p, vs, rfl, p1, p2⟩ := hx.lst e
        obtain ⟨q, us, rfl, q1, q2⟩ := hy.lst e
        refine .inr (.inr (.inl ⟨p, q, vs, us, rfl, rfl, p1, q1, by rw [Rps.length _ _ p2, Rps.length _ _ q2]; exact sz_line hz, fun r hr => k _ _ _ (Pu.new e hr) ?_⟩))
        exact ⟨r, _, rfl, upd_same, Rps.mono (Ex.new (none_of_ex e hr)) _ _ (Rps.append _ _ _ _ p2 q2)⟩
      · cases h
    · split at h
      · rename_i hz
        cases Option.some.inj h
        obtain ⟨p, vs, rfl, p1, p2⟩ := hx.tup
        obtain ⟨q, us, rfl, q1, q2⟩ := hy.tup
        refine .inr (.inr (.inr ⟨p, q, vs, us, rfl, rfl, (p1.mono e).sq, (q1.mono e).sq, by rw [Rps.length _ _ p2, Rps.length _ _ q2]; exact sz_line hz, fun z => k0 _ ?_, fun _ z => k0 _ ?_, fun _ _ r hr => k _ _ _ (Pu.new e hr) ?_⟩))
        · refine ⟨q, us, rfl, q1, ?_⟩
          subst z
          have e0 := List.eq_nil_of_length_eq_zero (Rps.length _ _ p2).symm
          rw [e0, List.nil_append]
          exact q2
        · refine ⟨p, vs, rfl, p1, ?_⟩
          subst z
          have e0 := List.eq_nil_of_length_eq_zero (Rps.length _ _ q2).symm
          rw [e0, List.append_nil]
          exact p2
        · exact ⟨r, _, rfl, .inl upd_same, Rps.mono (Ex.new (none_of_ex e hr)) _ _ (Rps.append _ _ _ _ p2 q2)⟩
      · cases h
    · cases h
  | sub =>
    have h : i2 (fun a b => some (.int (a - b))) x y = some d := h
    unfold i2 at h
    split at h
    · cases Option.some.inj h
      exact ⟨_, _, hx.int, hy.int, k0 _ rfl⟩
    · cases h
  | mul =>
    have h : mulD x y = some d := h
    unfold mulD at h
    split at h
    · split at h
      · rename_i hz
        cases Option.some.inj h
        refine .inl ⟨_, _, hx.int, hy.int, ?_, k0 _ rfl⟩
        rw [Bool.or_eq_true, Bool.and_eq_true, Bool.and_eq_true] at hz
        rcases hz with hz | hz
        · exact .inl ⟨of_decide_eq_true hz.1, of_decide_eq_true hz.2⟩
        · exact .inr ⟨of_decide_eq_true hz.1, of_decide_eq_true hz.2⟩
      · cases h
    · split at h
      · rename_i hz
        cases Option.some.inj h
        refine .inr (.inl ⟨_, _, hx.str, hy.int, hz.1, hz.2.1, by rw [S_len]; exact hz.2.2.1, by rw [S_len]; exact hz.2.2.2, k0 _ ?_⟩)
        rw [mul_rep hz.1 hz.2.2.1]
        rfl
      · cases h
    · split at h
      · rename_i hz
        cases Option.some.inj h
        obtain ⟨p, vs, rfl, p1, p2⟩ := hx.lst e
        have hl := Rps.length _ _ p2
        refine .inr (.inr ⟨p, _, vs, rfl, hy.int, p1, by omega, by omega, ?_, fun r hr => k _ _ _ (Pu.new e hr) ?_⟩)
        · refine Nat.le_trans (Nat.mul_le_mul (by omega : vs.length ≤ 1000) (by omega : _ ≤ 1000)) (by decide)
        · refine ⟨r, _, rfl, upd_same, Rps.mono (Ex.new (none_of_ex e hr)) _ _ ?_⟩
          have : ∀ m : Nat, Rps K G (List.replicate m ‹List D›).flatten (List.replicate m vs).flatten := fun m => by
            induction m with
            | zero => exact rfl
            | succ m ih => rw [List.replicate_succ, List.replicate_succ, List.flatten_cons, List.flatten_cons]; exact Rps.append _ _ _ _ p2 ih
          exact this _
      · cases h
    · cases h
  | fdiv =>
    have h : i2 (fun a b => if 0 < b ∧ b < 1073741824 then some (.int (a / b)) else none) x y = some d := h
    unfold i2 at h
    split at h
    · dsimp only at h
      split at h
      · rename_i hz
        cases Option.some.inj h
        exact ⟨_, _, hx.int, hy.int, hz, k0 _ rfl⟩
      · cases h
    · cases h
  | mod =>
    have h : i2 (fun a b => if 0 < b then some (.int (a % b)) else none) x y = some d := h
    unfold i2 at h
    split at h
    · dsimp only at h
      split at h
      · rename_i hz
        cases Option.some.inj h
        exact ⟨_, _, hx.int, hy.int, hz, k0 _ rfl⟩
      · cases h
    · cases h
  | pow =>
    have h : i2 (fun a b => if 0 ≤ b ∧ b ≤ 1000 ∧ a.natAbs < 2 ^ 64 then some (.int (a ^ b.toNat)) else none) x y = some d := h
    unfold i2 at h
    split at h
    · dsimp only at h
      split at h
      · rename_i hz
        cases Option.some.inj h
        exact ⟨_, _, hx.int, hy.int, ⟨hz.1, by omega, hz.2.2⟩, k0 _ rfl⟩
      · cases h
    · cases h
  | eq =>
    have h : (eqD x y).map D.bl = some d := h
    cases q : eqD x y with
    | none => rw [q] at h; cases h
    | some c =>
      rw [q] at h
      cases Option.some.inj h
      obtain ⟨d1, d2, h1, h2, h3, h4, h5⟩ := eq_sound q e hx hy
      exact ⟨d1, d2, h1, h2, h3, h4, by rw [h5]; exact k0 _ rfl⟩
  | ne =>
    have h : (eqD x y).map (fun b => D.bl (!b)) = some d := h
    cases q : eqD x y with
    | none => rw [q] at h; cases h
    | some c =>
      rw [q] at h
      cases Option.some.inj h
      obtain ⟨d1, d2, h1, h2, h3, h4, h5⟩ := eq_sound q e hx hy
      exact ⟨d1, d2, h1, h2, h3, h4, by rw [h5]; exact k0 _ rfl⟩
  | lt =>
    have h : ordD (fun a b => decide (a < b)) (fun a b => decide (a < b)) x y = some d := h
    unfold ordD at h
    split at h
    · cases Option.some.inj h
      exact .inl ⟨_, _, hx.int, hy.int, k0 _ rfl⟩
    · cases Option.some.inj h
      exact .inr ⟨_, _, hx.str, hy.str, k0 _ rfl⟩
    · cases h
  | le =>
    have h : ordD (fun a b => decide (a ≤ b)) (fun a b => !decide (b < a)) x y = some d := h
    unfold ordD at h
    split at h
    · cases Option.some.inj h
      exact .inl ⟨_, _, hx.int, hy.int, k0 _ rfl⟩
    · cases Option.some.inj h
      exact .inr ⟨_, _, hx.str, hy.str, k0 _ rfl⟩
    · cases h
  | gt =>
    have h : ordD (fun a b => decide (b < a)) (fun a b => decide (b < a)) x y = some d := h
    unfold ordD at h
    split at h
    · cases Option.some.inj h
      exact .inl ⟨_, _, hx.int, hy.int, k0 _ rfl⟩
    · cases Option.some.inj h
      exact .inr ⟨_, _, hx.str, hy.str, k0 _ rfl⟩
    · cases h
  | ge =>
    have h : ordD (fun a b => decide (b ≤ a)) (fun a b => !decide (a < b)) x y = some d := h
    unfold ordD at h
    split at h
    · cases Option.some.inj h
      exact .inl ⟨_, _, hx.int, hy.int, k0 _ rfl⟩
    · cases Option.some.inj h
      exact .inr ⟨_, _, hx.str, hy.str, k0 _ rfl⟩
    · cases h
  | inn =>
    have h : (memD x y).map D.bl = some d := h
    cases q : memD x y with
    | none => rw [q] at h; cases h
    | some c =>
      rw [q] at h
      cases Option.some.inj h
      rcases mem_sound (f := id) (neg := false) (fun t => rfl) q e hx hy (k0 _ rfl) with z | z | z
      · exact .inl z
      · exact .inr (.inl z)
      · exact .inr (.inr z)
  | nin =>
    have h : (memD x y).map (fun b => D.bl (!b)) = some d := h
    cases q : memD x y with
    | none => rw [q] at h; cases h
    | some c =>
      rw [q] at h
      cases Option.some.inj h
      rcases mem_sound (f := not) (neg := true) (fun t => rfl) q e hx hy (k0 _ rfl) with z | z | z
      · exact .inl z
      · exact .inr (.inl z)
      · exact .inr (.inr z)
  | isn =>
    have h : (if nonD y then some (D.bl (nonD x)) else none) = some d := h
    split at h
    · rename_i hn
      cases Option.some.inj h
      have ey := nonD_rp hy
      rw [hn] at ey
      refine ⟨of_decide_eq_true ey, ?_⟩
      rw [nonD_rp hx]
      exact k0 _ rfl
    · cases h
  | nsn =>
    have h : (if nonD y then some (D.bl (!nonD x)) else none) = some d := h
    split at h
    · rename_i hn
      cases Option.some.inj h
      have ey := nonD_rp hy
      rw [hn] at ey
      refine ⟨of_decide_eq_true ey, ?_⟩
      rw [nonD_rp hx]
      exact k0 _ rfl
    · cases h
  | idx =>
    have h : idxD x y = some d := h
    unfold idxD at h
    split at h
    · split at h
      · obtain ⟨p, vs, rfl, p1, p2⟩ := hx.lst e
        obtain ⟨v, e1, e2⟩ := ix_rp p2 h
        exact .inl ⟨p, vs, _, v, rfl, hy.int, SqL.of p1, e1, k0 _ e2⟩
      · obtain ⟨p, vs, rfl, p1, p2⟩ := hx.tup
        obtain ⟨v, e1, e2⟩ := ix_rp p2 h
        exact .inr (.inl ⟨p, vs, _, v, rfl, hy.int, (p1.mono e).sq, e1, k0 _ e2⟩)
      · obtain ⟨p, vs, rfl, p1, p2⟩ := hx.fls
        obtain ⟨v, e1, e2⟩ := ix_rp p2 h
        exact .inl ⟨p, vs, _, v, rfl, hy.int, ex_l e p1, e1, k0 _ e2⟩
      · split at h
        · rename_i hz
          cases q : atI ‹List Nat› ‹Int› with
          | none => rw [q] at h; cases h
          | some c =>
            rw [q] at h
            cases Option.some.inj h
            exact .inr (.inr ⟨_, _, c, hx.str, hy.int, by rw [S_len]; exact sz_line hz, q, k0 _ rfl⟩)
        · cases h
      · cases h
    · cases h
end
end Mp
/-! A mini language over HandS, 3: built-in functions, methods of texts, slices. -/
namespace Mp
open PySem L2 Evl
open SX (S S_len S_cat S_inj)

/-! ### one sign in a text: first place, last place, how often -/
def firstIx (c : Nat) : List Nat → Option Nat
  | [] => none
  | x :: r => if x = c then some 0 else (firstIx c r).map (· + 1)
def lastIx (c : Nat) : List Nat → Option Nat
  | [] => none
  | x :: r => match lastIx c r with
    | some i => some (i + 1)
    | none => if x = c then some 0 else none
theorem firstIx_none {c : Nat} : ∀ {l : List Nat}, firstIx c l = none ↔ c ∉ l
  | [] => by simp [firstIx]
  | x :: r => by
    unfold firstIx
    by_cases h : x = c
    · simp [h]
    · have ih := @firstIx_none c r
      simp only [h, if_false, Option.map_eq_none_iff, ih, List.mem_cons, not_or]
      exact ⟨fun z => ⟨fun e => h e.symm, z⟩, fun z => z.2⟩
theorem firstIx_some {c : Nat} : ∀ {l : List Nat} {i : Nat}, firstIx c l = some i ↔ (l[i]? = some c ∧ ∀ k, k < i → l[k]? ≠ some c)
  | [], i => by simp [firstIx]
  | x :: r, i => by
    unfold firstIx
    by_cases h : x = c
    · subst h
      rw [if_pos rfl]
      constructor
      · intro e; cases e; exact ⟨rfl, fun k hk => absurd hk (Nat.not_lt_zero _)⟩
      · rintro ⟨h1, h2⟩
        cases i with
        | zero => rfl
        | succ i => exact absurd rfl (h2 0 (Nat.succ_pos _))
    · rw [if_neg h]
      cases i with
      | zero =>
        constructor
        · intro e
          cases q : firstIx c r with
          | none => rw [q] at e; cases e
          | some k => rw [q] at e; cases e
        · rintro ⟨h1, _⟩
          exact absurd (Option.some.inj h1) h
      | succ i =>
        have ih := @firstIx_some c r i
        constructor
        · intro e
          have e2 : firstIx c r = some i := by
            cases q : firstIx c r with
            | none => rw [q] at e; cases e
            | some k =>
              rw [q] at e
              have e3 : k + 1 = i + 1 := Option.some.inj e
              rw [Nat.succ.inj e3]
          obtain ⟨a, b⟩ := ih.mp e2
          refine ⟨a, fun k hk => ?_⟩
          cases k with
          | zero => exact fun z => h (Option.some.inj z)
          | succ k => exact b k (by omega)
        · rintro ⟨a, b⟩
          rw [ih.mpr ⟨a, fun k hk => b (k + 1) (by omega)⟩]
          rfl
theorem lastIx_none {c : Nat} : ∀ {l : List Nat}, lastIx c l = none ↔ c ∉ l
  | [] => by simp [lastIx]
  | x :: r => by
    have ih := @lastIx_none c r
    unfold lastIx
    cases q : lastIx c r with
    | some i =>
      simp only [List.mem_cons, not_or]
      constructor
      · intro z; cases z
      · rintro ⟨_, z⟩; rw [ih.mpr z] at q; cases q
    | none =>
      have h := ih.mp q
      by_cases e : x = c
      · simp [e]
      · simp only [e, if_false, List.mem_cons, not_or, true_iff]
        exact ⟨fun z => e z.symm, h⟩
theorem lastIx_some {c : Nat} : ∀ {l : List Nat} {i : Nat}, lastIx c l = some i → (l[i]? = some c ∧ ∀ k, i < k → l[k]? ≠ some c)
  | [], i, h => by cases h
  | x :: r, i, h => by
    unfold lastIx at h
    cases q : lastIx c r with
    | some j =>
      rw [q] at h
      have e := Option.some.inj h
      subst e
      obtain ⟨a, b⟩ := lastIx_some q
      refine ⟨a, fun k hk => ?_⟩
      cases k with
      | zero => omega
      | succ k => exact b k (by omega)
    | none =>
      rw [q] at h
      have hn := lastIx_none.mp q
      by_cases e : x = c
      · simp only [e, if_true] at h
        have e2 := Option.some.inj h
        subst e2
        refine ⟨by rw [e]; rfl, fun k hk => ?_⟩
        cases k with
        | zero => omega
        | succ k => exact fun z => hn (List.mem_of_getElem? z)
      · simp only [e, if_false] at h
        cases h
theorem at_one {l : List Nat} {c i : Nat} : StrLaws.At (S l) ⟨#[c]⟩ (S l).length i ↔ l[i]? = some c := StrLaws.subAt_one (S l) c i
theorem count_chain {l : List Nat} {c : Nat} : ∀ (cuts : List Nat) (a f : Nat), StrLaws.ChainG (S l) ⟨#[c]⟩ (S l).length a cuts f → (∀ k, f ≤ k → ¬ StrLaws.At (S l) ⟨#[c]⟩ (S l).length k) → (l.drop a).count c = cuts.length
  | [], a, f, h, hn => by
    have e : f = a := h
    subst e
    refine List.count_eq_zero.mpr fun hm => ?_
    obtain ⟨j, hj⟩ := List.getElem?_of_mem hm
    rw [List.getElem?_drop] at hj
    exact hn _ (Nat.le_add_right _ j) (at_one.mpr hj)
  | k :: r, a, f, h, hn => by
    obtain ⟨h1, h2, h3, h4⟩ := h
    have ih := count_chain r (k + 1) f h4 hn
    have hk := at_one.mp h2
    obtain ⟨hlt, hval⟩ := List.getElem?_eq_some_iff.mp hk
    have e1 : l.drop a = (l.drop a).take (k - a) ++ l.drop k := by
      conv => lhs; rw [← List.take_append_drop (k - a) (l.drop a)]
      rw [List.drop_drop]
      congr 2
      omega
    have e2 : l.drop k = c :: l.drop (k + 1) := by rw [List.drop_eq_getElem_cons hlt, hval]
    have e3 : ((l.drop a).take (k - a)).count c = 0 := by
      refine List.count_eq_zero.mpr fun hm => ?_
      obtain ⟨j, hj⟩ := List.getElem?_of_mem hm
      have hj2 : j < k - a := by
        have := (List.getElem?_eq_some_iff.mp hj).1
        rw [List.length_take] at this
        omega
      rw [List.getElem?_take_of_lt hj2, List.getElem?_drop] at hj
      exact h3 (a + j) (by omega) (by omega) (at_one.mpr hj)
    rw [e1, List.count_append, e3, e2, List.count_cons_self, ih]
    simp
theorem count_S (l : List Nat) (c : Nat) : Txt.count (S l) (S [c]) = ((l.count c : Nat) : Int) := by
  obtain ⟨f, h1, h2⟩ := StrLaws.occ_tight (S l) ⟨#[c]⟩ (Nat.le_refl 1)
  have := count_chain _ _ _ h1 h2
  show (((Builtin.Str.occurrences (S l) ⟨#[c]⟩ 0 (S l).length ((S l).length + 1)).length : Nat) : Int) = _
  rw [← this]
  rfl
def ixI : Option Nat → Int
  | some i => (i : Int)
  | none => -1
theorem rfind_S (l : List Nat) (c : Nat) : Txt.rfind (S l) (S [c]) = ixI (lastIx c l) := by
  unfold Txt.rfind
  rcases StrLaws.last_spec (S l) ⟨#[c]⟩ with ⟨h1, h2⟩ | ⟨i, h1, h2, h3⟩
  · rw [show Builtin.Str.lastOccurrence (S l) (S [c]) 0 (S l).length = none from h1]
    have : lastIx c l = none := lastIx_none.mpr fun hm => by
      obtain ⟨j, hj⟩ := List.getElem?_of_mem hm
      exact h2 j (at_one.mpr hj)
    rw [this]
    rfl
  · rw [show Builtin.Str.lastOccurrence (S l) (S [c]) 0 (S l).length = some i from h1]
    cases q : lastIx c l with
    | none => exact absurd (List.mem_of_getElem? (at_one.mp h2)) (lastIx_none.mp q)
    | some j =>
      obtain ⟨a, b⟩ := lastIx_some q
      have e : j = i := by
        rcases Nat.lt_trichotomy i j with z | z | z
        · exact absurd (at_one.mpr a) (h3 j z)
        · exact z.symm
        · exact absurd (at_one.mp h2) (b i z)
      subst e
      rfl
/-- the first c from i on -/
def findFrom (l : List Nat) (c i : Nat) : Int := ixI ((firstIx c (l.drop i)).map (· + i))
theorem find3_S (l : List Nat) (c i : Nat) : Txt.find3 (S l) (S [c]) (i : Int) = findFrom l c i := by
  have hfi : fromIndex (S l).length (i : Int) = i := by
    unfold fromIndex
    rw [if_neg (by omega)]
    omega
  have gd : ∀ v : Nat, (S l).cps.getD v 0 = l.getD v 0 := fun v => by simp [Array.getD, List.getD]; split <;> simp_all
  have hlen : (S l).length = l.length := S_len l
  rcases StrLaws.find3_spec (S l) c (i : Int) with ⟨h1, h2⟩ | ⟨k, h1, h2, h3, h4, h5⟩
  · rw [show Txt.find3 (S l) (S [c]) (i : Int) = -1 from h1]
    rw [hfi] at h2
    have : firstIx c (l.drop i) = none := firstIx_none.mpr fun hm => by
      obtain ⟨j, hj⟩ := List.getElem?_of_mem hm
      rw [List.getElem?_drop] at hj
      obtain ⟨hlt, hv⟩ := List.getElem?_eq_some_iff.mp hj
      exact h2 (i + j) (by omega) (by omega) (by rw [gd, List.getD_eq_getElem?_getD, hj]; rfl)
    unfold findFrom
    rw [this]
    rfl
  · rw [show Txt.find3 (S l) (S [c]) (i : Int) = (k : Int) from h1]
    rw [hfi] at h2 h5
    rw [hlen] at h3
    have hk : l[k]? = some c := by
      rw [gd, List.getD_eq_getElem?_getD, List.getElem?_eq_getElem h3] at h4
      rw [List.getElem?_eq_getElem h3]
      exact congrArg some h4
    have : firstIx c (l.drop i) = some (k - i) := firstIx_some.mpr ⟨by rw [List.getElem?_drop, show i + (k - i) = k by omega]; exact hk, fun m hm z => by
      rw [List.getElem?_drop] at z
      exact h5 (i + m) (by omega) (by omega) (by rw [gd, List.getD_eq_getElem?_getD, z]; rfl)⟩
    unfold findFrom
    rw [this]
    show (k : Int) = ((k - i + i : Nat) : Int)
    omega

/-! ### built-in functions -/
inductive Bif where
  | len | int | str | tuple | list | ord | min2 | max2 | isi | abs
  deriving DecidableEq, Repr
def lenD : D → Option Nat
  | .str l => if l.length ≤ 16777216 then some l.length else none
  | .lst ds => some ds.length
  | .tup ds => some ds.length
  | .fls ds => some ds.length
  | _ => none
def isDig (c : Nat) : Bool := decide (48 ≤ c) && decide (c ≤ 57)
/-- the text of a whole number -/
def strI (i : Int) : List Nat := (Str.ofString (toString i)).cps.toList
def tyName : D → Option String
  | .non => some "NoneType"
  | .bl _ => some "bool"
  | .int _ => some "int"
  | .str _ => some "str"
  | .lst _ => some "list"
  | .fls _ => some "list"
  | .tup _ => some "tuple"
  | .ty _ => none
def subTy (a b : String) : Option Bool :=
  if a == b then some true else if a == "bool" && b == "int" then some true else
  if ["NoneType", "bool", "int", "str", "list", "tuple"].contains a && ["bool", "int", "str", "list", "tuple", "dict"].contains b then some false else none
def anyTy (a : String) : List D → Option Bool
  | [] => some false
  | .ty b :: r => match subTy a b, anyTy a r with
    | some t, some u => some (t || u)
    | _, _ => none
  | _ :: _ => none
def isiD (x c : D) : Option Bool :=
  match tyName x with
  | none => none
  | some a => match c with
    | .ty b => subTy a b
    | .tup cs => anyTy a cs
    | _ => none
def Bif.run : Bif → List D → Option D
  | .len, [x] => (lenD x).map fun n => .int n
  | .int, [x] => match x with
    | .int i => some (.int i)
    | .bl b => some (.int (if b then 1 else 0))
    | .str l => if l.all isDig && !l.isEmpty && decide (l.length ≤ 640) then some (.int (NumText.digitsVal l : Nat)) else none
    | _ => none
  | .str, [x] => match x with
    | .int i => if i.natAbs.log2 < 1920 then some (.str (strI i)) else none
    | _ => none
  | .tuple, [x] => match x with
    | .lst ds => some (.tup ds)
    | .tup ds => some (.tup ds)
    | .fls ds => some (.tup ds)
    | _ => none
  | .list, [x] => match x with
    | .lst ds => some (.lst ds)
    | .tup ds => some (.lst ds)
    | .fls ds => some (.lst ds)
    | _ => none
  | .ord, [x] => match x with
    | .str [c] => some (.int c)
    | _ => none
  | .min2, [x, y] => i2 (fun i j => some (.int (if j < i then j else i))) x y
  | .max2, [x, y] => i2 (fun i j => some (.int (if j > i then j else i))) x y
  | .abs, [x] => match x with
    | .int i => some (.int (if i < 0 then -i else i))
    | _ => none
  | .isi, [x, c] => (isiD x c).map .bl
  | _, _ => none
abbrev RB := List V → Hp → VK → Prop
def bOr (r r' : RB) : RB := fun xs H Q => r xs H Q ∨ r' xs H Q
def Bif.rd (K : PySem.W.Frag) : Bif → RB
  | .len => fun xs H Q => ∃ x n, xs = [x] ∧ LenV K x H n ∧ Q (.int n) H
  | .int => bOr (fun xs H Q => (∃ i, xs = [.int i] ∧ Q (.int i) H) ∨ ∃ k, xs = [.bl k] ∧ Q (.int (if k then 1 else 0)) H) (fun xs H Q => ∃ a n, xs = [.str a] ∧ PySem.intText? a = some n ∧ a.length ≤ 640 ∧ Q (.int n) H)
  | .str => fun xs H Q => ∃ i, xs = [.int i] ∧ i.natAbs.log2 < 1920 ∧ Q (.str (toString i)) H
  | .tuple => fun xs H Q => ∃ p ys, xs = [.ref p] ∧ ((SqL K H p ys ∧ ∀ l, H l = none → Q (.ref l) (upd H l (.tup ys))) ∨ (SqT K H p ys ∧ Q (.ref p) H))
  | .list => fun xs H Q => ∃ p ys, xs = [.ref p] ∧ (SqL K H p ys ∨ SqT K H p ys) ∧ ∀ l, H l = none → Q (.ref l) (upd H l (.lst ys))
  | .ord => fun xs H Q => ∃ x, xs = [.str x] ∧ x.length = 1 ∧ Q (.int (x.cps.getD 0 0 : Nat)) H
  | .min2 => fun xs H Q => ∃ i j, xs = [.int i, .int j] ∧ Q (.int (if j < i then j else i)) H
  | .max2 => fun xs H Q => ∃ i j, xs = [.int i, .int j] ∧ Q (.int (if j > i then j else i)) H
  | .abs => fun xs H Q => ∃ i, xs = [.int i] ∧ Q (.int (if i < 0 then -i else i)) H
  | .isi => bOr (rIsi K) (bOr (rIsiT K) (rIsiK K))
section
variable {X : Cx}
theorem bif_len : CallR X (.builtin "len") (Bif.rd X.K .len) := call_len
theorem bif_int : CallR X (.type "int") (Bif.rd X.K .int) := CallR.or call_int1 call_int_str
theorem bif_str : CallR X (.type "str") (Bif.rd X.K .str) := call_str_int
theorem bif_tuple : CallR X (.type "tuple") (Bif.rd X.K .tuple) := call_tuple_of
theorem bif_list : CallR X (.type "list") (Bif.rd X.K .list) := call_list_of
theorem bif_ord : CallR X (.builtin "ord") (Bif.rd X.K .ord) := call_ord
theorem bif_min2 (hc : X.calm = true) : CallR X (.builtin "min") (Bif.rd X.K .min2) := call_min2 hc
theorem bif_max2 (hc : X.calm = true) : CallR X (.builtin "max") (Bif.rd X.K .max2) := call_max2 hc
theorem bif_abs : CallR X (.builtin "abs") (Bif.rd X.K .abs) := call_abs
theorem bif_isi : CallR X (.builtin "isinstance") (Bif.rd X.K .isi) := CallR.or call_isi (CallR.or call_isiT call_isiK)
end
theorem kit_sub {a b : String} {r : Bool} (h : subTy a b = some r) (ha : a ∈ ["NoneType", "bool", "int", "str", "list", "tuple"]) : kitB a b = some r := by
  unfold subTy at h
  split at h
  · rename_i e
    have e := eq_of_beq e
    subst e
    cases Option.some.inj h
    unfold kitB
    rw [if_pos (beq_self_eq_true _)]
  · split at h
    · rename_i e
      rw [Bool.and_eq_true] at e
      have e1 := eq_of_beq e.1
      have e2 := eq_of_beq e.2
      subst e1 e2
      cases Option.some.inj h
      decide +kernel
    · split at h
      · rename_i n1 n2 e
        rw [Bool.and_eq_true] at e
        have hb : b ∈ ["bool", "int", "str", "list", "tuple", "dict"] := by simpa using e.2
        cases Option.some.inj h
        have all : ∀ a ∈ (["NoneType", "bool", "int", "str", "list", "tuple"] : List String), ∀ b ∈ (["bool", "int", "str", "list", "tuple", "dict"] : List String), (a == b) = true ∨ (a == "bool" && b == "int") = true ∨ kitB a b = some false := by decide +kernel
        rcases all a ha b hb with z | z | z
        · exact absurd z n1
        · exact absurd z n2
        · exact z
      · cases h
theorem tyName_mem {x : D} {a : String} (h : tyName x = some a) : a ∈ ["NoneType", "bool", "int", "str", "list", "tuple"] := by
  cases x <;> first
    | (cases h; done)
    | (cases Option.some.inj h; simp)
section
variable {K : PySem.W.Frag} {G H : Hp} {Q : VK}
theorem tyX_of {x : D} {v : V} {a : String} (e : Ex G H) (h : Rq K G H x v) (n : tyName x = some a) : TyX K H v (.type a) := by
  cases x with
  | non => cases Option.some.inj n; cases h.non; exact .base .non
  | bl b => cases Option.some.inj n; cases h.bl; exact .base (.bl _)
  | int i => cases Option.some.inj n; cases h.int; exact .base (.int _)
  | str l => cases Option.some.inj n; cases h.str; exact .base (.str _)
  | ty _ => cases n
  | lst ds =>
    cases Option.some.inj n
    obtain ⟨p, vs, rfl, h1, _⟩ := h.lst e
    exact .base (.lst h1)
  | tup ds =>
    cases Option.some.inj n
    obtain ⟨p, vs, rfl, h1, _⟩ := h.tup
    rcases h1.mono e with h1 | ⟨o, its, m, h1, h2, _⟩
    · exact .base (.tup h1)
    · exact .kTuple h1 h2
  | fls ds =>
    cases Option.some.inj n
    obtain ⟨p, vs, rfl, h1, _⟩ := h.fls
    rcases ex_l e h1 with (h1 | ⟨o, h1⟩) | ⟨o, its, m, h1, h2, _⟩
    · exact .base (.lst h1)
    · exact .base (.frz h1)
    · exact .kList h1 h2
theorem any_sound {a : String} (ha : a ∈ ["NoneType", "bool", "int", "str", "list", "tuple"]) : ∀ (cs : List D) (vs : List V) (r : Bool), anyTy a cs = some r → Rps K G cs vs → ∃ us, Paired ClsV vs us ∧ PySem.W.kitAny K (.type a) us = some r
  | [], _, r, h, p => by
    cases p
    cases Option.some.inj h
    exact ⟨[], .nil, rfl⟩
  | c :: cs, _, r, h, p => by
    obtain ⟨v, vs, rfl, p1, p2⟩ := p
    cases c <;> first | (cases h; done) | skip
    rename_i b
    cases (show v = V.ty b from p1)
    unfold anyTy at h
    cases q : subTy a b with
    | none => rw [q] at h; cases h
    | some t =>
      cases q2 : anyTy a cs with
      | none => rw [q, q2] at h; cases h
      | some u =>
        rw [q, q2] at h
        cases Option.some.inj h
        obtain ⟨us, hu, hk⟩ := any_sound ha cs vs u q2 p2
        refine ⟨.type b :: us, .cons (.ty b) hu, kitAny_cons (kit_ty (kit_sub q ha)) (fun z => ?_) fun z => ?_⟩
        · rw [z, Bool.false_or]; exact hk
        · rw [z, Bool.true_or]
/-- values that are read only, one by one -/
def Rqs (K : PySem.W.Frag) (G H : Hp) : List D → List V → Prop
  | [], vs => vs = []
  | d :: ds, vs => ∃ v r, vs = v :: r ∧ Rq K G H d v ∧ Rqs K G H ds r
theorem Rqs.of : ∀ (ds : List D) (vs : List V), Rps K G ds vs → Rqs K G H ds vs
  | [], _, h => h
  | d :: ds, _, h => by
    obtain ⟨v, r, h1, h2, h3⟩ := h
    exact ⟨v, r, h1, .inl h2, Rqs.of ds r h3⟩
theorem intText_S {l : List Nat} (h : (l.all isDig && !l.isEmpty && decide (l.length ≤ 640)) = true) : intText? (S l) = some ((NumText.digitsVal l : Nat) : Int) ∧ (S l).length ≤ 640 := by
  rw [Bool.and_eq_true, Bool.and_eq_true] at h
  have h3 := of_decide_eq_true h.2
  refine ⟨SX.int_S h.1.1 ?_ (by omega), by rw [S_len]; exact h3⟩
  intro z
  rw [z] at h
  cases h.1.2
theorem Bif.sound {b : Bif} {ds : List D} {d : D} {vs : List V} (h : b.run ds = some d) (e : Ex G H) (hx : Rqs K G H ds vs) (k : ∀ v G' H', Pu G H G' H' → Rp K G' d v → Q v H') : b.rd K vs H Q := by
  have k0 : ∀ v, Rp K G d v → Q v H := fun v r => k v G H (Pu.refl e) r
  match b, ds, h with
  | .len, [x], h =>
    obtain ⟨v, _, rfl, h1, rfl⟩ := hx
    have h : (lenD x).map (fun n => D.int n) = some d := h
    cases q : lenD x with
    | none => rw [q] at h; cases h
    | some n =>
      rw [q] at h
      cases Option.some.inj h
      refine ⟨v, n, rfl, ?_, k0 _ rfl⟩
      unfold lenD at q
      split at q
      · split at q
        · rename_i hz
          cases Option.some.inj q
          cases h1.str
          exact ⟨by rw [S_len]; exact sz_line hz, (S_len _).symm⟩
        · cases q
      · cases Option.some.inj q
        obtain ⟨p, us, rfl, p1, p2⟩ := h1.lst e
        exact .inl ⟨us, SqL.of p1, (Rps.length _ _ p2).symm⟩
      · cases Option.some.inj q
        obtain ⟨p, us, rfl, p1, p2⟩ := h1.tup
        exact .inr ⟨us, (p1.mono e).sq, (Rps.length _ _ p2).symm⟩
      · cases Option.some.inj q
        obtain ⟨p, us, rfl, p1, p2⟩ := h1.fls
        exact .inl ⟨us, ex_l e p1, (Rps.length _ _ p2).symm⟩
      · cases q
  | .int, [x], h =>
    obtain ⟨v, _, rfl, h1, rfl⟩ := hx
    cases x with
    | int i =>
      cases Option.some.inj (show some (D.int i) = some d from h)
      cases h1.int
      exact .inl (.inl ⟨i, rfl, k0 _ rfl⟩)
    | bl c =>
      cases Option.some.inj (show some (D.int (if c then 1 else 0)) = some d from h)
      cases h1.bl
      exact .inl (.inr ⟨c, rfl, k0 _ rfl⟩)
    | str l =>
      have h : (if l.all isDig && !l.isEmpty && decide (l.length ≤ 640) then some (D.int (NumText.digitsVal l : Nat)) else none) = some d := h
      split at h
      · rename_i hz
        cases Option.some.inj h
        cases h1.str
        obtain ⟨z1, z2⟩ := intText_S hz
        exact .inr ⟨_, _, rfl, z1, z2, k0 _ rfl⟩
      · cases h
    | non => cases h
    | ty _ => cases h
    | lst _ => cases h
    | tup _ => cases h
    | fls _ => cases h
  | .str, [x], h =>
    obtain ⟨v, _, rfl, h1, rfl⟩ := hx
    cases x with
    | int i =>
      have h : (if i.natAbs.log2 < 1920 then some (D.str (strI i)) else none) = some d := h
      split at h
      · rename_i hz
        cases Option.some.inj h
        cases h1.int
        exact ⟨i, rfl, hz, k0 _ rfl⟩
      · cases h
    | bl _ => cases h
    | str _ => cases h
    | non => cases h
    | ty _ => cases h
    | lst _ => cases h
    | tup _ => cases h
    | fls _ => cases h
  | .tuple, [x], h =>
    obtain ⟨v, _, rfl, h1, rfl⟩ := hx
    cases x with
    | lst ds =>
      cases Option.some.inj (show some (D.tup ds) = some d from h)
      obtain ⟨p, us, rfl, p1, p2⟩ := h1.lst e
      exact ⟨p, us, rfl, .inl ⟨SqL.of p1, fun l hl => k _ _ _ (Pu.new e hl) ⟨l, us, rfl, .inl upd_same, Rps.mono (Ex.new (none_of_ex e hl)) _ _ p2⟩⟩⟩
    | tup ds =>
      cases Option.some.inj (show some (D.tup ds) = some d from h)
      obtain ⟨p, us, rfl, p1, p2⟩ := h1.tup
      exact ⟨p, us, rfl, .inr ⟨(p1.mono e).sq, k0 _ ⟨p, us, rfl, p1, p2⟩⟩⟩
    | fls ds =>
      cases Option.some.inj (show some (D.tup ds) = some d from h)
      obtain ⟨p, us, rfl, p1, p2⟩ := h1.fls
      exact ⟨p, us, rfl, .inl ⟨ex_l e p1, fun l hl => k _ _ _ (Pu.new e hl) ⟨l, us, rfl, .inl upd_same, Rps.mono (Ex.new (none_of_ex e hl)) _ _ p2⟩⟩⟩
    | int _ => cases h
    | bl _ => cases h
    | str _ => cases h
    | non => cases h
    | ty _ => cases h
  | .list, [x], h =>
    obtain ⟨v, _, rfl, h1, rfl⟩ := hx
    cases x with
    | lst ds =>
      cases Option.some.inj (show some (D.lst ds) = some d from h)
      obtain ⟨p, us, rfl, p1, p2⟩ := h1.lst e
      exact ⟨p, us, rfl, .inl (SqL.of p1), fun l hl => k _ _ _ (Pu.new e hl) ⟨l, us, rfl, upd_same, Rps.mono (Ex.new (none_of_ex e hl)) _ _ p2⟩⟩
    | tup ds =>
      cases Option.some.inj (show some (D.lst ds) = some d from h)
      obtain ⟨p, us, rfl, p1, p2⟩ := h1.tup
      exact ⟨p, us, rfl, .inr (p1.mono e).sq, fun l hl => k _ _ _ (Pu.new e hl) ⟨l, us, rfl, upd_same, Rps.mono (Ex.new (none_of_ex e hl)) _ _ p2⟩⟩
    | fls ds =>
      cases Option.some.inj (show some (D.lst ds) = some d from h)
      obtain ⟨p, us, rfl, p1, p2⟩ := h1.fls
      exact ⟨p, us, rfl, .inl (ex_l e p1), fun l hl => k _ _ _ (Pu.new e hl) ⟨l, us, rfl, upd_same, Rps.mono (Ex.new (none_of_ex e hl)) _ _ p2⟩⟩
    | int _ => cases h
    | bl _ => cases h
    | str _ => cases h
    | non => cases h
    | ty _ => cases h
  | .ord, [x], h =>
    obtain ⟨v, _, rfl, h1, rfl⟩ := hx
    cases x with
    | str l =>
      match l, h with
      | [c], h =>
        cases Option.some.inj (show some (D.int c) = some d from h)
        cases h1.str
        exact ⟨_, rfl, rfl, k0 _ rfl⟩
      | [], h => cases h
      | _ :: _ :: _, h => cases h
    | int _ => cases h
    | bl _ => cases h
    | non => cases h
    | ty _ => cases h
    | lst _ => cases h
    | tup _ => cases h
    | fls _ => cases h
  | .abs, [x], h =>
    obtain ⟨v, _, rfl, h1, rfl⟩ := hx
    cases x with
    | int i =>
      cases Option.some.inj (show some (D.int (if i < 0 then -i else i)) = some d from h)
      cases h1.int
      exact ⟨i, rfl, k0 _ rfl⟩
    | str _ => cases h
    | bl _ => cases h
    | non => cases h
    | ty _ => cases h
    | lst _ => cases h
    | tup _ => cases h
    | fls _ => cases h
  | .min2, [x, y], h =>
    obtain ⟨v, _, rfl, h1, u, _, rfl, h2, rfl⟩ := hx
    have h : i2 (fun i j => some (.int (if j < i then j else i))) x y = some d := h
    unfold i2 at h
    split at h
    · cases Option.some.inj h
      cases h1.int
      cases h2.int
      exact ⟨_, _, rfl, k0 _ rfl⟩
    · cases h
  | .max2, [x, y], h =>
    obtain ⟨v, _, rfl, h1, u, _, rfl, h2, rfl⟩ := hx
    have h : i2 (fun i j => some (.int (if j > i then j else i))) x y = some d := h
    unfold i2 at h
    split at h
    · cases Option.some.inj h
      cases h1.int
      cases h2.int
      exact ⟨_, _, rfl, k0 _ rfl⟩
    · cases h
  | .isi, [x, c], h =>
    obtain ⟨v, _, rfl, h1, u, _, rfl, h2, rfl⟩ := hx
    have h : (isiD x c).map D.bl = some d := h
    unfold isiD at h
    cases q : tyName x with
    | none => rw [q] at h; cases h
    | some a =>
      rw [q] at h
      have tx := tyX_of e h1 q
      have ma := tyName_mem q
      cases c with
      | ty n =>
        have h : (subTy a n).map D.bl = some d := h
        cases q2 : subTy a n with
        | none => rw [q2] at h; cases h
        | some r =>
          rw [q2] at h
          cases Option.some.inj h
          cases (show u = V.ty n from h2.rp fun _ z => nomatch z)
          exact .inl ⟨v, .ty n, .type a, .type n, r, rfl, .ty n, tx, kit_ty (kit_sub q2 ma), k0 _ rfl⟩
      | tup cs =>
        have h : (anyTy a cs).map D.bl = some d := h
        cases q2 : anyTy a cs with
        | none => rw [q2] at h; cases h
        | some r =>
          rw [q2] at h
          cases Option.some.inj h
          obtain ⟨p, us, rfl, p1, p2⟩ := h2.tup
          obtain ⟨ws, w1, w2⟩ := any_sound ma cs us r q2 p2
          rcases p1 with p1 | ⟨⟨oc, od, dt, sl⟩, its, m, p1, z1, z2, _, z3⟩
          · exact .inr (.inl ⟨v, p, us, .type a, ws, r, rfl, e _ _ p1, w1, tx, w2, k0 _ rfl⟩)
          · have z4 := ClsV.all w1 z3
            subst z4
            cases (show oc = _ from z1)
            cases (show dt = _ from z2)
            exact .inr (.inr ⟨v, p, od, its.toList, m, sl, .type a, r, rfl, p1, tx, w2, k0 _ rfl⟩)
      | int _ => cases h
      | bl _ => cases h
      | str _ => cases h
      | non => cases h
      | lst _ => cases h
      | fls _ => cases h
end
end Mp
/-! A mini language over HandS, 15: rules for errors of the program's own. -/
namespace Mp
open PySem L2 PyProof.Rows
section
variable {X : Cx}
/-- B.__init__(self, ..), B a class of the program that has its base's maker -/
theorem pe_binit {pl : Sem Bool} {b : Str} {B : Addr} {e1 : Expr} {es1 : List Expr} {ta1 : TA} {q1 q2 q3 : Pos} (hg : Gl X b) (hm : X.mg b = some (.ref B)) (rd : PySem.W.readsIn X.K B (.type "type") = true)
    (ga : PySem.W.specialIn X.K (.ref B) "__getattribute__" = some (some (.builtin "type.__getattribute__"))) (vV : PySem.W.findCls X.K (.ref B) (.type "type") "__init__" = some (.val (.builtin "ValueError.__init__"))) (ha1 : PA X (e1 :: es1) ta1)
    (hdb : (b == ("__debug__" : Str)) = false := by decide)
    (hc1 : eval (.Call (.Attribute (.Name b q1) "__init__" q2) (e1 :: es1) [] q3) X.env = (do
      let base ← eval (.Name b q1) X.env
      standAt q2.atName
      let (g, fst) ← holding [base] (getMethod base "__init__" pl)
      callWith q3 g fst (backTo q3 (starEach (e1 :: es1) X.env)) (backToKw q3 (keywordEach [] X.env))) := by rfl)
    (he1 : starEach (e1 :: es1) X.env = (false, eval e1 X.env) :: starEach es1 X.env := by rfl) (hpl1 : (backTo q3 (starEach es1 X.env)).any (·.1) = false := by rfl) :
    PE X (.Call (.Attribute (.Name b q1) "__init__" q2) (e1 :: es1) [] q3) (tVeI X.K ta1) := by
  refine ⟨fun pns st τ Hh Qq J hh => ?_⟩
  refine PySem.W.methodCall_KW (ld_glob J hg hm ?_ hdb) hc1
  refine PySem.W.method_cls J.kIn ga (PySem.W.cls_value J.kIn rd vV (by decide +kernel) ?_)
  refine PyProof.Rows.callWith_method1 (thn (ha1.run q3 pns _ τ Hh _ (J.tok _) hh) fun ws st1 ⟨vs, Hh1, J1, rr, a, Cc, zs, ev, hl, Tt, ea, qq⟩ => ?_) he1 hpl1
  subst ev
  cases rr with
  | @cons _ w0 _ wr ra1 rw1 =>
    obtain rfl : w0 = Value.ref a := ra1
    have hlen : wr.length ≤ sizeLine := by
      rw [← Paired.length rw1, sizeLine_eq]
      omega
    exact oinit_ok Tt J1 ea hlen fun st2 J2 => ⟨.non, Hh1, J2, rfl, qq⟩
end
/-! ### try with several clauses, each with a name -/
abbrev TSX := Addr → Value → Option Addr → TS
def endsNo (D : Ends) (i : Nat) : Ends := { nx := fun τ Hh => D.nx (τ.set i none) Hh, rt := D.rt, bk := fun τ Hh => D.bk (τ.set i none) Hh, ct := fun τ Hh => D.ct (τ.set i none) Hh }
def wAll (K : PySem.W.Frag) (Wo : WX) (D : Ends) : List (Value × Nat × TSX) → WX
  | [] => Wo
  | (c, i, ts) :: r => fun cls d τ Hh => ∃ b, PySem.W.exmOne K cls c = some b ∧ (b = true → ∀ a, Hh a = none → ts a cls d (endsNo D i) (τ.set i (some (.ref a))) Hh) ∧ (b = false → wAll K Wo D r cls d τ Hh)
inductive HdA (X : Cx) : List ExceptHandler → List (Value × Nat × TSX) → Prop
  | nil : HdA X [] []
  | cons {x n : Str} {c : Value} {i : Nat} {ts : TSX} {st0 : Stmt} {sts : List Stmt} {q1 q2 : Pos} {hh : List ExceptHandler} {l : List (Value × Nat × TSX)} (hi : X.N[i]? = some n) (hln : X.env.kindOf n = some .local) (hc : Names X x c)
      (hsu : ∀ (a : Addr) (oe : Obj) (cls : Value) (d : Option Addr) (pl : List (Addr × Obj)), Zc cls d oe → (∃ fv, oe.data = .fields fv) → PSs (X.suite a ((a, oe) :: pl)) (st0 :: sts) (ts a cls d)) (r : HdA X hh l) :
      HdA X (.ExceptHandler (some (.Name x q1)) (some n) (st0 :: sts) q2 :: hh) ((c, i, ts) :: l)
section
variable {X : Cx} {bd : List Stmt} {h1 : ExceptHandler} {hh : List ExceptHandler} {l : List (Value × Nat × TSX)} {pos : Pos} {tb : WX → TS} {Wo : WX}
theorem ps_tryA (hs : X.stack = X.env :: X.outer) (hf : X.env.frame = some X.env.locals) (hN : X.N.Nodup) (tk : Takes X Wo)
    (hb : ∀ (W : WX) (pl : List (Addr × Obj)) (xe : Value → Shared → Prop), Takes (X.tr pl xe) W → PassesOwn (model X.prog X.w) X.A X.env xe → PSs (X.tr pl xe) bd (tb W))
    (hk : HdA X (h1 :: hh) l) : PS X (.Try bd (h1 :: hh) [] [] pos) (fun D τ Hh => tb (wAll X.K Wo D l) D τ Hh) := by
  refine ⟨fun pns st τ Hh D I0 hw => ?_⟩
  have okk := I0.ok
  have frm : X.A.frames = some (X.env :: X.outer) := by rw [okk.frames, hs]
  refine wpAny_Try_except ?_
  refine wpAny_mono ((hb (wAll X.K Wo D l) (X.pn ++ pns) (fun ev t1 => wpAny (model X.prog X.w) X.A (noteFrame ev X.env) (fun _ t2 => wpAny (model X.prog X.w) X.A (setFlight ev none) (fun _ t3 =>
    wpAny (model X.prog X.w) X.A (handleBy ev X.env (h1 :: hh)) (SP X pns D) X.xe t3) X.xe t2) X.xe t1) (fun u t xx => ?_) PassesOwn.looking).run [] st τ Hh D (I0.toTry _) hw) (fun fl t hsp => ?_) (fun ev t he => he)
  · obtain ⟨a, B, sI, pns', τ', Hh', cls, d, rfl, I1, nb, up, sky, na, os, ag, w⟩ := xx
    have J : Inv X pns τ' Hh' sI := I1.ofTry okk
    have sk2 : Sky B (X.env :: X.outer) a (Zc cls d) X.env.locals t.heap := by rw [← hs]; exact sky
    show wpAny (model X.prog X.w) X.A (noteFrame (.ref a) X.env) _ _ _
    refine Sky.land Zc.steady frm hf sk2 fun g3 f3 u3 => ?_
    have J3 : Inv X pns τ' Hh' { t with heap := g3 } := J.landed nb f3.1 (up.trans u3) os ag
    obtain ⟨o3, fv3, hx3, hz3, hd3⟩ := f3.there
    have nofr : a ∉ frs (X.env :: X.outer) := fun hm => by
      obtain ⟨_, o', e', hnf⟩ := f3.2.2.1.mem hm
      rw [hx3] at e'; cases e'
      exact hnf _ hd3
    have nL : a ≠ X.env.locals := fun z => nofr (List.mem_filterMap.mpr ⟨X.env, List.mem_cons_self, by rw [hf, z]⟩)
    have nF : a ∉ X.fs := fun hm => by
      obtain ⟨ev, he, q⟩ := List.mem_filterMap.mp hm
      exact nofr (List.mem_filterMap.mpr ⟨ev, List.mem_cons_of_mem _ he, q⟩)
    have S3 := J3.suite hx3 hd3 na nL nF
    have go : ∀ {hq : List ExceptHandler} {lq : List (Value × Nat × TSX)}, HdA X hq lq → wAll X.K Wo D lq cls d τ' Hh' →
        wpAny (model X.prog X.w) X.A (handleBy (.ref a) X.env hq) (SP X pns D) X.xe { t with heap := g3 } := by
      intro hq lq hk
      induction hk with
      | nil =>
        intro w
        refine wpAny_handleBy_nil ?_
        obtain ⟨k1, k2, k3, o0, fv, Tr, oT, tsx, he, hz, hd, hv1, hr⟩ := id f3
        unfold PySem.passOn
        refine wpAny_bind (wpAny_field he hd hv1 ?_)
        rw [if_neg (show ¬ ((Value.ref Tr == Value.none) = true) from by simp)]
        have fin : wpAny (model X.prog X.w) X.A (setFlight (.ref a) X.env.frame) (fun _ t4 => wpAny (model X.prog X.w) X.A (throw (.ref a) : Sem Flow) (SP X pns D) X.xe t4) X.xe { t with heap := g3 } := by
          rw [hf]
          refine HandSPX.setFlight_upZ f3 fun g4 hg4 u4 => wpAny_throw (tk _ _ ?_)
          exact ⟨a, B, sI, pns, τ', Hh', cls, d, rfl, J, nb, (up.trans u3).trans u4, .inr (.inr (by rw [hs]; exact hg4)), na, os, ag, w⟩
        first
          | exact wpAny_bind (wpAny_pure (wpAny_bind fin))
          | exact wpAny_bind fin
      | @cons x n c i ts st0 sts q1 q2 hh2 l2 hi hln hc hsu r ih =>
        intro w
        obtain ⟨b, hb1, yes, no⟩ := w
        refine wpAny_handleBy_cons (codeAny_handlers_test ?_) (by intro q; cases q)
        have LT : PySem.W.Looks (model X.prog X.w) g3 (typeOf (.ref a)) cls := fun A Q E s0 k q => wpAny_typeOf_ref (k _ _ hx3) (by rw [hz3.1]; exact q)
        have LM := PySem.W.exm_one (M := model X.prog X.w) (J3.kIn) LT hb1
        have test : ∀ {Q : Value → Shared → Prop} {E : Value → Shared → Prop}, Q c { t with heap := g3 } → wpAny (model X.prog X.w) (X.A.mark (some (.ref a))) (eval (.Name x q1) X.env) Q E { t with heap := g3 } := fun {Q E} q => by
          obtain ⟨n1, n2, n3 | ⟨n3, n4, n5⟩⟩ := hc
          · exact ld_glob (X := X.suite a ((a, o3) :: (X.pn ++ pns))) S3 n1 n3 q n2
          · exact ld_blt (X := X.suite a ((a, o3) :: (X.pn ++ pns))) S3 n1 n3 n4 q n5 n2
        refine test (LM.here ?_)
        cases b with
        | true =>
          refine codeAny_handlers_suite_as ?_
          refine HandSPX.lands_againZ f3 fun g4 f4 u4 => ?_
          have J4 : Inv X pns τ' Hh' { t with heap := g4 } := J.landed nb f4.1 ((up.trans u3).trans u4) os ag
          obtain ⟨o4, fv4, hx4, hz4, hd4⟩ := f4.there
          have S4 := J4.suite hx4 hd4 na nL nF
          refine store_ok (X := X.suite a ((a, o4) :: (X.pn ++ pns))) (v := .ref a) S4 hN hi (.inl hln) rfl (fun t5 S5 => ?_) (.inr hln)
          refine wpAny_mono ((hsu a o4 cls d (X.pn ++ pns) hz4 ⟨_, hd4⟩).run [] t5 _ Hh' _ S5 (yes rfl a na)) (fun fl t6 hsp => ?_) (fun _ _ z => False.elim z)
          have end_ : ∀ {τ6 : L2.St} {H6 : Hp} {Q : Shared → Prop}, Inv (X.suite a ((a, o4) :: (X.pn ++ pns))) [] τ6 H6 t6 → (∀ t7, Inv X pns (τ6.set i none) H6 t7 → Q t7) →
              wpAny (model X.prog X.w) X.A (do bindName X.env n .none; unbindBehindTheSuite X.env n q2) (fun _ t7 => Q t7) X.xe t6 := fun {τ6 H6 Q} S6 hq => gone_ok (S6.unsuite okk) hN hi hln hq
          cases fl with
          | next =>
            obtain ⟨τ6, H6, S6, q6⟩ := hsp
            exact end_ S6 fun t7 J7 => ⟨_, _, J7, q6⟩
          | brk =>
            obtain ⟨τ6, H6, S6, q6⟩ := hsp
            exact end_ S6 fun t7 J7 => ⟨_, _, J7, q6⟩
          | cont =>
            obtain ⟨τ6, H6, S6, q6⟩ := hsp
            exact end_ S6 fun t7 J7 => ⟨_, _, J7, q6⟩
          | ret u =>
            obtain ⟨v6, τ6, H6, S6, r6, q6⟩ := hsp
            exact end_ S6 fun t7 J7 => ⟨_, _, _, J7, r6, q6⟩
        | false =>
          show wpAny _ X.A (handleBy (.ref a) X.env hh2) _ _ _
          exact ih (no rfl)
    exact go hk w
  · cases fl with
    | next =>
      obtain ⟨τ', Hh', J', q⟩ := hsp
      exact wpAny_execs_nil ⟨τ', Hh', J'.ofTry okk, q⟩
    | brk =>
      obtain ⟨τ', Hh', J', q⟩ := hsp
      exact ⟨τ', Hh', J'.ofTry okk, q⟩
    | cont =>
      obtain ⟨τ', Hh', J', q⟩ := hsp
      exact ⟨τ', Hh', J'.ofTry okk, q⟩
    | ret u =>
      obtain ⟨v, τ', Hh', J', r, q⟩ := hsp
      exact ⟨v, τ', Hh', J'.ofTry okk, r, q⟩
end
end Mp
/-! A mini language over HandS, 16: errors of the program's own: isinstance, making, raising. -/
namespace Mp
open PySem L2 PyProof.Rows
section
variable {X : Cx}
/-- isinstance(e, c): a the caught error, cls its class, d its dict; c a class, or a tuple of classes -/
def rIsA (K : PySem.W.Frag) (a : Addr) (cls : Value) (d : Option Addr) : List V → Hp → VK → Prop := fun xs Hh Q => ∃ (c : V) (Dc dd : Addr) (fs : List (Str × V)) (b : Bool), xs = [.ref a, c] ∧ cls = .ref Dc ∧ d = some dd ∧ Hh dd = some (.xd fs) ∧ ExcC K Dc ∧
  ((∃ u, ClsV c u ∧ PySem.W.kitOne K (.ref Dc) u = some b) ∨ ∃ (tp : Addr) (cs : List V) (us : List Value), c = .ref tp ∧ Hh tp = some (.tup cs) ∧ Paired ClsV cs us ∧ PySem.W.kitAny K (.ref Dc) us = some b) ∧ Q (.bl b) Hh
theorem call_isA {a : Addr} {oe : Obj} {cls : Value} {d : Option Addr} {pl : List (Addr × Obj)} (hz : Zc cls d oe) (hf : ∃ fv, oe.data = .fields fv) : CallR (X.suite a ((a, oe) :: pl)) (.builtin "isinstance") (rIsA X.K a cls d) := by
  intro pns st τ Hh xs us Q I r hw
  obtain ⟨c, Dc, dd, fs, b, rfl, rfl, rfl, hx, Ec, hc, q⟩ := hw
  obtain ⟨u1, u2, rfl, r1, r2⟩ := vals2 r
  cases (show u1 = Value.ref a from r1)
  obtain ⟨hget, _⟩ := I.pin (a, oe) (List.mem_append_left _ List.mem_cons_self)
  obtain ⟨fv, hd⟩ := hf
  obtain ⟨mA, hns, hr⟩ := (show ObjOk X.prog X.w Hh st.heap dd (.xd fs) from I.hok dd _ hx)
  obtain ⟨od, ho, hl⟩ := lookIn_ns hns
  have J : PySem.W.InstAt st.heap a oe Dc (some od) := ⟨hget, hz.1, by unfold PySem.W.notCls; rw [hd] <;> rfl, by rw [hz.2]; exact ho⟩
  have hcl : (PySem.W.clsIn X.K Dc).isSome = true := by
    obtain ⟨cd, hcd, _⟩ := PySem.W.any_some Ec.hd
    rw [hcd]
    rfl
  have Z := PySem.W.kitx_exc (K := X.K) (x := a) (ox := oe) (od := some od) hcl Ec.hg Ec.hk Ec.hs Ec.ha Ec.hn Ec.ht Ec.hm
  rcases hc with ⟨u, k, e⟩ | ⟨tp, cs, ws, rfl, hT, k, e⟩
  · have e2 := k.eq r2
    subst e2
    exact PySem.W.kia_one Z I.kIn J e (fun z => nomatch z) fun tk => ⟨.bl b, Hh, I.tok tk, rfl, q⟩
  · cases (show u2 = Value.ref tp from r2)
    obtain ⟨_, its, rv, o, g1, g2, n, g3⟩ := (show ObjOk X.prog X.w Hh st.heap tp (.tup cs) from I.hok tp _ hT)
    have e3 := ClsV.all k rv
    subst e3
    obtain ⟨oc, od2, dt, sl⟩ := o
    simp only at g2 g3
    subst g2 g3
    exact PySem.W.kia_tup Z I.kIn J g1 e (fun z => nomatch z) fun tk => ⟨.bl b, Hh, I.tok tk, rfl, q⟩
end
/-! ### C(e1, e2), whose maker tells its base's, then stores two fields -/
/-- what the maker does -/
def spXI (K : PySem.W.Frag) (f1 f2 : Str) : Sp := fun vs Hh Q _ => ∃ (a Cc : Addr) (v1 v2 : V), vs = [.ref a, v1, v2] ∧ OexC K Cc ∧ PySem.W.findIn K (.ref Cc) f1 = some none ∧ PySem.W.findIn K (.ref Cc) f2 = some none ∧ Hh a = some (exo a Cc none) ∧
  ∀ d, Hh d = none → d ≠ a → Q .non (upd (upd (upd Hh d (exd d [(f1, v1)])) a (exo a Cc (some d))) d (exd d [(f2, v2), (f1, v1)]))
def rdXI (K : PySem.W.Frag) (f1 f2 msg : Str) : TS :=
  tSeq (tDrop (tVeI K (tCons (tVar 0) (tCons (tC (.str msg)) tNil)))) (tSeq (tOst K f1 (tVar 0) (tVar 1)) (tSeq (tOst K f2 (tVar 0) (tVar 2)) tNext))
theorem rdXI_sound {K : PySem.W.Frag} {f1 f2 msg : Str} {N : List Str} (hN : N.length = 3) {vs : List V} {Hh : Hp} {Q : VK} {E : XK} (h : spXI K f1 f2 vs Hh Q E) : rdXI K f1 f2 msg { nx := fun _ H' => Q .non H', rt := Q } (L2.start N vs) Hh := by
  obtain ⟨a, Cc, v1, v2, rfl, T, n1, n2, ha, k⟩ := h
  have es : L2.start N [.ref a, v1, v2] = [some (.ref a), some v1, some v2] := by
    unfold L2.start
    rw [hN]
    rfl
  rw [es]
  refine ⟨.ref a, rfl, a, Cc, [.str msg], rfl, (by show 1 ≤ 1000; decide), T, ha, ?_⟩
  refine ⟨v1, rfl, .ref a, rfl, a, Cc, rfl, T, n1, .inl ⟨ha, fun d hd ne => ?_⟩⟩
  have e1 : (upd (upd Hh d (exd d [(f1, v1)])) a (exo a Cc (some d))) a = some (exo a Cc (some d)) := upd_same
  have e2 : (upd (upd Hh d (exd d [(f1, v1)])) a (exo a Cc (some d))) d = some (exd d [(f1, v1)]) := by rw [upd_ne ne]; exact upd_same
  exact ⟨v2, rfl, .ref a, rfl, a, Cc, rfl, T, n2, .inr ⟨d, [(f1, v1)], e1, e2, (by show 1 ≤ 900; decide), k d hd ne⟩⟩
section
variable {P : Program} {w : World} {K : PySem.W.Frag} {mg : Str → Option Value} {base : Heap}
theorem init_ok {q : Str} {st : Stmt} {f : Addr} {fd : FuncData} {N ps : List Str} {k : Nat} {f1 f2 msg : Str} (F : Fun K "__init__" q st f fd) (S : FnScope N ps (defScope st)) (hN : N.length = 3) (hps : ps.length = 3)
    (hbody : ∀ (cdv : Value) (A : Around) (outer : List Env) (s : Shared) (H : Hp) (E : XK), PSs (cxOf (L2.CX P w) P w K mg base N q (defScope st) f cdv A outer s H E) (defBody st) (rdXI K f1 f2 msg)) :
    FnOk P w K mg base (L2.CX P w) (k + 1) f fd ps (spXI K f1 f2) :=
  F.okX S (fun vs H Q E h => by obtain ⟨a, Cc, v1, v2, rfl, _⟩ := h; exact hps.symm) fun cdv A outer s H vs Q E hr h => ⟨_, hbody cdv A outer s H E, rdXI_sound hN h⟩
end
section
variable {X : Cx}
theorem ps_weak {st : Stmt} {t t' : TS} (h : PS X st t) (k : ∀ D σ H, t' D σ H → t D σ H) : PS X st t' := ⟨fun pins s σ H D I q => h.run pins s σ H D I (k D σ H q)⟩
theorem pe_weak {e : Expr} {t t' : TE} (h : PE X e t) (k : ∀ σ H Q, t' σ H Q → t σ H Q) : PE X e t' := ⟨fun pins s σ H Q I q => h.run pins s σ H Q I (k σ H Q q)⟩
theorem ps_rs {x : Str} {Cc fI : Addr} {k : Nat} {fd : FuncData} {ps : List Str} {f1 f2 : Str} {W : WX} {e1 : Expr} {es1 : List Expr} {ta1 : TA} {q1 q2 q3 : Pos} (hc : X.calm = true) (tk : Takes X W) (T : OexC X.K Cc)
    (iC : PySem.W.findIn X.K (.ref Cc) "__init__" = some (some (.ref fI))) (tI : PySem.W.typeIn X.K (.ref fI) = some (.type "function"))
    (F1 : FnOk X.prog X.w X.K X.mg X.base (L2.CX X.prog X.w) k fI fd ps (spXI X.K f1 f2)) (hr : Room (k + 1) X.A) (hb : Binds X.K fd ps []) (hg : Gl X x) (hm : X.mg x = some (.ref Cc)) (ha1 : PA X (e1 :: es1) ta1)
    (hdb : (x == ("__debug__" : Str)) = false := by decide) (he1 : starEach (e1 :: es1) X.env = (false, eval e1 X.env) :: starEach es1 X.env := by rfl) (hpl1 : (backTo q2 (starEach es1 X.env)).any (·.1) = false := by rfl) :
    PS X (.Raise (some (.Call (.Name x q1) (e1 :: es1) [] q2)) none q3) (fun _ σ H => tMkO Cc (spXI X.K f1 f2) [] ta1 σ H fun cls d H' => W cls d σ H') := ps_raise hc tk (pmk_oex T iC tI F1 hr hb .nil passL hg hm ha1 hdb he1 hpl1)
end
/-- what is to be shown behind the arguments of C(e1, e2) -/
theorem rs_core {K : PySem.W.Frag} {Cc : Addr} {f1 f2 : Str} {W : WX} {σ : L2.St} {H1 : Hp} {v1 v2 : V} (T : OexC K Cc) (n1 : PySem.W.findIn K (.ref Cc) f1 = some none) (n2 : PySem.W.findIn K (.ref Cc) f2 = some none)
    (q : ∀ d, H1 d = none → W (.ref Cc) (some d) σ (upd H1 d (.xd [(f2, v2), (f1, v1)]))) :
    [v1, v2].length ≤ 1000 ∧ ∀ a, H1 a = none → spXI K f1 f2 (.ref a :: ([v1, v2] ++ [])) (upd H1 a (exo a Cc none))
      (fun v H2 => v = .non ∧ ∃ (d : Addr) (fs : List (Str × V)), H2 a = some (exo a Cc (some d)) ∧ H2 d = some (exd d fs) ∧ H1 d = none ∧ W (.ref Cc) (some d) σ (upd (del H2 a) d (.xd fs))) (fun _ _ _ => False) := by
  refine ⟨(by show 2 ≤ 1000; decide), fun a ha => ⟨a, Cc, v1, v2, rfl, T, n1, n2, upd_same, fun d hd ne => ⟨rfl, d, [(f2, v2), (f1, v1)], ?_, ?_, ?_, ?_⟩⟩⟩
  · rw [upd_ne (Ne.symm ne)]; exact upd_same
  · exact upd_same
  · rw [upd_ne ne] at hd; exact hd
  · have hd2 : H1 d = none := by rw [upd_ne ne] at hd; exact hd
    have e : upd (del (upd (upd (upd (upd H1 a (exo a Cc none)) d (exd d [(f1, v1)])) a (exo a Cc (some d))) d (exd d [(f2, v2), (f1, v1)])) a) d (.xd [(f2, v2), (f1, v1)]) = upd H1 d (.xd [(f2, v2), (f1, v1)]) := by
      funext b
      by_cases z : b = d
      · subst z; rw [upd_same, upd_same]
      · rw [upd_ne z, upd_ne z]
        by_cases y : b = a
        · subst y; rw [del_same]; exact ha.symm
        · rw [del_ne y, upd_ne z, upd_ne y, upd_ne z, upd_ne y]
    rw [e]
    exact q d hd2
end Mp
/-! A mini language over HandS, 4: methods of texts, slices; the syntax and its evaluator. -/
namespace Mp
open PySem L2 Evl
open SX (S S_len S_cat S_inj)

/-! ### methods of texts -/
inductive Mth where
  | find | find3 | count | rfind | join
  deriving DecidableEq, Repr
def strsD : List D → Option (List (List Nat))
  | [] => some []
  | .str l :: r => (strsD r).map (l :: ·)
  | _ :: _ => none
def itemsD : D → Option (List D)
  | .lst ds => some ds
  | .tup ds => some ds
  | _ => none
def Mth.run : Mth → List Nat → List D → Option D
  | .find, l, [.str [c]] => some (.int (findFrom l c 0))
  | .find3, l, [.str [c], .int i] => if 0 ≤ i then some (.int (findFrom l c i.toNat)) else none
  | .count, l, [.str [c]] => some (.int (l.count c : Nat))
  | .rfind, l, [.str [c]] => some (.int (ixI (lastIx c l)))
  | .join, l, [x] => (itemsD x).bind fun ds => (strsD ds).bind fun ys => if (ys.map (·.length)).sum + ys.length * l.length ≤ 16777216 then some (.str (TL.joinL l ys)) else none
  | _, _, _ => none
abbrev RM := V → List V → Hp → VK → Prop
def Mth.rd (K : PySem.W.Frag) : Mth → RM
  | .find => fun x xs H Q => ∃ a b, x = .str a ∧ xs = [.str b] ∧ Q (.int (Txt.find a b)) H
  | .find3 => fun x xs H Q => ∃ (a b : Str) (i : Int), x = .str a ∧ xs = [.str b, .int i] ∧ Q (.int (Txt.find3 a b i)) H
  | .count => fun x xs H Q => ∃ a b, x = .str a ∧ xs = [.str b] ∧ Q (.int (Txt.count a b)) H
  | .rfind => fun x xs H Q => ∃ a b, x = .str a ∧ xs = [.str b] ∧ Q (.int (Txt.rfind a b)) H
  | .join => fun x xs H Q => ∃ a p, ∃ ys : List Str, x = .str a ∧ xs = [.ref p] ∧ (SqL K H p (ys.map V.str) ∨ SqT K H p (ys.map V.str)) ∧ (ys.map (·.length)).sum + ys.length * a.length ≤ 16777216 ∧ Q (.str (Txt.join a ys)) H
section
variable {X : Cx}
theorem mth_find : MtR X "str.find" (Mth.rd X.K .find) := mt_find
theorem mth_find3 : MtR X "str.find" (Mth.rd X.K .find3) := mt_find3
theorem mth_count : MtR X "str.count" (Mth.rd X.K .count) := mt_count
theorem mth_rfind : MtR X "str.rfind" (Mth.rd X.K .rfind) := mt_rfind
theorem mth_join : MtR X "str.join" (Mth.rd X.K .join) := mt_join
end
section
variable {K : PySem.W.Frag} {G H : Hp} {Q : VK}
theorem strs_rp : ∀ (ds : List D) (vs : List V) (ys : List (List Nat)), strsD ds = some ys → Rps K G ds vs → vs = (ys.map S).map V.str
  | [], _, _, h, r => by cases Option.some.inj h; cases r; rfl
  | d :: ds, _, ys, h, r => by
    obtain ⟨v, us, rfl, r1, r2⟩ := r
    cases d with
    | str l =>
      have h : (strsD ds).map (l :: ·) = some ys := h
      cases q : strsD ds with
      | none => rw [q] at h; cases h
      | some zs =>
        rw [q] at h
        cases Option.some.inj h
        cases (show v = _ from r1)
        rw [strs_rp ds us zs q r2]
        rfl
    | non => cases h
    | bl _ => cases h
    | int _ => cases h
    | ty _ => cases h
    | lst _ => cases h
    | tup _ => cases h
    | fls _ => cases h
theorem find_S (l : List Nat) (c : Nat) : Txt.find (S l) (S [c]) = findFrom l c 0 := by
  rw [← find3_S l c 0]
  unfold Txt.find Txt.find3
  rw [show fromIndex (S l).length ((0 : Nat) : Int) = 0 by unfold fromIndex; rw [if_neg (by omega)]; omega]
  cases Builtin.Str.occurrences (S l) (S [c]) 0 (S l).length 1 <;> rfl
theorem Mth.sound {m : Mth} {l : List Nat} {ds : List D} {d : D} {vs : List V} (h : m.run l ds = some d) (e : Ex G H) (hx : Rqs K G H ds vs) (k : ∀ v G' H', Pu G H G' H' → Rp K G' d v → Q v H') : m.rd K (.str (S l)) vs H Q := by
  have k0 : ∀ v, Rp K G d v → Q v H := fun v r => k v G H (Pu.refl e) r
  unfold Mth.run at h
  split at h
  · obtain ⟨v, _, rfl, h1, rfl⟩ := hx
    cases Option.some.inj h
    cases h1.str
    refine ⟨_, _, rfl, rfl, k0 _ ?_⟩
    rw [find_S]
    rfl
  · split at h
    · rename_i hi
      obtain ⟨v, _, rfl, h1, u, _, rfl, h2, rfl⟩ := hx
      cases Option.some.inj h
      cases h1.str
      cases h2.int
      refine ⟨_, _, _, rfl, rfl, k0 _ ?_⟩
      rename_i i
      have e2 : i = ((i.toNat : Nat) : Int) := by omega
      rw [e2, find3_S, ← e2]
      rfl
    · cases h
  · obtain ⟨v, _, rfl, h1, rfl⟩ := hx
    cases Option.some.inj h
    cases h1.str
    refine ⟨_, _, rfl, rfl, k0 _ ?_⟩
    rw [count_S]
    rfl
  · obtain ⟨v, _, rfl, h1, rfl⟩ := hx
    cases Option.some.inj h
    cases h1.str
    refine ⟨_, _, rfl, rfl, k0 _ ?_⟩
    rw [rfind_S]
    rfl
  · obtain ⟨v, _, rfl, h1, rfl⟩ := hx
    rename_i x
    cases q1 : itemsD x with
    | none => rw [q1] at h; cases h
    | some es =>
      rw [q1] at h
      cases q2 : strsD es with
      | none => rw [Option.bind_some, q2] at h; cases h
      | some ys =>
        rw [Option.bind_some, q2, Option.bind_some] at h
        split at h
        · rename_i hz
          cases Option.some.inj h
          have fin : ∀ p, (SqL K H p ((ys.map S).map V.str) ∨ SqT K H p ((ys.map S).map V.str)) → Mth.rd K .join (.str (S l)) [.ref p] H Q := fun p hp => by
            refine ⟨S l, p, ys.map S, rfl, rfl, hp, ?_, k0 _ ?_⟩
            · rw [SX.lens, List.length_map, S_len]
              exact hz
            · rw [SX.join_S]
              rfl
          cases x with
          | lst _ =>
            cases Option.some.inj q1
            obtain ⟨p, us, rfl, p1, p2⟩ := h1.lst e
            rw [strs_rp _ _ _ q2 p2] at p1
            exact fin p (.inl (SqL.of p1))
          | tup _ =>
            cases Option.some.inj q1
            obtain ⟨p, us, rfl, p1, p2⟩ := h1.tup
            rw [strs_rp _ _ _ q2 p2] at p1
            exact fin p (.inr (p1.mono e).sq)
          | non => cases q1
          | bl _ => cases q1
          | int _ => cases q1
          | str _ => cases q1
          | ty _ => cases q1
          | fls _ => cases q1
        · cases h
  · cases h
/-! ### slices -/
def cutL {α : Type} (xs : List α) (lo hi : Option Int) : List α := (xs.drop (HT.sIx xs.length 0 lo)).take (HT.sIx xs.length xs.length hi - HT.sIx xs.length 0 lo)
def sliceD (x : D) (lo hi : Option Int) : Option D :=
  match x with
  | .str l => if l.length ≤ 16777216 then some (.str (cutL l lo hi)) else none
  | .lst ds => some (.lst (cutL ds lo hi))
  | .fls ds => some (.lst (cutL ds lo hi))
  | .tup ds => some (.tup (cutL ds lo hi))
  | _ => none
abbrev RSl := V → Option Int → Option Int → Hp → VK → Prop
def rSl (K : PySem.W.Frag) : RSl := fun x lo hi H Q => rSlS x lo hi H Q ∨ (rSlL K x lo hi H Q ∨ rSlA K x lo hi H Q)
theorem slr {X : Cx} : SlR X (rSl X.K) := SlR.or sl_str (SlR.or sl_list sl_tupA)
theorem slice_sound {x d : D} {v : V} {lo hi : Option Int} (h : sliceD x lo hi = some d) (e : Ex G H) (hx : Rq K G H x v) (k : ∀ v G' H', Pu G H G' H' → Rp K G' d v → Q v H') : rSl K v lo hi H Q := by
  have cut : ∀ (ds : List D) (vs : List V), Rps K G ds vs → Rps K G (cutL ds lo hi) (cutV vs lo hi) := fun ds vs r => by
    unfold cutL cutV
    rw [Rps.length ds vs r]
    exact Rps.take _ _ _ (Rps.drop _ _ _ r)
  unfold sliceD at h
  split at h
  · split at h
    · rename_i hz
      cases Option.some.inj h
      cases hx.str
      refine .inl ⟨_, rfl, by rw [S_len]; exact sz_line hz, k _ G H (Pu.refl e) ?_⟩
      show V.str (cutS (S _) lo hi) = V.str (S (cutL _ lo hi))
      unfold cutS cutL
      rw [S_len]
    · cases h
  · cases Option.some.inj h
    obtain ⟨p, us, rfl, p1, p2⟩ := hx.lst e
    exact .inr (.inl ⟨p, us, rfl, SqL.of p1, fun q hq => k _ _ _ (Pu.new e hq) ⟨q, _, rfl, upd_same, Rps.mono (Ex.new (none_of_ex e hq)) _ _ (cut _ _ p2)⟩⟩)
  · cases Option.some.inj h
    obtain ⟨p, us, rfl, p1, p2⟩ := hx.fls
    exact .inr (.inl ⟨p, us, rfl, ex_l e p1, fun q hq => k _ _ _ (Pu.new e hq) ⟨q, _, rfl, upd_same, Rps.mono (Ex.new (none_of_ex e hq)) _ _ (cut _ _ p2)⟩⟩)
  · cases Option.some.inj h
    obtain ⟨p, us, rfl, p1, p2⟩ := hx.tup
    refine .inr (.inr ⟨p, us, rfl, (p1.mono e).sq, fun z => k _ G H (Pu.refl e) ⟨p, us, rfl, p1, ?_⟩, fun _ q hq => k _ _ _ (Pu.new e hq) ⟨q, _, rfl, .inl upd_same, Rps.mono (Ex.new (none_of_ex e hq)) _ _ (cut _ _ p2)⟩⟩)
    have := cut _ _ p2
    have e2 : cutV us lo hi = us := by
      unfold cutV
      rw [z.1, z.2, List.drop_zero, Nat.sub_zero, List.take_length]
    rw [e2] at this
    exact this
  · cases h
end

/-! ### the truth of a value -/
def truD : D → Option Bool
  | .non => some false
  | .bl b => some b
  | .int i => some (i != 0)
  | .str l => if l.length ≤ 16777216 then some ((l.length : Int) != 0) else none
  | .lst ds => some (!ds.isEmpty)
  | .tup ds => some (!ds.isEmpty)
  | _ => none
theorem tru_sound {K : PySem.W.Frag} {G H : Hp} {x : D} {v : V} {b : Bool} (h : truD x = some b) (e : Ex G H) (hx : Rq K G H x v) : TruV K v H b := by
  have em : ∀ (ds : List D) (vs : List V), Rps K G ds vs → ds.isEmpty = vs.isEmpty := fun ds vs r => by
    cases ds with
    | nil => cases r; rfl
    | cons d ds => obtain ⟨v, us, rfl, _⟩ := r; rfl
  unfold truD at h
  split at h
  · cases Option.some.inj h; cases hx.non; exact rfl
  · cases Option.some.inj h; cases hx.bl; exact rfl
  · cases Option.some.inj h; cases hx.int; exact rfl
  · split at h
    · rename_i hz
      cases Option.some.inj h; cases hx.str
      exact ⟨by rw [S_len]; exact sz_line hz, by rw [S_len]⟩
    · cases h
  · cases Option.some.inj h
    obtain ⟨p, us, rfl, p1, p2⟩ := hx.lst e
    exact .inl ⟨us, SqL.of p1, by rw [em _ _ p2]⟩
  · cases Option.some.inj h
    obtain ⟨p, us, rfl, p1, p2⟩ := hx.tup
    exact .inr (.inl ⟨us, (p1.mono e).sq, by rw [em _ _ p2]⟩)
  · cases h

/-! ### containers of ours, slots, outcomes -/
abbrev Ky := Sum Int (List Nat)
def Ky.k : Ky → Key
  | .inl i => .inl i
  | .inr l => .inr (S l)
def kyD : D → Option Ky
  | .int i => some (.inl i)
  | .str l => some (.inr l)
  | _ => none
inductive Ct where
  | ls (ds : List D)
  | dk (kvs : List (Ky × D))
  deriving Inhabited
inductive Sl where
  | no | da (d : D) | ow (c : Ct) | ex
  deriving Inhabited
abbrev En := List Sl
structure Er where
  c : Nat
  fs : List D
inductive R (α : Type) where
  | no | ok (a : α) (ε : En) | er (x : Er) (ε : En)
def R.bind {α β : Type} (r : R α) (f : α → En → R β) : R β :=
  match r with
  | .no => .no
  | .ok a ε => f a ε
  | .er x ε => .er x ε
def R.of {α : Type} (ε : En) : Option α → R α
  | some a => .ok a ε
  | none => .no
def R.noEr {α : Type} : R α → R α
  | .ok a ε => .ok a ε
  | _ => .no
def getL (ε : En) (i : Nat) : Option D :=
  match ε[i]? with
  | some (.ow (.ls ds)) => some (.lst ds)
  | some (.da d) => some d
  | _ => none
def hasV (ε : En) (i : Nat) : Bool :=
  match ε[i]? with
  | some (.ow _) => true
  | some (.da _) => true
  | _ => false
def getD' (ε : En) (i : Nat) : Option (List (Ky × D)) :=
  match ε[i]? with
  | some (.ow (.dk kvs)) => some kvs
  | _ => none
def isOw (ε : En) (i : Nat) : Bool :=
  match ε[i]? with
  | some (.ow _) => true
  | _ => false
def lookK (kvs : List (Ky × D)) (k : Ky) : Option D := (kvs.find? fun p => decide (p.1 = k)).map (·.2)
def putKy (kvs : List (Ky × D)) (k : Ky) (v : D) : List (Ky × D) :=
  if (kvs.any fun p => decide (p.1 = k)) = true then kvs.map (fun p => if p.1 = k then (p.1, v) else p) else kvs ++ [(k, v)]

/-! ### the syntax -/
inductive Pt where
  | nm (j : Nat) | tp (js : List Nat)
  deriving Inhabited
mutual
inductive E where
  | var (i : Nat) | frz (i : Nat) | cst (d : D) | glb (x : Nat)
  | op2 (o : Op2) (a b : E) | o2l (o : Op2) (i : Nat) (b : E) | o2r (o : Op2) (a : E) (i : Nat)
  | neg (a : E) | chain (o o' : Op2) (a b c : E)
  | and (a b : E) | or (a b : E) | not (a : E) | ite (t : T) (a b : E)
  | tup (es : Es) | lst (es : Es)
  | bif (b : Bif) (es : Es) | bifo (b : Bif) (i : Nat) (es : Es) | mth (m : Mth) (o : E) (es : Es)
  | slc (a : E) (lo hi : OE) | slo (i : Nat) (lo hi : OE)
  | call (f : Nat) (as : As)
  | dix (i : Nat) (e : E)
  | lc (own : List Nat) (p : Pt) (it : It) (t : Ts) (e : E)
  | xf (k i : Nat) | xi (i c : Nat) | xt (i : Nat) (cs : List Nat)
inductive Es where
  | nil | cons (e : E) (es : Es)
inductive As where
  | nil | d (e : E) (as : As) | o (i : Nat) (as : As)
inductive OE where
  | no | so (e : E)
inductive T where
  | val (e : E) | tru (e : E) | truo (i : Nat) | and (a b : T) | or (a b : T) | not (a : T)
inductive Ts where
  | nil | one (t : T)
inductive It where
  | lst (e : E) | tup (e : E) | str (e : E) | r1 (a : E) | r2 (a b : E) | own (i : Nat)
end
/-- what makes a new container of ours -/
inductive F where
  | lst (es : Es) | dct (ps : List (D × E)) | call (f : Nat) (as : As)
inductive Fl where
  | nxt | brk | cnt | ret (r : Sl)
mutual
inductive S_ where
  | asg (p : Pt) (e : E) | own (i : Nat) (f : F) | aug (i : Nat) (o : Op2) (e : E)
  | app (i : Nat) (e : E) | dset (i : Nat) (k v : E)
  | drop (e : E) | ite (t : T) (a b : Ss) | for_ (p : Pt) (it : It) (b : Ss) | whl (t : T) (b : Ss)
  | ret (e : E) | retn | retf (f : F) | reto (i : Nat) | brk | cnt | pass | nev
  | rs (c : Nat) (a b : E) | try_ (b : Ss) (hs : Hs)
inductive Ss where
  | nil | cons (s : S_) (r : Ss)
inductive Hs where
  | nil | cons (c i : Nat) (b : Ss) (r : Hs)
end

/-! ### the evaluator -/
inductive Cr where
  | no | ok (r : Sl) (as : En) | er (x : Er) (as : En)
structure Cn where
  call : Nat → En → Cr
  gl : Nat → Option D
  sub : Nat → Nat → Option Bool := fun _ _ => none
  ex : Option Er := none
def subAny (c : Cn) (x : Nat) : List Nat → Option Bool
  | [] => some false
  | y :: r => match c.sub x y with
    | some true => some true
    | some false => subAny c x r
    | none => none
def setAll (ε : En) : List Nat → En → En
  | i :: is, s :: ss => setAll (ε.set i s) is ss
  | _, _ => ε
def Pt.js : Pt → List Nat
  | .nm j => [j]
  | .tp js => js
def Pt.run (p : Pt) (d : D) (ε : En) : R Unit :=
  match p with
  | .nm j => match ε[j]? with
    | some (.ow _) => .no
    | some _ => .ok () (ε.set j (.da d))
    | none => .no
  | .tp js => match d with
    | .tup ds => if ds.length = js.length ∧ (js.all fun j => match ε[j]? with | some (.ow _) => false | some _ => true | none => false) = true then .ok () (setAll ε js (ds.map .da)) else .no
    | _ => .no
def rngD (a b : Int) : List D := (List.range (b - a).toNat).map fun (i : Nat) => D.int (a + (i : Int))
def small (i : Int) : Bool := decide (-(2 ^ 62) ≤ i) && decide (i < 2 ^ 62)
/-- the arguments as they stand: data, or slots of ours -/
def resolve (ε : En) : List (Sum D Nat) → Option En
  | [] => some []
  | .inl d :: r => (resolve ε r).map (.da d :: ·)
  | .inr i :: r => match ε[i]? with
    | some (.ow c) => (resolve ε r).map (.ow c :: ·)
    | _ => none
def refsOf : List (Sum D Nat) → List Nat
  | [] => []
  | .inl _ :: r => refsOf r
  | .inr i :: r => i :: refsOf r
/-- our slots as the call leaves them -/
def putBack (ε : En) : List (Sum D Nat) → En → En
  | .inl _ :: r, _ :: as => putBack ε r as
  | .inr i :: r, s :: as => putBack (ε.set i s) r as
  | _, _ => ε
def keepOw : En → En → Bool
  | [], _ => true
  | _ :: _, [] => false
  | s :: ss, t :: ts => (match s, t with
    | .ow _, .ow _ => true
    | .ow _, _ => false
    | _, _ => true) && keepOw ss ts
def callR (c : Cn) (f : Nat) (as : List (Sum D Nat)) (ε : En) : R Sl :=
  if (refsOf as).Nodup then
    match resolve ε as with
    | none => .no
    | some ss => match c.call f ss with
      | .no => .no
      | .ok r as' => if keepOw ss as' then .ok r (putBack ε as as') else .no
      | .er x as' => if keepOw ss as' then .er x (putBack ε as as') else .no
  else .no
def wipeE (ε : En) : List Nat → En
  | [] => ε
  | v :: vs => (wipeE ε vs).set v .no
/-- behind a comprehension: its own slots as they were -/
def backE (ε ε' : En) : List Nat → En
  | [] => ε'
  | v :: vs => (backE ε ε' vs).set v (ε.getD v .no)
def lcRun (p : Pt) (t : En → R Bool) (e : En → R D) (own : List Nat) : List D → En → List D → R (List D)
  | [], ε, acc => .ok acc ε
  | d :: ds, ε, acc => (p.run d ε).bind fun _ ε1 => (t ε1).noEr.bind fun b ε2 =>
    if b then (e ε2).noEr.bind fun y ε3 => if acc.length < 16777216 then lcRun p t e own ds (wipeE ε3 own) (acc ++ [y]) else .no
    else lcRun p t e own ds (wipeE ε2 own) acc
mutual
def E.run (c : Cn) (io : List Nat) : E → En → R D
  | .var i, ε => match ε[i]? with
    | some (.da d) => .ok d ε
    | _ => .no
  | .frz i, ε => if i ∈ io then .no else match ε[i]? with
    | some (.ow (.ls ds)) => .ok (.lst ds) (ε.set i (.da (.lst ds)))
    | some (.da d) => .ok d ε
    | _ => .no
  | .cst d, ε => if flat d then .ok d ε else match d with
    | .ty n => .ok (.ty n) ε
    | _ => .no
  | .glb x, ε => R.of ε (c.gl x)
  | .op2 o a b, ε => (a.run c io ε).bind fun x ε1 => (b.run c io ε1).bind fun y ε2 => R.of ε2 (o.run x y)
  | .o2l o i b, ε => if hasV ε i then (b.run c io ε).bind fun y ε2 => R.of ε2 ((getL ε2 i).bind fun x => o.run x y) else .no
  | .o2r o a i, ε => (a.run c io ε).bind fun x ε2 => R.of ε2 ((getL ε2 i).bind fun y => o.run x y)
  | .neg a, ε => (a.run c io ε).bind fun x ε1 => match x with
    | .int i => .ok (.int (-i)) ε1
    | _ => .no
  | .chain o o' a b e, ε => (a.run c io ε).bind fun x ε1 => (b.run c io ε1).bind fun y ε2 => match o.run x y with
    | some (.bl true) => (e.run c io ε2).bind fun z ε3 => R.of ε3 (o'.run y z)
    | some (.bl false) => .ok (.bl false) ε2
    | _ => .no
  | .and a b, ε => (a.run c io ε).bind fun x ε1 => match truD x with
    | some true => b.run c io ε1
    | some false => .ok x ε1
    | none => .no
  | .or a b, ε => (a.run c io ε).bind fun x ε1 => match truD x with
    | some true => .ok x ε1
    | some false => b.run c io ε1
    | none => .no
  | .not a, ε => (a.run c io ε).bind fun x ε1 => R.of ε1 ((truD x).map fun b => .bl (!b))
  | .ite t a b, ε => (t.run c io ε).bind fun k ε1 => if k then a.run c io ε1 else b.run c io ε1
  | .tup es, ε => (es.run c io ε).bind fun xs ε1 => if xs.length ≤ 16777216 then .ok (.tup xs) ε1 else .no
  | .lst es, ε => (es.run c io ε).bind fun xs ε1 => if xs.length ≤ 16777216 then .ok (.lst xs) ε1 else .no
  | .bif b es, ε => (es.run c io ε).bind fun xs ε1 => R.of ε1 (b.run xs)
  | .bifo b i es, ε => if hasV ε i then (es.run c io ε).bind fun xs ε1 => R.of ε1 ((getL ε1 i).bind fun x => b.run (x :: xs)) else .no
  | .mth m o es, ε => (o.run c io ε).bind fun x ε1 => match x with
    | .str l => (es.run c io ε1).bind fun xs ε2 => R.of ε2 (m.run l xs)
    | _ => .no
  | .slc a lo hi, ε => (a.run c io ε).bind fun x ε1 => (lo.run c io ε1).bind fun l ε2 => (hi.run c io ε2).bind fun h ε3 => R.of ε3 (sliceD x l h)
  | .slo i lo hi, ε => if hasV ε i then (lo.run c io ε).bind fun l ε2 => (hi.run c io ε2).bind fun h ε3 => R.of ε3 ((getL ε3 i).bind fun x => sliceD x l h) else .no
  | .call f as, ε => (as.run c io ε).bind fun xs ε1 => (callR c f xs ε1).bind fun r ε2 => match r with
    | .da d => .ok d ε2
    | _ => .no
  | .dix i e, ε => if isOw ε i then (e.run c io ε).bind fun k ε1 => R.of ε1 ((getD' ε1 i).bind fun kvs => (kyD k).bind fun k => lookK kvs k) else .no
  | .lc own p it t e, ε => (it.run c io ε).bind fun ds ε1 =>
    if (own.all fun j => match ε1[j]? with | some (.ow _) => false | some _ => true | none => false) = true ∧ (p.js.all fun j => own.contains j) = true then
      (lcRun p (t.run c io) (e.run c io) own ds (wipeE ε1 own) []).noEr.bind fun ys ε2 => .ok (.lst ys) (backE ε1 ε2 own)
    else .no
  | .xf k i, ε => match c.ex, ε[i]? with
    | some x, some .ex => R.of ε x.fs[k]?
    | _, _ => .no
  | .xi i y, ε => match c.ex, ε[i]? with
    | some x, some .ex => R.of ε ((c.sub x.c y).map .bl)
    | _, _ => .no
  | .xt i ys, ε => match c.ex, ε[i]? with
    | some x, some .ex => if ys.length ≤ 1000 then R.of ε ((subAny c x.c ys).map .bl) else .no
    | _, _ => .no
def Es.run (c : Cn) (io : List Nat) : Es → En → R (List D)
  | .nil, ε => .ok [] ε
  | .cons e es, ε => (e.run c io ε).bind fun x ε1 => (es.run c io ε1).bind fun xs ε2 => .ok (x :: xs) ε2
def As.run (c : Cn) (io : List Nat) : As → En → R (List (Sum D Nat))
  | .nil, ε => .ok [] ε
  | .d e as, ε => (e.run c io ε).bind fun x ε1 => (as.run c io ε1).bind fun xs ε2 => .ok (.inl x :: xs) ε2
  | .o i as, ε => if isOw ε i then (as.run c io ε).bind fun xs ε2 => .ok (.inr i :: xs) ε2 else .no
def OE.run (c : Cn) (io : List Nat) : OE → En → R (Option Int)
  | .no, ε => .ok none ε
  | .so e, ε => (e.run c io ε).bind fun x ε1 => match x with
    | .int i => .ok (some i) ε1
    | _ => .no
def T.run (c : Cn) (io : List Nat) : T → En → R Bool
  | .val e, ε => (e.run c io ε).bind fun x ε1 => match x with
    | .bl b => .ok b ε1
    | _ => .no
  | .tru e, ε => (e.run c io ε).bind fun x ε1 => R.of ε1 (truD x)
  | .truo i, ε => R.of ε ((getL ε i).bind truD)
  | .and a b, ε => (a.run c io ε).bind fun k ε1 => if k then b.run c io ε1 else .ok false ε1
  | .or a b, ε => (a.run c io ε).bind fun k ε1 => if k then .ok true ε1 else b.run c io ε1
  | .not a, ε => (a.run c io ε).bind fun k ε1 => .ok (!k) ε1
def Ts.run (c : Cn) (io : List Nat) : Ts → En → R Bool
  | .nil, ε => .ok true ε
  | .one t, ε => t.run c io ε
def It.run (c : Cn) (io : List Nat) : It → En → R (List D)
  | .lst e, ε => (e.run c io ε).bind fun x ε1 => match x with
    | .lst ds => .ok ds ε1
    | .fls ds => .ok ds ε1
    | _ => .no
  | .tup e, ε => (e.run c io ε).bind fun x ε1 => match x with
    | .tup ds => .ok ds ε1
    | _ => .no
  | .str e, ε => (e.run c io ε).bind fun x ε1 => match x with
    | .str l => .ok (l.map fun c => .str [c]) ε1
    | _ => .no
  | .r1 a, ε => (a.run c io ε).bind fun x ε1 => match x with
    | .int i => if small i then .ok (rngD 0 i) ε1 else .no
    | _ => .no
  | .r2 a b, ε => (a.run c io ε).bind fun x ε1 => (b.run c io ε1).bind fun y ε2 => match x, y with
    | .int i, .int j => if small i && small j then .ok (rngD i j) ε2 else .no
    | _, _ => .no
  | .own i, ε => if i ∈ io then .no else match ε[i]? with
    | some (.ow (.ls ds)) => .ok ds (ε.set i (.da (.lst ds)))
    | _ => .no
end
def pairsRun (c : Cn) (io : List Nat) : List (D × E) → En → R (List (Ky × D))
  | [], ε => .ok [] ε
  | (k, e) :: r, ε => match kyD k with
    | none => .no
    | some k => (e.run c io ε).bind fun x ε1 => (pairsRun c io r ε1).bind fun xs ε2 => .ok ((k, x) :: xs) ε2
def F.run (c : Cn) (io : List Nat) : F → En → R Ct
  | .lst es, ε => (es.run c io ε).bind fun xs ε1 => if xs.length ≤ 16777216 then .ok (.ls xs) ε1 else .no
  | .dct ps, ε => (pairsRun c io ps ε).bind fun kvs ε1 => if kvs.length ≤ 15 then .ok (.dk (kvs.foldl (fun a p => putKy a p.1 p.2) [])) ε1 else .no
  | .call f as, ε => (as.run c io ε).bind fun xs ε1 => (callR c f xs ε1).bind fun r ε2 => match r with
    | .ow ct => .ok ct ε2
    | _ => .no
def forRun (p : Pt) (b : En → R Fl) : List D → En → R Fl
  | [], ε => .ok .nxt ε
  | d :: ds, ε => (p.run d ε).bind fun _ ε1 => (b ε1).bind fun fl ε2 => match fl with
    | .nxt => forRun p b ds ε2
    | .cnt => forRun p b ds ε2
    | .brk => .ok .nxt ε2
    | .ret r => .ok (.ret r) ε2
def whlRun (t : En → R Bool) (b : En → R Fl) : Nat → En → R Fl
  | 0, _ => .no
  | n + 1, ε => (t ε).bind fun k ε1 => if k then (b ε1).bind fun fl ε2 => match fl with
    | .nxt => whlRun t b n ε2
    | .cnt => whlRun t b n ε2
    | .brk => .ok .nxt ε2
    | .ret r => .ok (.ret r) ε2
    else .ok .nxt ε1
def WF : Nat := 100000000
mutual
def S_.run (c : Cn) (io : List Nat) : S_ → En → R Fl
  | .asg p e, ε => (e.run c io ε).bind fun x ε1 => (p.run x ε1).bind fun _ ε2 => .ok .nxt ε2
  | .own i f, ε => if i ∈ io then .no else (f.run c io ε).bind fun ct ε1 => if i < ε1.length then .ok .nxt (ε1.set i (.ow ct)) else .no
  | .aug i o e, ε => match ε[i]? with
    | some (.da (.int a)) => (e.run c io ε).bind fun y ε1 => match ε1[i]?, y with
      | some (.da _), .int b => match o with
        | .add => .ok .nxt (ε1.set i (.da (.int (a + b))))
        | .sub => .ok .nxt (ε1.set i (.da (.int (a - b))))
        | _ => .no
      | _, _ => .no
    | _ => .no
  | .app i e, ε => match ε[i]? with
    | some (.ow (.ls _)) => (e.run c io ε).bind fun x ε1 => match ε1[i]? with
      | some (.ow (.ls ds)) => if ds.length < 16777216 then .ok .nxt (ε1.set i (.ow (.ls (ds ++ [x])))) else .no
      | _ => .no
    | _ => .no
  | .dset i k v, ε => (v.run c io ε).bind fun x ε1 => if isOw ε1 i then (k.run c io ε1).bind fun y ε2 => match kyD y with
      | none => .no
      | some ky => match ε2[i]? with
        | some (.ow (.dk kvs)) => if kvs.length < 16777216 then .ok .nxt (ε2.set i (.ow (.dk (putKy kvs ky x)))) else .no
        | _ => .no
    else .no
  | .drop e, ε => (e.run c io ε).bind fun _ ε1 => .ok .nxt ε1
  | .ite t a b, ε => (t.run c io ε).bind fun k ε1 => if k then a.run c io ε1 else b.run c io ε1
  | .for_ p it b, ε => (it.run c io ε).bind fun ds ε1 => forRun p (b.run c io) ds ε1
  | .whl t b, ε => whlRun (t.run c io) (b.run c io) WF ε
  | .ret e, ε => (e.run c io ε).bind fun x ε1 => .ok (.ret (.da x)) ε1
  | .retn, ε => .ok (.ret (.da .non)) ε
  | .retf f, ε => (f.run c io ε).bind fun ct ε1 => .ok (.ret (.ow ct)) ε1
  | .reto i, ε => if i ∈ io then .no else match ε[i]? with
    | some (.ow ct) => .ok (.ret (.ow ct)) ε
    | _ => .no
  | .brk, ε => .ok .brk ε
  | .cnt, ε => .ok .cnt ε
  | .pass, ε => .ok .nxt ε
  | .nev, _ => .no
  | .rs y a b, ε => (a.run c io ε).bind fun x1 ε1 => (b.run c io ε1).bind fun x2 ε2 => match x1, x2 with
    | .int i, .int j => if c.sub y y = some true then .er ⟨y, [.int i, .int j]⟩ ε2 else .no
    | _, _ => .no
  | .try_ b hs, ε => match b.run c io ε with
    | .er x ε1 => hs.run c io x ε1
    | r => r
def Ss.run (c : Cn) (io : List Nat) : Ss → En → R Fl
  | .nil, ε => .ok .nxt ε
  | .cons s r, ε => (s.run c io ε).bind fun fl ε1 => match fl with
    | .nxt => r.run c io ε1
    | fl => .ok fl ε1
def Hs.run (c : Cn) (io : List Nat) : Hs → Er → En → R Fl
  | .nil, x, ε => .er x ε
  | .cons y i b r, x, ε => match c.ex, c.sub x.c y with
    | none, some true => if i ∈ io then .no else match ε[i]? with
      | some (.ow _) => .no
      | some _ => match b.run { c with ex := some x } io (ε.set i .ex) with
        | .ok fl ε' => .ok fl (ε'.set i .no)
        | _ => .no
      | none => .no
    | none, some false => r.run c io x ε
    | _, _ => .no
end
/-- a def: how many slots, which parameters are ours, its body -/
structure Fn where
  n : Nat
  ps : Nat
  io : List Nat
  body : Ss
def outs (io : List Nat) (as ε : En) : En := (List.range as.length).map fun i => if i ∈ io then ε.getD i .no else as.getD i .no
/-- a program's part: names of its defs, their codes, constants, builtins that it leaves alone -/
structure Modu where
  fns : List Str
  code : List Fn
  cons : List Str
  vals : List D
  blts : List Str
  clss : List Str := []
  subs : List (List Bool) := []
  mks : List Str := []
  f1 : Str := ""
  f2 : Str := "x"
def Modu.sub (m : Modu) (i j : Nat) : Option Bool := (m.subs[i]?).bind fun r => r[j]?
/-- which arguments are ours -/
def ioOk (io : List Nat) (as : En) : Bool := (io.all fun i => isOw as i) && (List.range as.length).all fun i => !isOw as i || io.contains i
/-- a call of a def, the calls within by c -/
def runF (c : Cn) (fn : Fn) (as : En) : Cr :=
  if as.length = fn.ps ∧ ioOk fn.io as = true then
    match fn.body.run c fn.io (as ++ List.replicate (fn.n - fn.ps) .no) with
    | .no => .no
    | .er x ε => .er x (outs fn.io as ε)
    | .ok fl ε => match fl with
      | .ret r => .ok r (outs fn.io as ε)
      | .nxt => .ok (.da .non) (outs fn.io as ε)
      | _ => .no
  else .no
/-- a table of defs, called at most so deep -/
def callN (gl : Nat → Option D) (sb : Nat → Nat → Option Bool) (tab : Nat → Option Fn) : Nat → Nat → En → Cr
  | 0, _, _ => .no
  | n + 1, f, as => match tab f with
    | none => .no
    | some fn => runF { call := callN gl sb tab n, gl := gl, sub := sb } fn as
end Mp
/-! A mini language over HandS, 5: states, steps, readings. -/
namespace Mp
open PySem L2 Evl
open SX (S S_len S_cat S_inj)

/-! ### states -/
def Rpk (K : PySem.W.Frag) (G : Hp) (kvs : List (Ky × D)) (kv : List (Key × V)) : Prop := kv.map (·.1) = kvs.map (fun p => Ky.k p.1) ∧ Rps K G (kvs.map (·.2)) (kv.map (·.2))
def HC (K : PySem.W.Frag) (G H : Hp) (p : Addr) : Ct → Prop
  | .ls ds => ∃ vs, H p = some (.lst vs) ∧ Rps K G ds vs
  | .dk kvs => ∃ kv, H p = some (.dK kv) ∧ Rpk K G kvs kv
section
variable {K : PySem.W.Frag} {G G' H H' G1 G2 H1 H2 : Hp}
theorem HC.mono {p : Addr} {c : Ct} (e : Ex G G') (hp : H' p = H p) (h : HC K G H p c) : HC K G' H' p c := by
  cases c with
  | ls ds =>
    obtain ⟨vs, h1, h2⟩ := h
    exact ⟨vs, hp.trans h1, Rps.mono e _ _ h2⟩
  | dk kvs =>
    obtain ⟨kv, h1, h2, h3⟩ := h
    exact ⟨kv, hp.trans h1, h2, Rps.mono e _ _ h3⟩
theorem HC.some {p : Addr} {c : Ct} (h : HC K G H p c) : ∃ o, H p = some o := by
  cases c with
  | ls ds => obtain ⟨vs, h1, _⟩ := h; exact ⟨_, h1⟩
  | dk kvs => obtain ⟨kv, h1, _⟩ := h; exact ⟨_, h1⟩
/-- what stays as it is in a def's body: the parameters of ours; in a clause behind a try, the error's slot and place; what is frozen from the start -/
structure Pin where
  l : List (Nat × Addr)
  xi : Nat := 0
  xa : Option Addr := none
  g0 : Hp := fun _ => none
abbrev Pin.nil : Pin := { l := [] }
structure Ok (K : PySem.W.Frag) (pn : Pin) (σ : L2.St) (ε : En) (G H : Hp) : Prop where
  ex : Ex G H
  len : ε.length = σ.length
  da : ∀ (i : Nat) (d : D), ε[i]? = some (.da d) → ∃ v, σ[i]? = some (some v) ∧ Rp K G d v
  ow : ∀ (i : Nat) (c : Ct), ε[i]? = some (.ow c) → ∃ p, σ[i]? = some (some (.ref p)) ∧ G p = none ∧ HC K G H p c
  ap : ∀ (i j : Nat) (c c' : Ct) (p : Addr), i ≠ j → ε[i]? = some (.ow c) → ε[j]? = some (.ow c') → σ[i]? = some (some (.ref p)) → σ[j]? ≠ some (some (.ref p))
  pin : ∀ q ∈ pn.l, σ[q.1]? = some (some (.ref q.2)) ∧ ∃ c, ε[q.1]? = some (.ow c)
  px : ∀ i : Nat, ε[i]? = some .ex → i = pn.xi ∧ ∃ a, pn.xa = some a ∧ σ[i]? = some (some (.ref a))
  g0 : Ex pn.g0 G
def own (σ : L2.St) (ε : En) (a : Addr) : Prop := ∃ (i : Nat) (c : Ct), ε[i]? = some (.ow c) ∧ σ[i]? = some (some (.ref a))
/-- an object that is no error's dict -/
def Lv (o : Option HO) : Prop := o ≠ none ∧ ∀ fs, o ≠ some (.xd fs)
theorem lv_lst {vs : List V} : Lv (some (.lst vs)) := ⟨(fun z => nomatch z), fun _ z => nomatch z⟩
theorem lv_dk {kv : List (Key × V)} : Lv (some (.dK kv)) := ⟨(fun z => nomatch z), fun _ z => nomatch z⟩
theorem HC.lv {p : Addr} {c : Ct} (h : HC K G H p c) : Lv (H p) := by
  cases c with
  | ls ds => obtain ⟨vs, h1, _⟩ := h; rw [h1]; exact lv_lst
  | dk kvs => obtain ⟨kv, h1, _⟩ := h; rw [h1]; exact lv_dk
structure Aft (K : PySem.W.Frag) (pn : Pin) (σ : L2.St) (ε : En) (G H : Hp) (σ' : L2.St) (ε' : En) (G' H' : Hp) : Prop where
  ok : Ok K pn σ' ε' G' H'
  g : Ex G G'
  h : ∀ a o, ¬ own σ ε a → H a = some o → H' a = some o
  f : ∀ a, ¬ own σ ε a → G a = none → Lv (H a) → G' a = none
  w : ∀ a, own σ' ε' a → own σ ε a ∨ H a = none
variable {pn : Pin} {σ σ1 σ2 : L2.St} {ε ε1 ε2 : En}
theorem Aft.refl (o : Ok K pn σ ε G H) : Aft K pn σ ε G H σ ε G H := ⟨o, Ex.refl G, fun _ _ _ e => e, fun _ _ e _ => e, fun _ e => .inl e⟩
theorem Aft.trans (a : Aft K pn σ ε G H σ1 ε1 G1 H1) (b : Aft K pn σ1 ε1 G1 H1 σ2 ε2 G2 H2) : Aft K pn σ ε G H σ2 ε2 G2 H2 := by
  have up : ∀ x o, ¬ own σ ε x → H x = some o → ¬ own σ1 ε1 x := fun x o n e z => by
    rcases a.w x z with z | z
    · exact n z
    · rw [e] at z; cases z
  refine ⟨b.ok, a.g.trans b.g, fun x o n e => b.h x o (up x o n e) (a.h x o n e), fun x n g e => ?_, fun x z => ?_⟩
  · cases q : H x with
    | none => exact absurd q e.1
    | some o =>
      exact b.f x (up x o n q) (a.f x n g e) (by rw [a.h x o n q, ← q]; exact e)
  · rcases b.w x z with z | z
    · exact a.w x z
    · by_cases n : own σ ε x
      · exact .inl n
      · refine .inr ?_
        cases q : H x with
        | none => rfl
        | some o => rw [a.h x o n q] at z; cases z
theorem Ok.pu (o : Ok K pn σ ε G H) (p : Pu G H G' H') : Ok K pn σ ε G' H' := by
  refine ⟨p.i, o.len, fun i d e => ?_, fun i c e => ?_, o.ap, o.pin, o.px, o.g0.trans p.g⟩
  · obtain ⟨v, h1, h2⟩ := o.da i d e
    exact ⟨v, h1, Rp.mono p.g d v h2⟩
  · obtain ⟨a, h1, h2, h3⟩ := o.ow i c e
    obtain ⟨u, hu⟩ := h3.some
    exact ⟨a, h1, p.f a h2 (by rw [hu]; exact fun z => nomatch z), h3.mono p.g ((p.h a u hu).trans hu.symm)⟩
theorem Aft.pu (o : Ok K pn σ ε G H) (p : Pu G H G' H') : Aft K pn σ ε G H σ ε G' H' :=
  ⟨o.pu p, p.g, fun a u _ e => p.h a u e, fun a _ g e => p.f a g e.1, fun _ e => .inl e⟩
theorem Ok.ownG (o : Ok K pn σ ε G H) {a : Addr} (w : own σ ε a) : G a = none ∧ ∃ u, H a = some u := by
  obtain ⟨i, c, h1, h2⟩ := w
  obtain ⟨p, h3, h4, h5⟩ := o.ow i c h1
  rw [h2] at h3
  cases h3
  exact ⟨h4, h5.some⟩
theorem Ok.lst (o : Ok K pn σ ε G H) {i : Nat} {d : D} (h : getL ε i = some d) : ∃ v, σ[i]? = some (some v) ∧ Rq K G H d v := by
  unfold getL at h
  split at h
  · rename_i ds e
    cases Option.some.inj h
    obtain ⟨p, h1, h2, vs, h3, h4⟩ := o.ow i _ e
    exact ⟨_, h1, .inr ⟨_, p, vs, rfl, rfl, h3, h4⟩⟩
  · rename_i d' e
    cases Option.some.inj h
    obtain ⟨v, h1, h2⟩ := o.da i _ e
    exact ⟨v, h1, .inl h2⟩
  · cases h

/-! ### what is to be shown behind a part -/
structure Rc where
  K : PySem.W.Frag
  call : Nat → En → Cr
  gv : Nat → V
  ar : Nat → Nat
  ca : Nat → Addr := fun _ => default
  nc : Nat := 0
  f1 : Str := ""
  f2 : Str := ""
  xc : Value := .none
  xd : Option Addr := none
  xa : Addr := default
/-- how an error lies -/
def Rc.xr (Z : Rc) (x : Er) (cls : Value) (d : Option Addr) (H : Hp) : Prop := x.c < Z.nc ∧ cls = .ref (Z.ca x.c) ∧ ∃ (dd : Addr) (i j : Int), d = some dd ∧ x.fs = [.int i, .int j] ∧ H dd = some (.xd [(Z.f2, .int j), (Z.f1, .int i)])
def Rc.at_ (Z : Rc) (a : Addr) (cls : Value) (d : Option Addr) : Rc := { Z with xa := a, xc := cls, xd := d }
def Post (Z : Rc) (W : WX) (pn : Pin) (σ : L2.St) (ε : En) (G H : Hp) {α β : Type} (P : α → β → Hp → Prop) (Q : β → Hp → Prop) : R α → Prop
  | .no => False
  | .ok a ε' => ∀ b G' H', Aft Z.K pn σ ε G H σ ε' G' H' → P a b G' → Q b H'
  | .er x ε' => ∀ cls d G' H', Aft Z.K pn σ ε G H σ ε' G' H' → Z.xr x cls d H' → W cls d σ H'
variable {Z : Rc} {W : WX} {α β α' β' : Type} {P : α → β → Hp → Prop} {P' : α' → β' → Hp → Prop} {Q : β → Hp → Prop} {Q' : β' → Hp → Prop}
theorem Post.shift (a : Aft Z.K pn σ ε G H σ ε1 G1 H1) {r : R α} (h : Post Z W pn σ ε G H P Q r) : Post Z W pn σ ε1 G1 H1 P Q r := by
  cases r with
  | no => exact h
  | ok x ε' => exact fun b G' H' z p => h b G' H' (a.trans z) p
  | er x ε' => exact fun cls d G' H' z p => h cls d G' H' (a.trans z) p
theorem Post.bind {r : R α} {f : α → En → R α'} (h : Post Z W pn σ ε G H P' Q' (r.bind f))
    (k : ∀ a ε1 b G1 H1, Aft Z.K pn σ ε G H σ ε1 G1 H1 → P a b G1 → Post Z W pn σ ε1 G1 H1 P' Q' (f a ε1) → Q b H1) : Post Z W pn σ ε G H P Q r := by
  cases r with
  | no => exact h
  | ok a ε1 => exact fun b G1 H1 z p => k a ε1 b G1 H1 z p (Post.shift z h)
  | er x ε1 => exact h
theorem Post.of {o : Ok Z.K pn σ ε G H} {x : Option α} (h : Post Z W pn σ ε G H P Q (R.of ε x)) : ∃ a, x = some a ∧ ∀ b G' H', Pu G H G' H' → P a b G' → Q b H' := by
  cases x with
  | none => exact h.elim
  | some a => exact ⟨a, rfl, fun b G' H' p q => h b G' H' (Aft.pu o p) q⟩
theorem Post.okk {o : Ok Z.K pn σ ε G H} {a : α} (h : Post Z W pn σ ε G H P Q (.ok a ε)) {b : β} (p : P a b G) : Q b H := h b G H (Aft.refl o) p

/-! ### readings -/
def vD : D → V
  | .bl b => .bl b
  | .int i => .int i
  | .str l => .str (S l)
  | .ty n => .ty n
  | _ => .non
def RetOk (K : PySem.W.Frag) (H G' H' : Hp) (r : Sl) (v : V) : Prop :=
  match r with
  | .da d => Rp K G' d v
  | .ow ct => ∃ p, v = .ref p ∧ H p = none ∧ G' p = none ∧ HC K G' H' p ct
  | .no => False
  | .ex => False
/-- the promise of a def -/
def spC (Z : Rc) (f : Nat) : Sp := fun vs H Q E => vs.length = Z.ar f ∧ ∃ G as, Ok Z.K Pin.nil (vs.map some) as G H ∧ match Z.call f as with
  | .no => False
  | .ok r as' => ∀ v G' H', Aft Z.K Pin.nil (vs.map some) as G H (vs.map some) as' G' H' → RetOk Z.K H G' H' r v → Q v H'
  | .er x as' => ∀ cls d G' H', Aft Z.K Pin.nil (vs.map some) as G H (vs.map some) as' G' H' → Z.xr x cls d H' → E cls d H'
def tTru (K : PySem.W.Frag) (ta : TE) : TT := fun σ H Q => ta σ H fun x H' => ∃ k, TruV K x H' k ∧ Q k H'
def gNames : List Nat → TGs
  | [] => gNil
  | j :: js => gCons (gName j) (gNames js)
def Pt.rd (K : PySem.W.Frag) : Pt → TG
  | .nm j => gName j
  | .tp js => gTup K js.length (gNames js)
abbrev W0 : WX := fun _ _ _ _ => False
def clsA (Z : Rc) : List Nat → TA
  | [] => tNil
  | c :: r => tCons (tC (.ref (Z.ca c))) (clsA Z r)
def Rc.fld (Z : Rc) (k : Nat) : Str := if k = 0 then Z.f1 else Z.f2
mutual
def E.rd (Z : Rc) (W : WX) : E → TE
  | .var i => tVar i
  | .frz i => tVar i
  | .cst d => tC (vD d)
  | .glb x => tC (Z.gv x)
  | .op2 o a b => tOp (o.rd Z.K) (a.rd Z W) (b.rd Z W)
  | .o2l o i b => tOp (o.rd Z.K) (tVar i) (b.rd Z W)
  | .o2r o a i => tOp (o.rd Z.K) (a.rd Z W) (tVar i)
  | .neg a => tUn (rU fun i => .int (-i)) (a.rd Z W)
  | .chain o o' a b e => tChain (o.rd Z.K) (o'.rd Z.K) (a.rd Z W) (b.rd Z W) (e.rd Z W)
  | .and a b => tAndT Z.K (a.rd Z W) (b.rd Z W)
  | .or a b => tOrT Z.K (a.rd Z W) (b.rd Z W)
  | .not a => tNotT Z.K (a.rd Z W)
  | .ite t a b => tIf (t.rd Z W) (a.rd Z W) (b.rd Z W)
  | .tup es => tTup (es.rd Z W)
  | .lst es => tLst (es.rd Z W)
  | .bif b es => tCB (b.rd Z.K) (es.rd Z W)
  | .bifo b i es => tCB (b.rd Z.K) (tCons (tVar i) (es.rd Z W))
  | .mth m o es => tBM Z.K "str" (m.rd Z.K) (o.rd Z W) (es.rd Z W)
  | .slc a lo hi => tSl (rSl Z.K) (a.rd Z W) (lo.rd Z W) (hi.rd Z W)
  | .slo i lo hi => tSl (rSl Z.K) (tVar i) (lo.rd Z W) (hi.rd Z W)
  | .call f as => tCallSD (spC Z f) [] (fun σ cls d H => W cls d σ H) (as.rd Z W)
  | .dix i e => tDGet (tVar i) (e.rd Z W)
  | .lc own p it t e => tLc (it.rd Z W) (p.rd Z.K) (t.rd Z W0) (e.rd Z W0) own
  | .xf k i => fun σ H Q => ∃ y, y < Z.nc ∧ Z.xc = .ref (Z.ca y) ∧ tXf Z.xa Z.xc Z.xd (Z.ca y) (Z.fld k) (tVar i) σ H Q
  | .xi i y => tCB (rIsA Z.K Z.xa Z.xc Z.xd) (tCons (tVar i) (tCons (tC (.ref (Z.ca y))) tNil))
  | .xt i ys => tCB (rIsA Z.K Z.xa Z.xc Z.xd) (tCons (tVar i) (tCons (tTup (clsA Z ys)) tNil))
def Es.rd (Z : Rc) (W : WX) : Es → TA
  | .nil => tNil
  | .cons e es => tCons (e.rd Z W) (es.rd Z W)
def As.rd (Z : Rc) (W : WX) : As → TA
  | .nil => tNil
  | .d e as => tCons (e.rd Z W) (as.rd Z W)
  | .o i as => tCons (tVar i) (as.rd Z W)
def OE.rd (Z : Rc) (W : WX) : OE → TO
  | .no => tNoPart
  | .so e => tPart (e.rd Z W)
def T.rd (Z : Rc) (W : WX) : T → TT
  | .val e => tTest (e.rd Z W)
  | .tru e => tTru Z.K (e.rd Z W)
  | .truo i => tTru Z.K (tVar i)
  | .and a b => tAnd (a.rd Z W) (b.rd Z W)
  | .or a b => tOr (a.rd Z W) (b.rd Z W)
  | .not a => tNot (a.rd Z W)
def Ts.rd (Z : Rc) (W : WX) : Ts → TT
  | .nil => tYes
  | .one t => t.rd Z W
def It.rd (Z : Rc) (W : WX) : It → TI
  | .lst e => iList Z.K (e.rd Z W)
  | .tup e => iTup Z.K (e.rd Z W)
  | .str e => iStr (e.rd Z W)
  | .r1 a => iRng1 (tCons (a.rd Z W) tNil)
  | .r2 a b => iRng2 (tCons (a.rd Z W) (tCons (b.rd Z W) tNil))
  | .own i => iList Z.K (tVar i)
end
def pairsRd (Z : Rc) (W : WX) : List (D × E) → List (TE × TE)
  | [] => []
  | (k, e) :: r => (tC (vD k), e.rd Z W) :: pairsRd Z W r
def F.rd (Z : Rc) (W : WX) : F → TE
  | .lst es => tLst (es.rd Z W)
  | .dct ps => tDisp (pairsRd Z W ps)
  | .call f as => tCallSD (spC Z f) [] (fun σ cls d H => W cls d σ H) (as.rd Z W)
def augF : Op2 → Int → Int → Int
  | .sub => fun i j => i - j
  | _ => fun i j => i + j
mutual
def S_.rd (Z : Rc) (W : WX) : S_ → TS
  | .asg p e => tAsg (e.rd Z W) (p.rd Z.K)
  | .own i f => tAsg (f.rd Z W) (gName i)
  | .aug i o e => tAug i (e.rd Z W) (ipI (augF o))
  | .app i e => tDrop (tBM Z.K "list" rAppend (tVar i) (tCons (e.rd Z W) tNil))
  | .dset i k v => sDPut (tVar i) (k.rd Z W) (v.rd Z W)
  | .drop e => tDrop (e.rd Z W)
  | .ite t a b => tIfS (t.rd Z W) (a.rd Z W) (b.rd Z W)
  | .for_ p it b => tFor (it.rd Z W) (p.rd Z.K) (b.rd Z W)
  | .whl t b => tWhile (t.rd Z W) (b.rd Z W)
  | .ret e => tRet (e.rd Z W)
  | .retn => tRetN
  | .retf f => tRet (f.rd Z W)
  | .reto i => tRet (tVar i)
  | .brk => tBreak
  | .cnt => tCont
  | .pass => tNext
  | .nev => tNever
  | .rs y a b => fun _ σ H => tMkO (Z.ca y) (spXI Z.K Z.f1 Z.f2) [] (tCons (a.rd Z W) (tCons (b.rd Z W) tNil)) σ H fun cls d H' => W cls d σ H'
  | .try_ b hs => fun D σ H => b.rd Z (wAll Z.K W D (hs.rl Z)) D σ H
def Ss.rd (Z : Rc) (W : WX) : Ss → TS
  | .nil => tNext
  | .cons s r => tSeq (s.rd Z W) (r.rd Z W)
def Hs.rl (Z : Rc) : Hs → List (Value × Nat × TSX)
  | .nil => []
  | .cons y i b r => (.ref (Z.ca y), i, fun a cls d => b.rd (Z.at_ a cls d) W0) :: r.rl Z
end
end
end Mp
/-! A mini language over HandS, 6: what is run is told (expressions, tests, arguments). -/
namespace Mp
open PySem L2 Evl
open SX (S S_len S_cat S_inj)

section
variable {K : PySem.W.Frag} {G G' H H' G1 G2 H1 H2 : Hp} {pn : Pin} {σ σ1 σ2 : L2.St} {ε ε1 ε2 : En}
def VP (K : PySem.W.Frag) : D → V → Hp → Prop := fun d v G => Rp K G d v
def VPs (K : PySem.W.Frag) : List D → List V → Hp → Prop := fun d v G => Rps K G d v
def IdP {α : Type} : α → α → Hp → Prop := fun a b _ => a = b
/-- arguments: data, or the address of a slot of ours -/
def ArgP (K : PySem.W.Frag) (σ : L2.St) : List (Sum D Nat) → List V → Hp → Prop
  | [], vs, _ => vs = []
  | .inl d :: r, vs, G => ∃ v us, vs = v :: us ∧ Rp K G d v ∧ ArgP K σ r us G
  | .inr i :: r, vs, G => ∃ v us, vs = v :: us ∧ σ[i]? = some (some v) ∧ ArgP K σ r us G
theorem ArgP.mono (e : Ex G G') : ∀ (as : List (Sum D Nat)) (vs : List V), ArgP K σ as vs G → ArgP K σ as vs G'
  | [], _, h => h
  | .inl d :: r, _, h => by
    obtain ⟨v, us, h1, h2, h3⟩ := h
    exact ⟨v, us, h1, Rp.mono e d v h2, ArgP.mono e r us h3⟩
  | .inr i :: r, _, h => by
    obtain ⟨v, us, h1, h2, h3⟩ := h
    exact ⟨v, us, h1, h2, ArgP.mono e r us h3⟩

theorem Ok.isOw (o : Ok K pn σ ε G H) {i : Nat} (h : isOw ε i = true) : ∃ p, σ[i]? = some (some (V.ref p)) := by
  unfold Mp.isOw at h
  split at h
  · rename_i c e
    obtain ⟨p, h1, _⟩ := o.ow i c e
    exact ⟨p, h1⟩
  · cases h
theorem Ok.hasV (o : Ok K pn σ ε G H) {i : Nat} (h : hasV ε i = true) : ∃ v, σ[i]? = some (some v) := by
  unfold Mp.hasV at h
  split at h
  · rename_i c e
    obtain ⟨p, h1, _⟩ := o.ow i c e
    exact ⟨_, h1⟩
  · rename_i d e
    obtain ⟨v, h1, _⟩ := o.da i d e
    exact ⟨v, h1⟩
  · cases h
theorem len_set {ε : En} {i : Nat} {s : Sl} : (ε.set i s).length = ε.length := List.length_set
theorem Ok.getOw (o : Ok K pn σ ε G H) {i : Nat} {c : Ct} (e : ε[i]? = some (.ow c)) : ∃ p, σ[i]? = some (some (.ref p)) ∧ G p = none ∧ HC K G H p c ∧ own σ ε p := by
  obtain ⟨p, h1, h2, h3⟩ := o.ow i c e
  exact ⟨p, h1, h2, h3, i, c, e, h1⟩
theorem io_pin {pn : Pin} {i : Nat} (h : i ∉ pn.l.map (·.1)) {q : Nat × Addr} (hq : q ∈ pn.l) : q.1 ≠ i := fun e => h (List.mem_map.mpr ⟨q, hq, e⟩)
theorem ex_set {i j : Nat} {s : Sl} (hs : s ≠ .ex) (q : (ε.set i s)[j]? = some .ex) : ε[j]? = some .ex := by
  by_cases z : j = i
  · subst z
    by_cases hi : j < ε.length
    · rw [List.getElem?_set_self hi] at q
      exact absurd (Option.some.inj q) hs
    · rw [List.getElem?_eq_none (by rw [List.length_set]; omega)] at q
      cases q
  · rw [List.getElem?_set_ne (Ne.symm z)] at q
    exact q
/-- a list of ours is frozen -/
theorem Aft.frz (o : Ok K pn σ ε G H) {i : Nat} {ds : List D} (hio : i ∉ pn.l.map (·.1)) (e : ε[i]? = some (.ow (.ls ds))) : ∃ v G', σ[i]? = some (some v) ∧ Aft K pn σ ε G H σ (ε.set i (.da (.lst ds))) G' H ∧ Rp K G' (.lst ds) v := by
  obtain ⟨p, h1, h2, vs, h3, h4⟩ := o.ow i _ e
  have hi : i < ε.length := (List.getElem?_eq_some_iff.mp e).1
  have hw : own σ ε p := ⟨i, _, e, h1⟩
  have gx : Ex G (upd G p (.lst vs)) := Ex.new h2
  have hx : Ex (upd G p (.lst vs)) H := fun a u q => by
    by_cases z : a = p
    · subst z; rw [upd_same] at q; cases q; exact h3
    · rw [upd_ne z] at q; exact o.ex a u q
  have rp : Rp K (upd G p (.lst vs)) (.lst ds) (.ref p) := ⟨p, vs, rfl, upd_same, Rps.mono gx _ _ h4⟩
  have sub : ∀ (j : Nat) (c : Ct), (ε.set i (.da (.lst ds)))[j]? = some (.ow c) → j ≠ i ∧ ε[j]? = some (.ow c) := fun j c q => by
    by_cases z : j = i
    · subst z; rw [List.getElem?_set_self hi] at q; cases q
    · rw [List.getElem?_set_ne (Ne.symm z)] at q; exact ⟨z, q⟩
  refine ⟨.ref p, upd G p (.lst vs), h1, ⟨⟨hx, by rw [len_set]; exact o.len, fun j d q => ?_, fun j c q => ?_, fun j k c c' a hn q1 q2 q3 => o.ap j k c c' a hn (sub j c q1).2 (sub k c' q2).2 q3, fun q hq => ?_, fun j q => o.px j (ex_set (s := .da (.lst ds)) (fun z => nomatch z) q), o.g0.trans gx⟩, gx, fun a u _ q => q, fun a n g m => ?_, fun a w => ?_⟩, rp⟩
  · by_cases z : j = i
    · subst z
      rw [List.getElem?_set_self hi] at q
      cases q
      exact ⟨_, h1, rp⟩
    · rw [List.getElem?_set_ne (Ne.symm z)] at q
      obtain ⟨v, a, b⟩ := o.da j d q
      exact ⟨v, a, Rp.mono gx d v b⟩
  · obtain ⟨z, q⟩ := sub j c q
    obtain ⟨a, b1, b2, b3⟩ := o.ow j c q
    have na : a ≠ p := fun y => by
      subst y
      exact o.ap j i _ _ a z q e b1 h1
    exact ⟨a, b1, by rw [upd_ne na]; exact b2, b3.mono gx rfl⟩
  · obtain ⟨a, c, b⟩ := o.pin q hq
    exact ⟨a, c, by rw [List.getElem?_set_ne (Ne.symm (io_pin hio hq))]; exact b⟩
  · by_cases z : a = p
    · subst z; exact absurd hw n
    · rw [upd_ne z]; exact g
  · obtain ⟨j, c, q1, q2⟩ := w
    exact .inl ⟨j, c, (sub j c q1).2, q2⟩
theorem vD_rp {d : D} (h : flat d = true ∨ ∃ n, d = .ty n) : Rp K G d (vD d) := by
  rcases h with h | ⟨n, rfl⟩
  · cases d <;> first | (cases h; done) | exact rfl
  · exact rfl
theorem Ok.dict (o : Ok K pn σ ε G H) {i : Nat} {kvs : List (Ky × D)} (e : getD' ε i = some kvs) : ∃ p kv, σ[i]? = some (some (.ref p)) ∧ G p = none ∧ H p = some (.dK kv) ∧ Rpk K G kvs kv ∧ ε[i]? = some (.ow (.dk kvs)) := by
  unfold getD' at e
  split at e
  · rename_i es q
    cases Option.some.inj e
    obtain ⟨p, h1, h2, kv, h3, h4⟩ := o.ow i _ q
    exact ⟨p, kv, h1, h2, h3, h4, q⟩
  · cases e
theorem Ky.k_inj {a b : Ky} (h : a.k = b.k) : a = b := by
  cases a <;> cases b
  · cases h; rfl
  · cases h
  · cases h
  · rw [S_inj (Sum.inr.inj h)]
theorem kyD_rp {d : D} {k : Ky} {v : V} (h : kyD d = some k) (r : Rp K G d v) : v = kV k.k := by
  cases d <;> first
    | (cases h; done)
    | (cases Option.some.inj h; exact r)
theorem lookK_rp : ∀ (kvs : List (Ky × D)) (kv : List (Key × V)) (k : Ky) (d : D), Rpk K G kvs kv → lookK kvs k = some d → ∃ v, valV kv k.k = some v ∧ Rp K G d v
  | [], _, _, _, _, e => by cases e
  | (k', d') :: r, kv, k, d, h, e => by
    obtain ⟨h1, v, us, h2, h3, h4⟩ := h
    cases kv with
    | nil => cases h2
    | cons q qs =>
      rw [List.map_cons, List.map_cons] at h1
      rw [List.map_cons] at h2
      injection h1 with h1a h1b
      injection h2 with h2a h2b
      unfold lookK at e
      rw [List.find?_cons] at e
      by_cases z : k' = k
      · rw [decide_eq_true z] at e
        cases Option.some.inj e
        exact ⟨v, by rw [valV_pos (by rw [h1a, z]), h2a], h3⟩
      · rw [decide_eq_false z] at e
        have z2 : ¬ q.1 = k.k := fun y => z (Ky.k_inj (h1a.symm.trans y))
        obtain ⟨u, e1, e2⟩ := lookK_rp r qs k d ⟨h1b, by rw [h2b]; exact h4⟩ e
        exact ⟨u, by rw [valV_neg z2]; exact e1, e2⟩
end

/-! ### calls -/
section
variable {K : PySem.W.Frag} {G G' H H' G1 G2 H1 H2 : Hp} {pn : Pin} {σ σ1 σ2 : L2.St} {ε ε1 ε2 : En}
/-- the arguments' slots, as the callee sees them -/
theorem args_ok (o : Ok K pn σ ε G H) : ∀ (as : List (Sum D Nat)) (vs : List V) (ss : En), ArgP K σ as vs G → resolve ε as = some ss →
    ss.length = vs.length ∧ (∀ (j : Nat) (d : D), ss[j]? = some (.da d) → ∃ v, vs[j]? = some v ∧ Rp K G d v) ∧
    (∀ (j : Nat) (c : Ct), ss[j]? = some (.ow c) → ∃ (i : Nat) (p : Addr), as[j]? = some (.inr i) ∧ ε[i]? = some (.ow c) ∧ σ[i]? = some (some (.ref p)) ∧ vs[j]? = some (.ref p)) ∧
    (∀ (j : Nat) (i : Nat), as[j]? = some (.inr i) → ∃ c, ss[j]? = some (.ow c))
  | [], vs, ss, h, e => by
    cases h
    cases Option.some.inj e
    exact ⟨rfl, fun j d q => by simp at q, fun j c q => by simp at q, fun j i q => by simp at q⟩
  | .inl d :: r, vs, ss, h, e => by
    obtain ⟨v, us, rfl, h2, h3⟩ := h
    have e : (resolve ε r).map (Sl.da d :: ·) = some ss := e
    cases q : resolve ε r with
    | none => rw [q] at e; cases e
    | some ts =>
      rw [q] at e
      cases Option.some.inj e
      obtain ⟨i1, i2, i3, i4⟩ := args_ok o r us ts h3 q
      refine ⟨by rw [List.length_cons, List.length_cons, i1], fun j x z => ?_, fun j c z => ?_, fun j i z => ?_⟩
      · cases j with
        | zero => cases z; exact ⟨v, rfl, h2⟩
        | succ j => exact i2 j x z
      · cases j with
        | zero => cases z
        | succ j => exact i3 j c z
      · cases j with
        | zero => cases z
        | succ j => exact i4 j i z
  | .inr i :: r, vs, ss, h, e => by
    obtain ⟨v, us, rfl, h2, h3⟩ := h
    unfold resolve at e
    split at e
    · rename_i c he
      cases q : resolve ε r with
      | none => rw [q] at e; cases e
      | some ts =>
        rw [q] at e
        cases Option.some.inj e
        obtain ⟨i1, i2, i3, i4⟩ := args_ok o r us ts h3 q
        refine ⟨by rw [List.length_cons, List.length_cons, i1], fun j x z => ?_, fun j c' z => ?_, fun j k z => ?_⟩
        · cases j with
          | zero => cases z
          | succ j => exact i2 j x z
        · cases j with
          | zero =>
            cases z
            obtain ⟨p, p1, p2, p3⟩ := o.ow i c he
            rw [h2] at p1
            cases p1
            exact ⟨i, p, rfl, he, h2, rfl⟩
          | succ j => exact i3 j c' z
        · cases j with
          | zero => exact ⟨c, rfl⟩
          | succ j => exact i4 j k z
    · cases e
theorem refs_at : ∀ (as : List (Sum D Nat)) (j k i : Nat), (refsOf as).Nodup → as[j]? = some (.inr i) → as[k]? = some (.inr i) → j = k
  | [], _, _, _, _, e, _ => by simp at e
  | .inl d :: r, j, k, i, h, e1, e2 => by
    cases j with
    | zero => cases e1
    | succ j =>
      cases k with
      | zero => cases e2
      | succ k => rw [refs_at r j k i h e1 e2]
  | .inr x :: r, j, k, i, h, e1, e2 => by
    have hm : ∀ (r : List (Sum D Nat)) (k i : Nat), r[k]? = some (.inr i) → i ∈ refsOf r := by
      intro r
      induction r with
      | nil => intro k i z; simp at z
      | cons a r ih =>
        intro k i z
        cases a with
        | inl d =>
          cases k with
          | zero => cases z
          | succ k => exact ih k i z
        | inr y =>
          cases k with
          | zero => cases z; exact List.mem_cons_self
          | succ k => exact List.mem_cons_of_mem _ (ih k i z)
    obtain ⟨n1, n2⟩ := List.nodup_cons.mp (show (x :: refsOf r).Nodup from h)
    cases j with
    | zero =>
      cases e1
      cases k with
      | zero => rfl
      | succ k => exact absurd (hm r k _ e2) n1
    | succ j =>
      cases k with
      | zero => cases e2; exact absurd (hm r j _ e1) n1
      | succ k => rw [refs_at r j k i n2 e1 e2]
/-- our slots behind the call -/
theorem put_back : ∀ (as : List (Sum D Nat)) (ss : En) (ε : En), (refsOf as).Nodup → as.length = ss.length → (∀ i ∈ refsOf as, i < ε.length) →
    (putBack ε as ss).length = ε.length ∧ (∀ (i : Nat), i ∉ refsOf as → (putBack ε as ss)[i]? = ε[i]?) ∧ (∀ (j i : Nat), as[j]? = some (.inr i) → (putBack ε as ss)[i]? = ss[j]?)
  | [], ss, ε, _, _, _ => by
    have e : putBack ε [] ss = ε := by cases ss <;> rfl
    rw [e]
    exact ⟨rfl, fun _ _ => rfl, fun j i z => by simp at z⟩
  | .inl d :: r, [], ε, _, hl, _ => by cases hl
  | .inl d :: r, s :: ss, ε, hn, hl, hb => by
    obtain ⟨h1, h2, h3⟩ := put_back r ss ε hn (by simpa using hl) hb
    refine ⟨h1, h2, fun j i z => ?_⟩
    cases j with
    | zero => cases z
    | succ j => exact h3 j i z
  | .inr x :: r, [], ε, _, hl, _ => by cases hl
  | .inr x :: r, s :: ss, ε, hn, hl, hb => by
    obtain ⟨n1, n2⟩ := List.nodup_cons.mp (show (x :: refsOf r).Nodup from hn)
    obtain ⟨h1, h2, h3⟩ := put_back r ss (ε.set x s) n2 (by simpa using hl) (fun i hi => by rw [len_set]; exact hb i (List.mem_cons_of_mem _ hi))
    refine ⟨h1.trans len_set, fun i hi => ?_, fun j i z => ?_⟩
    · have hi2 : ¬ (i = x ∨ i ∈ refsOf r) := fun z => hi (List.mem_cons.mpr z)
      exact (h2 i fun z => hi2 (.inr z)).trans (List.getElem?_set_ne fun z => hi2 (.inl z.symm))
    · cases j with
      | zero =>
        cases z
        exact (h2 x n1).trans (List.getElem?_set_self (hb x List.mem_cons_self))
      | succ j => exact h3 j i z
theorem argP_len : ∀ (as : List (Sum D Nat)) (vs : List V), ArgP K σ as vs G → as.length = vs.length
  | [], _, h => by cases h; rfl
  | .inl d :: r, _, h => by obtain ⟨v, us, rfl, _, h3⟩ := h; rw [List.length_cons, List.length_cons, argP_len r us h3]
  | .inr i :: r, _, h => by obtain ⟨v, us, rfl, _, h3⟩ := h; rw [List.length_cons, List.length_cons, argP_len r us h3]
theorem mem_refs : ∀ (as : List (Sum D Nat)) (i : Nat), i ∈ refsOf as → ∃ j : Nat, as[j]? = some (.inr i)
  | .inl d :: r, i, h => by obtain ⟨j, e⟩ := mem_refs r i h; exact ⟨j + 1, e⟩
  | .inr x :: r, i, h => by
    rcases List.mem_cons.mp (show i ∈ x :: refsOf r from h) with e | h
    · subst e; exact ⟨0, rfl⟩
    · obtain ⟨j, e⟩ := mem_refs r i h; exact ⟨j + 1, e⟩
theorem res_ex : ∀ (as : List (Sum D Nat)) (ss : En), resolve ε as = some ss → ∀ j : Nat, ss[j]? ≠ some .ex
  | [], ss, h, j, e => by
    cases Option.some.inj h
    simp at e
  | .inl d :: r, ss, h, j, e => by
    have h : (resolve ε r).map (Sl.da d :: ·) = some ss := h
    cases q : resolve ε r with
    | none => rw [q] at h; cases h
    | some ts =>
      rw [q] at h
      cases Option.some.inj h
      cases j with
      | zero => cases e
      | succ j => exact res_ex r ts q j e
  | .inr i :: r, ss, h, j, e => by
    unfold resolve at h
    split at h
    · rename_i c _
      cases q : resolve ε r with
      | none => rw [q] at h; cases h
      | some ts =>
        rw [q] at h
        cases Option.some.inj h
        cases j with
        | zero => cases e
        | succ j => exact res_ex r ts q j e
    · cases h
/-- the state that a callee begins with -/
theorem call_in (o : Ok K pn σ ε G H) {as : List (Sum D Nat)} {vs : List V} {ss : En} (hn : (refsOf as).Nodup) (ha : ArgP K σ as vs G) (hr : resolve ε as = some ss) : Ok K Pin.nil (vs.map some) ss G H := by
  obtain ⟨h1, h2, h3, h4⟩ := args_ok o as vs ss ha hr
  refine ⟨o.ex, by rw [List.length_map]; exact h1, fun j d e => ?_, fun j c e => ?_, fun j k c c' p hjk e1 e2 e3 => ?_, fun q hq => (by cases hq), fun j e => absurd e (res_ex as ss hr j), fun _ _ z => nomatch z⟩
  · obtain ⟨v, a, b⟩ := h2 j d e
    exact ⟨v, by rw [List.getElem?_map, a]; rfl, b⟩
  · obtain ⟨i, p, a1, a2, a3, a4⟩ := h3 j c e
    obtain ⟨p', b1, b2, b3⟩ := o.ow i c a2
    rw [a3] at b1
    cases b1
    exact ⟨p, by rw [List.getElem?_map, a4]; rfl, b2, b3⟩
  · obtain ⟨i, p1, a1, a2, a3, a4⟩ := h3 j c e1
    obtain ⟨i', p2, b1, b2, b3, b4⟩ := h3 k c' e2
    rw [List.getElem?_map, a4] at e3
    cases e3
    rw [List.getElem?_map, b4]
    intro z
    cases z
    by_cases hi : i = i'
    · subst hi; exact hjk (refs_at as j k i hn a1 b1)
    · exact o.ap i i' _ _ _ hi a2 b2 a3 b3
theorem keep_ow : ∀ (ss ts : En), keepOw ss ts = true → ∀ (j : Nat) (c : Ct), ss[j]? = some (.ow c) → ∃ c', ts[j]? = some (.ow c')
  | [], _, _, j, c, e => by simp at e
  | s :: ss, [], h, _, _, _ => by cases h
  | s :: ss, t :: ts, h, j, c, e => by
    unfold keepOw at h
    rw [Bool.and_eq_true] at h
    cases j with
    | zero =>
      cases e
      cases t with
      | ow c' => exact ⟨c', rfl⟩
      | da _ => cases h.1
      | no => cases h.1
      | ex => cases h.1
    | succ j => exact keep_ow ss ts h.2 j c e
/-- the caller's state behind the call -/
theorem call_out (o : Ok K pn σ ε G H) {as : List (Sum D Nat)} {vs : List V} {ss ss' : En} (hn : (refsOf as).Nodup) (ha : ArgP K σ as vs G) (hr : resolve ε as = some ss)
    (hkeep : ∀ (j : Nat) (c : Ct), ss[j]? = some (.ow c) → ∃ c', ss'[j]? = some (.ow c'))
    (a : Aft K Pin.nil (vs.map some) ss G H (vs.map some) ss' G' H') : Aft K pn σ ε G H σ (putBack ε as ss') G' H' := by
  obtain ⟨h1, h2, h3, h4⟩ := args_ok o as vs ss ha hr
  have hl : as.length = ss'.length := by
    have e1 := argP_len as vs ha
    have e2 := a.ok.len
    rw [List.length_map] at e2
    omega
  have hlt : ∀ i ∈ refsOf as, i < ε.length := fun i hi => by
    obtain ⟨j, ej⟩ := mem_refs as i hi
    obtain ⟨c, ec⟩ := h4 j i ej
    obtain ⟨i', p, a1, a2, _⟩ := h3 j c ec
    rw [ej] at a1
    cases a1
    exact (List.getElem?_eq_some_iff.mp a2).1
  obtain ⟨b1, b2, b3⟩ := put_back as ss' ε hn hl hlt
  -- an owned address of the callee is one of ours
  have sub : ∀ x, own (vs.map some) ss x → own σ ε x := fun x ⟨j, c, e1, e2⟩ => by
    obtain ⟨i, p, a1, a2, a3, a4⟩ := h3 j c e1
    rw [List.getElem?_map, a4] at e2
    cases e2
    exact ⟨i, c, a2, a3⟩
  have hget : ∀ (i : Nat) (s : Sl), (putBack ε as ss')[i]? = some s → (i ∉ refsOf as ∧ ε[i]? = some s) ∨ ∃ (j : Nat) (c c' : Ct) (p : Addr), as[j]? = some (.inr i) ∧ s = .ow c' ∧ ss'[j]? = some (.ow c') ∧ ss[j]? = some (.ow c) ∧ ε[i]? = some (.ow c) ∧ σ[i]? = some (some (.ref p)) ∧ (vs.map some)[j]? = some (some (.ref p)) := fun i s e => by
    by_cases hi : i ∈ refsOf as
    · obtain ⟨j, ej⟩ := mem_refs as i hi
      obtain ⟨c, ec⟩ := h4 j i ej
      obtain ⟨i', p, a1, a2, a3, a4⟩ := h3 j c ec
      rw [ej] at a1
      cases a1
      obtain ⟨c', ec'⟩ := hkeep j c ec
      rw [b3 j i ej, ec'] at e
      cases e
      exact .inr ⟨j, c, c', p, ej, rfl, ec', ec, a2, a3, by rw [List.getElem?_map, a4]; rfl⟩
    · rw [b2 i hi] at e
      exact .inl ⟨hi, e⟩
  have hpd : ∀ (i : Nat) (c : Ct) (p : Addr), ε[i]? = some (.ow c) → σ[i]? = some (some (.ref p)) → i ∉ refsOf as → ¬ own (vs.map some) ss p := fun i c p e1 e2 hi ⟨j, c2, z1, z2⟩ => by
    obtain ⟨i', p', a1, a2, a3, a4⟩ := h3 j c2 z1
    rw [List.getElem?_map, a4] at z2
    cases z2
    have hne : i ≠ i' := fun y => by
      subst y
      have : ∀ (r : List (Sum D Nat)) (k i : Nat), r[k]? = some (.inr i) → i ∈ refsOf r := by
        intro r
        induction r with
        | nil => intro k i z; simp at z
        | cons a r ih =>
          intro k i z
          cases a with
          | inl d =>
            cases k with
            | zero => cases z
            | succ k => exact ih k i z
          | inr y =>
            cases k with
            | zero => cases z; exact List.mem_cons_self
            | succ k => exact List.mem_cons_of_mem _ (ih k i z)
      exact hi (this as j i a1)
    exact o.ap i i' _ _ _ hne e1 a2 e2 a3
  refine ⟨⟨a.ok.ex, by rw [b1]; exact o.len, fun i d e => ?_, fun i c e => ?_, fun i k c c' p hik e1 e2 e3 => ?_, fun q hq => ?_, fun i e => ?_, o.g0.trans a.g⟩, a.g, fun x u n e => a.h x u (fun z => n (sub x z)) e, fun x n g e => a.f x (fun z => n (sub x z)) g e, fun x ⟨i, c, e1, e2⟩ => ?_⟩
  · rcases hget i _ e with ⟨hi, e⟩ | ⟨j, c, c', p, _, z, _⟩
    · obtain ⟨v, c1, c2⟩ := o.da i d e
      exact ⟨v, c1, Rp.mono a.g d v c2⟩
    · cases z
  · rcases hget i _ e with ⟨hi, e⟩ | ⟨j, c0, c', p, ej, z, e1, e2, e3, e4, e5⟩
    · obtain ⟨p, c1, c2, c3⟩ := o.ow i c e
      have n := hpd i c p e c1 hi
      obtain ⟨u, hu⟩ := c3.some
      exact ⟨p, c1, a.f p n c2 c3.lv, c3.mono a.g ((a.h p u n hu).trans hu.symm)⟩
    · cases z
      obtain ⟨p', c1, c2, c3⟩ := a.ok.ow j c e1
      rw [e5] at c1
      cases c1
      exact ⟨p, e4, c2, c3⟩
  · have own1 : ∀ (i : Nat) (c : Ct), (putBack ε as ss')[i]? = some (.ow c) → ∃ c0, ε[i]? = some (.ow c0) := fun i c e => by
      rcases hget i _ e with ⟨hi, e⟩ | ⟨j, c0, c', p, ej, z, q1, q2, q3, _⟩
      · exact ⟨c, e⟩
      · exact ⟨c0, q3⟩
    obtain ⟨c0, z1⟩ := own1 i c e1
    obtain ⟨c1, z2⟩ := own1 k c' e2
    exact o.ap i k c0 c1 p hik z1 z2 e3
  · obtain ⟨c1, c, c2⟩ := o.pin q hq
    refine ⟨c1, ?_⟩
    by_cases hi : q.1 ∈ refsOf as
    · obtain ⟨j, ej⟩ := mem_refs as q.1 hi
      obtain ⟨c0, ec⟩ := h4 j q.1 ej
      obtain ⟨c', ec'⟩ := hkeep j c0 ec
      exact ⟨c', by rw [b3 j q.1 ej, ec']⟩
    · exact ⟨c, by rw [b2 q.1 hi]; exact c2⟩
  · rcases hget i _ e with ⟨hi, e⟩ | ⟨j, c, c', p, _, z, _⟩
    · exact o.px i e
    · cases z
  · rcases hget i _ e1 with ⟨hi, e⟩ | ⟨j, c0, c', p, ej, z, q1, q2, q3, _⟩
    · exact .inl ⟨i, c, e, e2⟩
    · exact .inl ⟨i, c0, q3, e2⟩
/-- no slot becomes ours by a call -/
theorem put_sub (o : Ok K pn σ ε G H) {as : List (Sum D Nat)} {vs : List V} {ss ss' : En} (hn : (refsOf as).Nodup) (ha : ArgP K σ as vs G) (hr : resolve ε as = some ss)
    (hkeep : ∀ (j : Nat) (c : Ct), ss[j]? = some (.ow c) → ∃ c', ss'[j]? = some (.ow c'))
    (a : Aft K Pin.nil (vs.map some) ss G H (vs.map some) ss' G' H') : ∀ (i : Nat) (c : Ct), (putBack ε as ss')[i]? = some (.ow c) → ∃ c0, ε[i]? = some (.ow c0) := by
  obtain ⟨h1, h2, h3, h4⟩ := args_ok o as vs ss ha hr
  have hl : as.length = ss'.length := by
    have e1 := argP_len as vs ha
    have e2 := a.ok.len
    rw [List.length_map] at e2
    omega
  have at_ : ∀ i ∈ refsOf as, ∃ c, ε[i]? = some (.ow c) := fun i hi => by
    obtain ⟨j, ej⟩ := mem_refs as i hi
    obtain ⟨c, ec⟩ := h4 j i ej
    obtain ⟨i', p, a1, a2, _⟩ := h3 j c ec
    rw [ej] at a1
    cases a1
    exact ⟨c, a2⟩
  obtain ⟨b1, b2, b3⟩ := put_back as ss' ε hn hl fun i hi => by
    obtain ⟨c, e⟩ := at_ i hi
    exact (List.getElem?_eq_some_iff.mp e).1
  intro i c e
  by_cases hi : i ∈ refsOf as
  · exact at_ i hi
  · rw [b2 i hi] at e
    exact ⟨c, e⟩
end
end Mp
/-! A mini language over HandS, 7: targets, comprehensions' slots. -/
namespace Mp
open PySem L2 Evl
open SX (S S_len S_cat S_inj)
section
variable {K : PySem.W.Frag} {G G' H H' G1 G2 H1 H2 : Hp} {pn : Pin} {σ σ1 σ2 : L2.St} {ε ε1 ε2 : En}
/-- a slot that is not ours is stored -/
theorem Ok.set (o : Ok K pn σ ε G H) {j : Nat} {s : Sl} {d : D} {v : V} (e : ε[j]? = some s) (hs : ∀ c, s ≠ .ow c) (r : Rp K G d v) : Ok K pn (σ.set j (some v)) (ε.set j (.da d)) G H := by
  have hj : j < ε.length := (List.getElem?_eq_some_iff.mp e).1
  have hjσ : j < σ.length := by rw [← o.len]; exact hj
  have ne : ∀ (i : Nat) (c : Ct), (ε.set j (.da d))[i]? = some (.ow c) → i ≠ j ∧ ε[i]? = some (.ow c) := fun i c q => by
    by_cases z : i = j
    · subst z; rw [List.getElem?_set_self hj] at q; cases q
    · rw [List.getElem?_set_ne (Ne.symm z)] at q; exact ⟨z, q⟩
  refine ⟨o.ex, by rw [len_set, List.length_set]; exact o.len, fun i x q => ?_, fun i c q => ?_, fun i k c c' p hik q1 q2 q3 => ?_, fun q hq => ?_, fun i q => ?_, o.g0⟩
  · by_cases z : i = j
    · subst z
      rw [List.getElem?_set_self hj] at q
      cases q
      exact ⟨v, List.getElem?_set_self hjσ, r⟩
    · rw [List.getElem?_set_ne (Ne.symm z)] at q
      obtain ⟨u, a, b⟩ := o.da i x q
      exact ⟨u, by rw [List.getElem?_set_ne (Ne.symm z)]; exact a, b⟩
  · obtain ⟨z, q⟩ := ne i c q
    obtain ⟨p, a, b, w⟩ := o.ow i c q
    exact ⟨p, by rw [List.getElem?_set_ne (Ne.symm z)]; exact a, b, w⟩
  · obtain ⟨z1, q1⟩ := ne i c q1
    obtain ⟨z2, q2⟩ := ne k c' q2
    rw [List.getElem?_set_ne (Ne.symm z1)] at q3
    rw [List.getElem?_set_ne (Ne.symm z2)]
    exact o.ap i k c c' p hik q1 q2 q3
  · obtain ⟨a, c, b⟩ := o.pin q hq
    have z : q.1 ≠ j := fun y => by rw [y, e] at b; exact hs c (Option.some.inj b)
    exact ⟨by rw [List.getElem?_set_ne (Ne.symm z)]; exact a, c, by rw [List.getElem?_set_ne (Ne.symm z)]; exact b⟩
  · have z : i ≠ j := fun y => by rw [y, List.getElem?_set_self hj] at q; cases q
    rw [List.getElem?_set_ne (Ne.symm z)] at q ⊢
    exact o.px i q
theorem own_set {j : Nat} {d : D} {v : V} (hj : j < ε.length) {a : Addr} (w : own (σ.set j (some v)) (ε.set j (.da d)) a) : own σ ε a := by
  obtain ⟨i, c, e1, e2⟩ := w
  by_cases z : i = j
  · subst z; rw [List.getElem?_set_self hj] at e1; cases e1
  · rw [List.getElem?_set_ne (Ne.symm z)] at e1 e2
    exact ⟨i, c, e1, e2⟩
theorem wipe_get (σ : L2.St) : ∀ (vs : List Nat) (i : Nat), (wipe σ vs)[i]? = if i ∈ vs then σ[i]?.map (fun _ => none) else σ[i]?
  | [], i => by rw [if_neg (by simp)]; rfl
  | v :: vs, i => by
    unfold wipe
    by_cases z : i = v
    · subst z
      rw [if_pos List.mem_cons_self]
      by_cases h : i < σ.length
      · rw [List.getElem?_set_self (by rw [wipe_length]; exact h), List.getElem?_eq_getElem h]; rfl
      · rw [List.getElem?_eq_none (by rw [List.length_set, wipe_length]; omega), List.getElem?_eq_none (by omega)]; rfl
    · rw [List.getElem?_set_ne (Ne.symm z), wipe_get σ vs i]
      simp [z]
theorem wipe_ext {σ τ : L2.St} {vs : List Nat} (hl : σ.length = τ.length) (h : ∀ i : Nat, i ∉ vs → σ[i]? = τ[i]?) : wipe σ vs = wipe τ vs := by
  refine List.ext_getElem? fun i => ?_
  rw [wipe_get, wipe_get]
  by_cases z : i ∈ vs
  · rw [if_pos z, if_pos z]
    by_cases q : i < σ.length
    · rw [List.getElem?_eq_getElem q, List.getElem?_eq_getElem (by omega : i < τ.length)]; rfl
    · rw [List.getElem?_eq_none (by omega), List.getElem?_eq_none (by omega)]
  · rw [if_neg z, if_neg z, h i z]
theorem wipe_wipe (σ : L2.St) (vs : List Nat) : wipe (wipe σ vs) vs = wipe σ vs :=
  wipe_ext (wipe_length σ vs) fun i hi => by rw [wipe_get, if_neg hi]
theorem wipe_set {σ : L2.St} {j : Nat} {v : Option V} {vs : List Nat} (h : j ∈ vs) : wipe (σ.set j v) vs = wipe σ vs :=
  wipe_ext List.length_set fun i hi => List.getElem?_set_ne (fun z : j = i => hi (z ▸ h))
theorem wipeE_get (ε : En) : ∀ (vs : List Nat) (i : Nat), (wipeE ε vs)[i]? = if i ∈ vs then ε[i]?.map (fun _ => .no) else ε[i]?
  | [], i => by rw [if_neg (by simp)]; rfl
  | v :: vs, i => by
    have hl : ∀ vs, (wipeE ε vs).length = ε.length := fun vs => by
      induction vs with
      | nil => rfl
      | cons v vs ih => unfold wipeE; rw [len_set, ih]
    unfold wipeE
    by_cases z : i = v
    · subst z
      rw [if_pos List.mem_cons_self]
      by_cases h : i < ε.length
      · rw [List.getElem?_set_self (by rw [hl]; exact h), List.getElem?_eq_getElem h]; rfl
      · rw [List.getElem?_eq_none (by rw [len_set, hl]; omega), List.getElem?_eq_none (by omega)]; rfl
    · rw [List.getElem?_set_ne (Ne.symm z), wipeE_get ε vs i]
      simp [z]
theorem wipeE_length (ε : En) : ∀ vs : List Nat, (wipeE ε vs).length = ε.length
  | [] => rfl
  | v :: vs => by unfold wipeE; rw [len_set, wipeE_length ε vs]
theorem backE_length (ε ε' : En) : ∀ vs : List Nat, (backE ε ε' vs).length = ε'.length
  | [] => rfl
  | v :: vs => by unfold backE; rw [len_set, backE_length ε ε' vs]
theorem backE_get (ε ε' : En) : ∀ (vs : List Nat) (i : Nat), (backE ε ε' vs)[i]? = if i ∈ vs then ε'[i]?.map (fun _ => ε.getD i .no) else ε'[i]?
  | [], i => by rw [if_neg (by simp)]; rfl
  | v :: vs, i => by
    unfold backE
    by_cases z : i = v
    · subst z
      rw [if_pos List.mem_cons_self]
      by_cases h : i < ε'.length
      · rw [List.getElem?_set_self (by rw [backE_length]; exact h), List.getElem?_eq_getElem h]; rfl
      · rw [List.getElem?_eq_none (by rw [len_set, backE_length]; omega), List.getElem?_eq_none (by omega)]; rfl
    · rw [List.getElem?_set_ne (Ne.symm z), backE_get ε ε' vs i]
      simp [z]
/-- the slots at vs are forgotten (none of them a pinned one) -/
theorem Ok.wipe (o : Ok K pn σ ε G H) {vs : List Nat} (hp : ∀ q ∈ pn.l, q.1 ∉ vs) : Ok K pn (wipe σ vs) (wipeE ε vs) G H := by
  have ne : ∀ (i : Nat) (s : Sl), s ≠ .no → (wipeE ε vs)[i]? = some s → i ∉ vs ∧ ε[i]? = some s := fun i s hs q => by
    rw [wipeE_get] at q
    by_cases z : i ∈ vs
    · rw [if_pos z] at q
      cases w : ε[i]? with
      | none => rw [w] at q; cases q
      | some y => rw [w] at q; exact absurd (Option.some.inj q).symm hs
    · rw [if_neg z] at q; exact ⟨z, q⟩
  have gt : ∀ i : Nat, i ∉ vs → (L2.wipe σ vs)[i]? = σ[i]? := fun i z => by rw [wipe_get, if_neg z]
  refine ⟨o.ex, by rw [wipeE_length, wipe_length]; exact o.len, fun i d q => ?_, fun i c q => ?_, fun i k c c' p hik q1 q2 q3 => ?_, fun q hq => ?_, fun i q => ?_, o.g0⟩
  · obtain ⟨z, q⟩ := ne i (.da d) (fun y => nomatch y) q
    rw [gt i z]
    exact o.da i d q
  · obtain ⟨z, q⟩ := ne i (.ow c) (fun y => nomatch y) q
    rw [gt i z]
    exact o.ow i c q
  · obtain ⟨z1, q1⟩ := ne i (.ow c) (fun y => nomatch y) q1
    obtain ⟨z2, q2⟩ := ne k (.ow c') (fun y => nomatch y) q2
    rw [gt i z1] at q3
    rw [gt k z2]
    exact o.ap i k c c' p hik q1 q2 q3
  · obtain ⟨a, c, b⟩ := o.pin q hq
    exact ⟨by rw [gt _ (hp q hq)]; exact a, c, by rw [wipeE_get, if_neg (hp q hq)]; exact b⟩
  · obtain ⟨z, q⟩ := ne i .ex (fun y => nomatch y) q
    rw [gt i z]
    exact o.px i q
theorem own_wipe {vs : List Nat} {a : Addr} (w : own (wipe σ vs) (wipeE ε vs) a) : own σ ε a := by
  obtain ⟨i, c, e1, e2⟩ := w
  rw [wipeE_get] at e1
  by_cases z : i ∈ vs
  · rw [if_pos z] at e1
    cases y : ε[i]? with
    | none => rw [y] at e1; cases e1
    | some s => rw [y] at e1; cases e1
  · rw [if_neg z] at e1
    rw [wipe_get, if_neg z] at e2
    exact ⟨i, c, e1, e2⟩
def Clear (ε : En) (vs : List Nat) : Prop := ∀ j ∈ vs, ∃ s, ε[j]? = some s ∧ ∀ c, s ≠ .ow c
theorem clear_of {ε : En} {vs : List Nat} (h : (vs.all fun j => match ε[j]? with | some (.ow _) => false | some _ => true | none => false) = true) : Clear ε vs := fun j hj => by
  have q := List.all_eq_true.mp h j hj
  cases e : ε[j]? with
  | none => rw [e] at q; cases q
  | some s =>
    refine ⟨s, rfl, fun c z => ?_⟩
    rw [e, z] at q
    cases q
theorem Clear.pin {vs : List Nat} (c : Clear ε vs) (o : Ok K pn σ ε G H) : ∀ q ∈ pn.l, q.1 ∉ vs := fun q hq hm => by
  obtain ⟨s, e, hs⟩ := c _ hm
  obtain ⟨_, ct, b⟩ := o.pin q hq
  rw [b] at e
  exact hs ct (Option.some.inj e).symm
theorem Clear.own {vs : List Nat} (c : Clear ε vs) {a : Addr} (w : own σ ε a) : own (wipe σ vs) (wipeE ε vs) a := by
  obtain ⟨i, ct, e1, e2⟩ := w
  have z : i ∉ vs := fun hm => by
    obtain ⟨s, e, hs⟩ := c _ hm
    rw [e1] at e
    exact hs ct (Option.some.inj e).symm
  exact ⟨i, ct, by rw [wipeE_get, if_neg z]; exact e1, by rw [wipe_get, if_neg z]; exact e2⟩
/-- behind a comprehension: the slots at vs as they were -/
theorem Ok.back (o : Ok K pn σ ε G H) {vs : List Nat} (cl : Clear ε vs) (o2 : Ok K pn (L2.wipe σ vs) ε2 G2 H2) (g : Ex G G2) : Ok K pn σ (backE ε ε2 vs) G2 H2 := by
  have hlen : ε2.length = σ.length := by rw [o2.len, wipe_length]
  have ne : ∀ (i : Nat) (c : Ct), (backE ε ε2 vs)[i]? = some (.ow c) → i ∉ vs ∧ ε2[i]? = some (.ow c) := fun i c q => by
    rw [backE_get] at q
    by_cases z : i ∈ vs
    · rw [if_pos z] at q
      obtain ⟨s, e, hs⟩ := cl i z
      cases w : ε2[i]? with
      | none => rw [w] at q; cases q
      | some y =>
        rw [w] at q
        have e2 : ε.getD i .no = s := by rw [List.getD_eq_getElem?_getD, e]; rfl
        have q : some (ε.getD i .no) = some (Sl.ow c) := q
        rw [e2] at q
        exact absurd (Option.some.inj q) (hs c)
    · rw [if_neg z] at q; exact ⟨z, q⟩
  have gt : ∀ i : Nat, i ∉ vs → (L2.wipe σ vs)[i]? = σ[i]? := fun i z => by rw [wipe_get, if_neg z]
  refine ⟨o2.ex, by rw [backE_length]; exact hlen, fun i d q => ?_, fun i c q => ?_, fun i k c c' p hik q1 q2 q3 => ?_, fun q hq => ?_, fun i q => ?_, o2.g0⟩
  · rw [backE_get] at q
    by_cases z : i ∈ vs
    · rw [if_pos z] at q
      obtain ⟨s, e, hs⟩ := cl i z
      cases w : ε2[i]? with
      | none => rw [w] at q; cases q
      | some y =>
        rw [w] at q
        have e2 : ε.getD i .no = s := by rw [List.getD_eq_getElem?_getD, e]; rfl
        have q : some (ε.getD i .no) = some (Sl.da d) := q
        rw [e2] at q
        rw [Option.some.inj q] at e
        obtain ⟨v, a, b⟩ := o.da i d e
        exact ⟨v, a, Rp.mono g d v b⟩
    · rw [if_neg z] at q
      rw [← gt i z]
      exact o2.da i d q
  · obtain ⟨z, q⟩ := ne i c q
    rw [← gt i z]
    exact o2.ow i c q
  · obtain ⟨z1, q1⟩ := ne i c q1
    obtain ⟨z2, q2⟩ := ne k c' q2
    rw [← gt i z1] at q3
    rw [← gt k z2]
    exact o2.ap i k c c' p hik q1 q2 q3
  · have z := cl.pin o q hq
    obtain ⟨a, c, b⟩ := o2.pin q hq
    rw [gt _ z] at a
    exact ⟨a, c, by rw [backE_get, if_neg z]; exact b⟩
  · rw [backE_get] at q
    by_cases z : i ∈ vs
    · rw [if_pos z] at q
      obtain ⟨s, e, hs⟩ := cl i z
      cases w : ε2[i]? with
      | none => rw [w] at q; cases q
      | some y =>
        rw [w] at q
        have e2 : ε.getD i .no = s := by rw [List.getD_eq_getElem?_getD, e]; rfl
        have q : some (ε.getD i .no) = some Sl.ex := q
        rw [e2] at q
        rw [Option.some.inj q] at e
        exact o.px i e
    · rw [if_neg z] at q
      rw [← gt i z]
      exact o2.px i q
theorem own_back {vs : List Nat} (cl : Clear ε vs) {a : Addr} (w : own σ (backE ε ε2 vs) a) : own (wipe σ vs) ε2 a := by
  obtain ⟨i, c, e1, e2⟩ := w
  rw [backE_get] at e1
  by_cases z : i ∈ vs
  · rw [if_pos z] at e1
    obtain ⟨s, e, hs⟩ := cl i z
    cases q : ε2[i]? with
    | none => rw [q] at e1; cases e1
    | some y =>
      rw [q] at e1
      have e3 : ε.getD i .no = s := by rw [List.getD_eq_getElem?_getD, e]; rfl
      have e1 : some (ε.getD i .no) = some (Sl.ow c) := e1
      rw [e3] at e1
      exact absurd (Option.some.inj e1) (hs c)
  · rw [if_neg z] at e1
    exact ⟨i, c, e1, by rw [wipe_get, if_neg z]; exact e2⟩
/-- an object that is neither frozen nor in our slots changes -/
theorem Ok.upd (o : Ok K pn σ ε G H) {p : Addr} {u : HO} (g : G p = none) (n : ¬ own σ ε p) : Ok K pn σ ε G (L2.upd H p u) := by
  refine ⟨fun a x q => ?_, o.len, o.da, fun i c q => ?_, o.ap, o.pin, o.px, o.g0⟩
  · have z : a ≠ p := fun y => by rw [y, g] at q; cases q
    rw [upd_ne z]; exact o.ex a x q
  · obtain ⟨a, h1, h2, h3⟩ := o.ow i c q
    have z : a ≠ p := fun y => n ⟨i, c, q, y ▸ h1⟩
    exact ⟨a, h1, h2, h3.mono (Ex.refl G) (upd_ne z)⟩

/-! ### targets -/
theorem names_sound {Q : L2.St → Hp → Prop} : ∀ (js : List Nat) (ds : List D) (vs : List V) (σ : L2.St) (ε : En), Ok K pn σ ε G H → Rps K G ds vs → ds.length = js.length → Clear ε js →
    (∀ σ', Ok K pn σ' (setAll ε js (ds.map .da)) G H → (∀ a, own σ' (setAll ε js (ds.map .da)) a → own σ ε a) → (∀ ws : List Nat, (∀ j ∈ js, j ∈ ws) → wipe σ' ws = wipe σ ws) → Q σ' H) → gNames js vs σ H Q
  | [], ds, vs, σ, ε, o, r, hl, _, k => by
    have e : ds = [] := List.eq_nil_of_length_eq_zero hl
    subst e
    cases r
    have es : setAll ε [] (([] : List D).map Sl.da) = ε := rfl
    exact ⟨rfl, k σ o (fun _ w => w) fun _ _ => rfl⟩
  | j :: js, ds, vs, σ, ε, o, r, hl, cl, k => by
    cases ds with
    | nil => cases hl
    | cons d ds =>
      obtain ⟨v, us, rfl, r1, r2⟩ := r
      obtain ⟨s, e, hs⟩ := cl j List.mem_cons_self
      have hj : j < ε.length := (List.getElem?_eq_some_iff.mp e).1
      refine ⟨v, us, rfl, names_sound js ds us (σ.set j (some v)) (ε.set j (.da d)) (o.set e hs r1) r2 (by simpa using hl) (fun x hx => ?_) fun σ' o' w' q' => k σ' o' (fun a w => own_set hj (w' a w)) fun ws hw => ?_⟩
      · by_cases z : x = j
        · subst z; exact ⟨.da d, List.getElem?_set_self hj, fun c y => nomatch y⟩
        · obtain ⟨s', e', hs'⟩ := cl x (List.mem_cons_of_mem _ hx)
          exact ⟨s', by rw [List.getElem?_set_ne (Ne.symm z)]; exact e', hs'⟩
      · rw [q' ws fun y hy => hw y (List.mem_cons_of_mem _ hy), wipe_set (hw j List.mem_cons_self)]
theorem Pt.sound {p : Pt} {d : D} {x : V} {ε' : En} {Q : L2.St → Hp → Prop} (o : Ok K pn σ ε G H) (h : p.run d ε = .ok () ε') (r : Rp K G d x)
    (k : ∀ σ', Ok K pn σ' ε' G H → (∀ a, own σ' ε' a → own σ ε a) → (∀ ws : List Nat, (∀ j ∈ p.js, j ∈ ws) → wipe σ' ws = wipe σ ws) → Q σ' H) : p.rd K x σ H Q := by
  cases p with
  | nm j =>
    have h : (match ε[j]? with | some (.ow _) => R.no | some _ => .ok () (ε.set j (.da d)) | none => .no) = R.ok () ε' := h
    cases e : ε[j]? with
    | none => rw [e] at h; cases h
    | some s =>
      rw [e] at h
      have hs : ∀ c, s ≠ .ow c := fun c z => by rw [z] at h; cases h
      have h2 : R.ok () (ε.set j (.da d)) = R.ok () ε' := by
        cases s with
        | no => exact h
        | da _ => exact h
        | ex => exact h
        | ow c => exact absurd rfl (hs c)
      cases h2
      exact k _ (o.set e hs r) (fun a w => own_set (List.getElem?_eq_some_iff.mp e).1 w) fun ws hw => wipe_set (hw j List.mem_cons_self)
  | tp js =>
    cases d with
    | tup ds =>
      have h : (if ds.length = js.length ∧ (js.all fun j => match ε[j]? with | some (.ow _) => false | some _ => true | none => false) = true then R.ok () (setAll ε js (ds.map .da)) else .no) = R.ok () ε' := h
      split at h
      · rename_i hc
        cases h
        obtain ⟨a, vs, rfl, r1, r2⟩ := r
        exact ⟨a, vs, rfl, (r1.mono o.ex).sq, by rw [Rps.length _ _ r2]; exact hc.1, names_sound js ds vs σ ε o r2 hc.1 (clear_of hc.2) k⟩
      · cases h
    | non => cases h
    | bl _ => cases h
    | int _ => cases h
    | str _ => cases h
    | ty _ => cases h
    | lst _ => cases h
    | fls _ => cases h
end
end Mp
/-! A mini language over HandS, 8: what is run is told (expressions). -/
namespace Mp
open PySem L2 Evl
open SX (S S_len S_cat S_inj)
section
variable {K : PySem.W.Frag} {G G' H H' G1 G2 H1 H2 : Hp} {pn : Pin} {σ σ1 σ2 : L2.St} {ε ε1 ε2 : En}
/-- a walk over these items, whose objects are in G -/
def Wk (K : PySem.W.Frag) (items : List D) (J : L2.It) (G : Hp) : Prop := ∃ (Gw : Hp → Prop) (Y : Nat → Hp → V → Hp → Prop), Walk J items.length Gw Y ∧ (∀ Hc, Ex G Hc → Gw Hc) ∧
  ∀ (i : Nat) (d : D) (Hc : Hp) (x : V) (Hc' : Hp), items[i]? = some d → Y i Hc x Hc' → ∀ Gc, Ex G Gc → Ex Gc Hc → ∃ Gc', Pu Gc Hc Gc' Hc' ∧ Rp K Gc' d x
theorem wk_list {ds : List D} {p : Addr} {vs : List V} (h : SqL K G p vs) (r : Rps K G ds vs) : Wk K ds (Itl K p) G := by
  refine ⟨fun H => SqL K H p vs, YAt vs, by rw [← Rps.length ds vs r]; exact walk_list, fun Hc e => ex_l e h, fun i d Hc x Hc' e y Gc g1 g2 => ?_⟩
  obtain ⟨rfl, y⟩ := y
  obtain ⟨v, e1, e2⟩ := Rps.get ds vs i d r e
  rw [y] at e1
  cases e1
  exact ⟨Gc, Pu.refl g2, Rp.mono g1 d _ e2⟩
theorem wk_tup {ds : List D} {p : Addr} {vs : List V} (h : SqT K G p vs) (r : Rps K G ds vs) : Wk K ds (Itt K p) G := by
  refine ⟨fun H => SqT K H p vs, YAt vs, by rw [← Rps.length ds vs r]; exact walk_tup, fun Hc e => ex_t e h, fun i d Hc x Hc' e y Gc g1 g2 => ?_⟩
  obtain ⟨rfl, y⟩ := y
  obtain ⟨v, e1, e2⟩ := Rps.get ds vs i d r e
  rw [y] at e1
  cases e1
  exact ⟨Gc, Pu.refl g2, Rp.mono g1 d _ e2⟩
theorem wk_str {l : List Nat} : Wk K (l.map fun c => .str [c]) (Its (S l)) G := by
  refine ⟨fun _ => True, _, by rw [List.length_map]; exact walk_str (z := S l), fun _ _ => trivial, fun i d Hc x Hc' e y Gc g1 g2 => ?_⟩
  obtain ⟨rfl, c, y1, rfl⟩ := y
  rw [List.getElem?_map] at e
  have y2 : l[i]? = some c := by simpa using y1
  rw [y2] at e
  cases e
  exact ⟨Gc, Pu.refl g2, rfl⟩
theorem wk_rng {a b : Int} : Wk K (rngD a b) (Itr a (b - a).toNat) G := by
  refine ⟨fun _ => True, _, by unfold rngD; rw [List.length_map, List.length_range]; exact walk_range (lo := a) (n := (b - a).toNat), fun _ _ => trivial, fun i d Hc x Hc' e y Gc g1 g2 => ?_⟩
  obtain ⟨rfl, rfl⟩ := y
  unfold rngD at e
  rw [List.getElem?_map] at e
  by_cases hi : i < (b - a).toNat
  · rw [List.getElem?_range hi] at e
    cases e
    exact ⟨Gc, Pu.refl g2, rfl⟩
  · rw [List.getElem?_eq_none (by simp; omega)] at e
    cases e
structure Rc.Fine (Z : Rc) (c : Cn) (pn : Pin) : Prop where
  cl : c.call = Z.call
  gl : ∀ x d, c.gl x = some d → ∀ G, Rp Z.K G d (Z.gv x)
  ar : ∀ f ss, (Z.call f ss = .no → False) → ss.length = Z.ar f
  ox : ∀ y, y < Z.nc → OexC Z.K (Z.ca y) ∧ PySem.W.findIn Z.K (.ref (Z.ca y)) Z.f1 = some none ∧ PySem.W.findIn Z.K (.ref (Z.ca y)) Z.f2 = some none ∧ ExcC Z.K (Z.ca y)
  sb : ∀ i j b, c.sub i j = some b → i < Z.nc ∧ PySem.W.exmOne Z.K (.ref (Z.ca i)) (.ref (Z.ca j)) = some b ∧ PySem.W.kitOne Z.K (.ref (Z.ca i)) (.ref (Z.ca j)) = some b
  ff : (Z.f1 == Z.f2) = false
  x0 : c.ex = none → pn.xa = none
  x1 : ∀ x, c.ex = some x → pn.xa = some Z.xa ∧ Z.xr x Z.xc Z.xd pn.g0
variable {Z : Rc} {W : WX}
/-- what is to be shown behind a call -/
def CPost (Z : Rc) (W : WX) (pn : Pin) (σ : L2.St) (ε : En) (G H : Hp) (Q : VK) : R Sl → Prop
  | .no => False
  | .ok r ε' => ∀ v G' H', Aft Z.K pn σ ε G H σ ε' G' H' → (∀ (i : Nat) (c : Ct), ε'[i]? = some (.ow c) → ∃ c0, ε[i]? = some (.ow c0)) → RetOk Z.K H G' H' r v → Q v H'
  | .er x ε' => ∀ cls d G' H', Aft Z.K pn σ ε G H σ ε' G' H' → Z.xr x cls d H' → W cls d σ H'
/-- a call -/
theorem call_sound {c : Cn} (hz : Z.Fine c pn) {f : Nat} {as : List (Sum D Nat)} {vs : List V} {Q : VK} (o : Ok Z.K pn σ ε G H) (ha : ArgP Z.K σ as vs G)
    (h : CPost Z W pn σ ε G H Q (callR c f as ε)) : spC Z f (vs ++ []) H Q (fun cls d H => W cls d σ H) := by
  rw [List.append_nil]
  unfold callR at h
  by_cases hn : (refsOf as).Nodup
  · rw [if_pos hn] at h
    cases q : resolve ε as with
    | none => rw [q] at h; exact h.elim
    | some ss =>
      rw [q] at h
      dsimp only at h
      rw [hz.cl] at h
      have hin := call_in o hn ha q
      have hlen : ss.length = vs.length := (args_ok o as vs ss ha q).1
      have hl : vs.length = Z.ar f := by
        rw [← hlen]
        refine hz.ar f ss fun z => ?_
        rw [z] at h
        exact h
      refine ⟨hl, G, ss, hin, ?_⟩
      cases w : Z.call f ss with
      | no => rw [w] at h; exact h
      | ok r as' =>
        rw [w] at h
        dsimp only at h
        intro v G' H' a ro
        by_cases hk : keepOw ss as' = true
        · rw [if_pos hk] at h
          exact h v G' H' (call_out o hn ha q (keep_ow ss as' hk) a) (put_sub o hn ha q (keep_ow ss as' hk) a) ro
        · rw [if_neg hk] at h
          exact h.elim
      | er x as' =>
        rw [w] at h
        dsimp only at h
        intro cls d G' H' a xo
        by_cases hk : keepOw ss as' = true
        · rw [if_pos hk] at h
          exact h cls d G' H' (call_out o hn ha q (keep_ow ss as' hk) a) xo
        · rw [if_neg hk] at h
          exact h.elim
  · rw [if_neg hn] at h
    exact h.elim
/-- a tracked object is frozen -/
theorem Ok.freeze (o : Ok K pn σ ε G H) {p : Addr} {u : HO} (hp : H p = some u) (g : G p = none) (n : ¬ own σ ε p) : Ok K pn σ ε (L2.upd G p u) H := by
  have gx : Ex G (L2.upd G p u) := Ex.new g
  refine ⟨fun a x q => ?_, o.len, fun i d q => ?_, fun i c q => ?_, o.ap, o.pin, o.px, o.g0.trans gx⟩
  · by_cases z : a = p
    · subst z; rw [upd_same] at q; cases q; exact hp
    · rw [upd_ne z] at q; exact o.ex a x q
  · obtain ⟨v, a, b⟩ := o.da i d q
    exact ⟨v, a, Rp.mono gx d v b⟩
  · obtain ⟨a, h1, h2, h3⟩ := o.ow i c q
    have z : a ≠ p := fun y => n ⟨i, c, q, y ▸ h1⟩
    exact ⟨a, h1, by rw [upd_ne z]; exact h2, h3.mono gx rfl⟩
/-- the bounds of a slice, a list's items: read only -/
theorem Ok.rq (o : Ok K pn σ ε G H) {d : D} {v : V} (e : Ex G1 G) (h : Rp K G1 d v) : Rq K G H d v := .inl (Rp.mono e d v h)

/-! ### comprehensions -/
theorem noEr_ok {α : Type} {r : R α} {a : α} {ε' : En} (h : r.noEr = .ok a ε') : r = .ok a ε' := by
  cases r with
  | no => cases h
  | ok b ε2 => exact h
  | er x ε2 => cases h
theorem bind_ok {α β : Type} {r : R α} {f : α → En → R β} {b : β} {ε' : En} (h : r.bind f = .ok b ε') : ∃ a ε1, r = .ok a ε1 ∧ f a ε1 = .ok b ε' := by
  cases r with
  | no => cases h
  | ok a ε1 => exact ⟨a, ε1, rfl, h⟩
  | er x ε2 => cases h
theorem lc_sound {p : Pt} {t : En → R Bool} {e : En → R D} {tt : TT} {te : TE} {own : List Nat} {items : List D} {J : L2.It} {Q : VK}
    (ht : ∀ {σ : L2.St} {ε : En} {G H : Hp} {Q : Bool → Hp → Prop}, Ok Z.K pn σ ε G H → Post Z W0 pn σ ε G H IdP Q (t ε) → tt σ H Q)
    (he : ∀ {σ : L2.St} {ε : En} {G H : Hp} {Q : VK}, Ok Z.K pn σ ε G H → Post Z W0 pn σ ε G H (VP Z.K) Q (e ε) → te σ H Q)
    (o : Ok Z.K pn σ ε G H) (wk : Wk Z.K items J G) (cl : Clear ε own) (hp : ∀ j ∈ p.js, j ∈ own) {ys : List D} {εn : En} (hr : lcRun p t e own items (wipeE ε own) [] = .ok ys εn)
    (k : ∀ v G' H', Aft Z.K pn σ ε G H σ (backE ε εn own) G' H' → Rp Z.K G' (.lst ys) v → Q v H') :
    ∀ D, H D = none → ∃ W : Nat → Nat → Hp → Prop, (∃ m, W 0 m (upd H D (.lst []))) ∧ ∀ i m H, W i m H →
      (J.stop i H ∧ Q (.ref D) H) ∨ (J.go i H ∧ ∃ Nx : Hp → Prop, (∀ H', Nx H' → ∃ m', m' < m ∧ W (i + 1) m' H') ∧ ∀ x H', J.yld i H x H' → p.rd Z.K x (wipe σ own) H' fun σ2 H2 => wipe σ2 own = wipe σ own ∧ tt σ2 H2 fun b H3 =>
        if b = true then te σ2 H3 fun y H4 => ∃ acc, H4 D = some (.lst acc) ∧ acc.length < sizeLine ∧ Nx (upd H4 D (.lst (acc ++ [y]))) else Nx H3) := by
  intro Da hD
  obtain ⟨Gw, Y, wlk, hgw, hy⟩ := wk
  have gD : G Da = none := none_of_ex o.ex hD
  have pnw : ∀ q ∈ pn.l, q.1 ∉ own := cl.pin o
  have ow0 : Ok Z.K pn (wipe σ own) (wipeE ε own) G H := o.wipe pnw
  have nD : ¬ Mp.own (wipe σ own) (wipeE ε own) Da := fun w => by
    obtain ⟨_, u, hu⟩ := ow0.ownG w
    rw [hD] at hu
    cases hu
  have neD : ∀ (x : Addr) (u : HO), H x = some u → x ≠ Da := fun x u e z => by rw [z, hD] at e; cases e
  refine lc_it wlk (fun i Hi => ∃ (εi : En) (Gi : Hp) (acc : List D) (vs : List V), Aft Z.K pn (wipe σ own) (wipeE ε own) G H (wipe σ own) εi Gi Hi ∧ ¬ Mp.own (wipe σ own) εi Da ∧ Hi Da = some (.lst vs) ∧ Gi Da = none ∧ Rps Z.K Gi acc vs ∧
      lcRun p t e own (items.drop i) εi acc = .ok ys εn) ?_ ?_ ?_ ?_
  · exact ⟨wipeE ε own, G, [], [], ⟨ow0.upd gD nD, Ex.refl G, fun a u _ e => by rw [upd_ne (neD a u e)]; exact e, fun _ _ g _ => g, fun _ w => .inl w⟩, nD, upd_same, gD, rfl, hr⟩
  · rintro i Hi _ ⟨εi, Gi, acc, vs, a, h0, h1, h2, h3, h4⟩
    exact hgw _ (a.g.trans a.ok.ex)
  · rintro i x Hi Hi' hi ⟨εi, Gi, acc, vs, a, h0, h1, h2, h3, h4⟩ y
    obtain ⟨d, hd⟩ : ∃ d, items[i]? = some d := ⟨items[i], List.getElem?_eq_getElem hi⟩
    obtain ⟨Gc, pu, rx⟩ := hy i d Hi x Hi' hd y Gi a.g a.ok.ex
    have hD2 : Hi' Da = some (.lst vs) := pu.h _ _ h1
    have gD2 : Gc Da = none := pu.f _ h2 (by rw [h1]; exact fun z => nomatch z)
    have a2 := a.trans (Aft.pu a.ok pu)
    rw [List.drop_eq_getElem_cons (by exact hi), show items[i] = d by rw [List.getElem?_eq_getElem hi] at hd; exact Option.some.inj hd] at h4
    unfold lcRun at h4
    obtain ⟨⟨⟩, ε1, e1, h4⟩ := bind_ok h4
    obtain ⟨b, ε2, e2, h4⟩ := bind_ok h4
    have e2 := noEr_ok e2
    refine Pt.sound a2.ok e1 rx fun σ2 o3 w3 q3 => ?_
    have q4 : wipe σ2 own = wipe σ own := by rw [q3 own hp, wipe_wipe]
    have a2' : Aft Z.K pn (wipe σ own) (wipeE ε own) G H σ2 ε1 Gc Hi' := ⟨o3, a2.g, a2.h, a2.f, fun x w => a2.w x (w3 x w)⟩
    have nD3 : ¬ Mp.own σ2 ε1 Da := fun w => h0 (w3 _ w)
    refine ⟨q4, ht o3 ?_⟩
    rw [e2]
    rintro b' G3 H3 a3 rfl
    have hD3 : H3 Da = some (.lst vs) := a3.h _ _ nD3 hD2
    have gD3 : G3 Da = none := a3.f _ nD3 gD2 (by rw [hD2]; exact lv_lst)
    have nD4 : ¬ Mp.own σ2 ε2 Da := fun w => by
      rcases a3.w _ w with z | z
      · exact nD3 z
      · rw [hD2] at z; cases z
    have a23 := a2'.trans a3
    cases b with
    | false =>
      show ∃ (εi : En) (Gi : Hp) (acc : List D) (vs : List V), _
      rw [if_neg Bool.false_ne_true] at h4
      have o5 : Ok Z.K pn (wipe σ own) (wipeE ε2 own) G3 H3 := by
        have := a3.ok.wipe pnw
        rw [q4] at this
        exact this
      have wk5 : ∀ x, Mp.own (wipe σ own) (wipeE ε2 own) x → Mp.own σ2 ε2 x := fun x w => by
        rw [← q4] at w
        exact own_wipe w
      exact ⟨wipeE ε2 own, G3, acc, vs, ⟨o5, a23.g, a23.h, a23.f, fun x w => a23.w x (wk5 x w)⟩, fun w => nD4 (wk5 _ w), hD3, gD3, Rps.mono (pu.g.trans a3.g) _ _ h3, h4⟩
    | true =>
      show te σ2 H3 _
      rw [if_pos rfl] at h4
      obtain ⟨y', ε3, e3, h4⟩ := bind_ok h4
      have e3 := noEr_ok e3
      refine he a3.ok ?_
      rw [e3]
      intro y G4 H4 a4 ry
      have hD4 : H4 Da = some (.lst vs) := a4.h _ _ nD4 hD3
      have gD4 : G4 Da = none := a4.f _ nD4 gD3 (by rw [hD3]; exact lv_lst)
      have a24 := a23.trans a4
      split at h4
      · rename_i hz
        have hlen : vs.length < sizeLine := by
          rw [Rps.length _ _ h3]
          exact Nat.lt_of_lt_of_le hz (by decide)
        have o5 : Ok Z.K pn (wipe σ own) (wipeE ε3 own) G4 H4 := by
          have := a4.ok.wipe pnw
          rw [q4] at this
          exact this
        have wk5 : ∀ x, Mp.own (wipe σ own) (wipeE ε3 own) x → Mp.own σ2 ε3 x := fun x w => by
          rw [← q4] at w
          exact own_wipe w
        have nD5 : ¬ Mp.own (wipe σ own) (wipeE ε3 own) Da := fun w => by
          rcases a4.w _ (wk5 _ w) with z | z
          · exact nD4 z
          · rw [hD3] at z; cases z
        exact ⟨vs, hD4, hlen, wipeE ε3 own, G4, acc ++ [y'], vs ++ [y], ⟨o5.upd gD4 nD5, a24.g, fun x u n e => by rw [upd_ne (neD x u e)]; exact a24.h x u n e, a24.f, fun x w => a24.w x (wk5 x w)⟩, nD5, upd_same, gD4,
          Rps.snoc (Rps.mono ((pu.g.trans a3.g).trans a4.g) _ _ h3) ry, h4⟩
      · cases h4
  · rintro Hn ⟨εi, Gi, acc, vs, a, h0, h1, h2, h3, h4⟩
    rw [List.drop_length] at h4
    have h4 : R.ok acc εi = R.ok ys εn := h4
    cases h4
    have gx : Ex Gi (upd Gi Da (.lst vs)) := Ex.new h2
    refine k _ (upd Gi Da (.lst vs)) Hn ⟨o.back cl (a.ok.freeze h1 h2 h0) (a.g.trans gx), a.g.trans gx, fun x u n e => a.h x u (fun z => n (own_wipe z)) e, fun x n g e => ?_, fun x w => ?_⟩ ⟨Da, vs, rfl, upd_same, Rps.mono gx _ _ h3⟩
    · have z : x ≠ Da := fun y => e.1 (by rw [y]; exact hD)
      rw [upd_ne z]
      exact a.f x (fun z => n (own_wipe z)) g e
    · rcases a.w x (own_back cl w) with z | z
      · exact .inl (own_wipe z)
      · exact .inr z
end
end Mp
/-! A mini language over HandS, 9: what is run is told (the theorem for expressions). -/
namespace Mp
open PySem L2 Evl
open SX (S S_len S_cat S_inj)
section
variable {Z : Rc}
theorem post_no {W : WX} {σ : L2.St} {ε : En} {G H : Hp} {α β : Type} {P : α → β → Hp → Prop} {Q : β → Hp → Prop} (h : Post Z W pn σ ε G H P Q .no) : False := h
theorem clsA_run (Z : Rc) : ∀ (ys : List Nat) {σ : L2.St} {H : Hp} {Q : List V → Hp → Prop}, Q (ys.map fun y => V.ref (Z.ca y)) H → clsA Z ys σ H Q
  | [], _, _, _, h => h
  | y :: ys, _, _, _, h => clsA_run Z ys h
theorem cls_paired (Z : Rc) : ∀ ys : List Nat, Paired ClsV (ys.map fun y => V.ref (Z.ca y)) (ys.map fun y => Value.ref (Z.ca y))
  | [] => .nil
  | y :: ys => .cons (.own _) (cls_paired Z ys)
theorem any_kit {c : Cn} {pn : Pin} (hz : Z.Fine c pn) (x : Nat) : ∀ (ys : List Nat) {b : Bool}, subAny c x ys = some b → PySem.W.kitAny Z.K (.ref (Z.ca x)) (ys.map fun y => Value.ref (Z.ca y)) = some b
  | [], b, h => h
  | y :: ys, b, h => by
    unfold subAny at h
    cases q : c.sub x y with
    | none => rw [q] at h; cases h
    | some k =>
      rw [q] at h
      rw [List.map_cons]
      unfold PySem.W.kitAny
      rw [(hz.sb _ _ _ q).2.2]
      cases k with
      | true => exact h
      | false => exact any_kit hz x ys h
/-- the error at hand -/
theorem Ok.err {c : Cn} {pn : Pin} (hz : Z.Fine c pn) {σ : L2.St} {ε : En} {G H : Hp} (o : Ok Z.K pn σ ε G H) {x : Er} {i : Nat} (hx : c.ex = some x) (e : ε[i]? = some .ex) :
    σ[i]? = some (some (.ref Z.xa)) ∧ x.c < Z.nc ∧ Z.xc = .ref (Z.ca x.c) ∧ ∃ (dd : Addr) (j k : Int), Z.xd = some dd ∧ x.fs = [.int j, .int k] ∧ H dd = some (.xd [(Z.f2, .int k), (Z.f1, .int j)]) := by
  obtain ⟨h1, h2, h3, dd, j, k, h4, h5, h6⟩ := hz.x1 x hx
  obtain ⟨_, a, ha, hs⟩ := o.px i e
  rw [h1] at ha
  cases ha
  exact ⟨hs, h2, h3, dd, j, k, h4, h5, o.ex dd _ (o.g0 dd _ h6)⟩
mutual
theorem E.sound {c : Cn} {pn : Pin} (hz : Z.Fine c pn) : ∀ (e : E) {W : WX} {σ : L2.St} {ε : En} {G H : Hp} {Q : VK}, Ok Z.K pn σ ε G H → Post Z W pn σ ε G H (VP Z.K) Q (e.run c (pn.l.map (·.1)) ε) → e.rd Z W σ H Q
  | .var i, W, σ, ε, G, H, Q, o, h => by
    unfold E.run at h
    split at h
    · rename_i d e
      obtain ⟨v, e1, e2⟩ := o.da i d e
      exact ⟨v, e1, h v G H (Aft.refl o) e2⟩
    · exact h.elim
  | .frz i, W, σ, ε, G, H, Q, o, h => by
    unfold E.run at h
    split at h
    · exact h.elim
    · rename_i hio
      split at h
      · rename_i ds e
        obtain ⟨v, G', h1, h2, h3⟩ := Aft.frz o hio e
        exact ⟨v, h1, h v G' H h2 h3⟩
      · rename_i d e
        obtain ⟨v, e1, e2⟩ := o.da i d e
        exact ⟨v, e1, h v G H (Aft.refl o) e2⟩
      · exact h.elim
  | .cst d, W, σ, ε, G, H, Q, o, h => by
    unfold E.run at h
    split at h
    · rename_i hf
      exact h _ G H (Aft.refl o) (vD_rp (.inl hf))
    · split at h
      · exact h _ G H (Aft.refl o) (vD_rp (.inr ⟨_, rfl⟩))
      · exact h.elim
  | .glb x, W, σ, ε, G, H, Q, o, h => by
    unfold E.run at h
    obtain ⟨d, e, k⟩ := Post.of (o := o) h
    exact k _ G H (Pu.refl o.ex) (hz.gl x d e G)
  | .op2 p a b, W, σ, ε, G, H, Q, o, h => by
    unfold E.run at h
    refine E.sound hz a o (Post.bind h fun x ε1 v G1 H1 a1 r1 h1 => ?_)
    refine E.sound hz b a1.ok (Post.bind h1 fun y ε2 u G2 H2 a2 r2 h2 => ?_)
    obtain ⟨d, e, k⟩ := Post.of (o := a2.ok) h2
    exact Op2.sound e a2.ok.ex (.inl (Rp.mono a2.g _ _ r1)) (.inl r2) k
  | .o2l p i b, W, σ, ε, G, H, Q, o, h => by
    unfold E.run at h
    cases hw : hasV ε i
    · rw [hw, if_neg Bool.false_ne_true] at h
      exact h.elim
    rw [hw, if_pos rfl] at h
    have key : ∀ v, σ[i]? = some (some v) → tOp (p.rd Z.K) (tVar i) (b.rd Z W) σ H Q := fun v hv => by
      refine ⟨v, hv, ?_⟩
      refine E.sound hz b o (Post.bind h fun y ε2 u G2 H2 a2 r2 h2 => ?_)
      obtain ⟨d, e, k⟩ := Post.of (o := a2.ok) h2
      cases q : getL ε2 i with
      | none => rw [q] at e; cases e
      | some x =>
        rw [q] at e
        obtain ⟨v', w1, w2⟩ := a2.ok.lst q
        rw [hv] at w1
        cases w1
        exact Op2.sound e a2.ok.ex w2 (.inl r2) k
    obtain ⟨p, hv⟩ := o.hasV hw
    exact key _ hv
  | .o2r p a i, W, σ, ε, G, H, Q, o, h => by
    unfold E.run at h
    refine E.sound hz a o (Post.bind h fun x ε2 u G2 H2 a2 r2 h2 => ?_)
    obtain ⟨d, e, k⟩ := Post.of (o := a2.ok) h2
    cases q : getL ε2 i with
    | none => rw [q] at e; cases e
    | some y =>
      rw [q] at e
      obtain ⟨v', w1, w2⟩ := a2.ok.lst q
      exact ⟨v', w1, Op2.sound e a2.ok.ex (.inl r2) w2 k⟩
  | .neg a, W, σ, ε, G, H, Q, o, h => by
    unfold E.run at h
    refine E.sound hz a o (Post.bind h fun x ε1 v G1 H1 a1 r1 h1 => ?_)
    split at h1
    · cases (show v = V.int _ from r1)
      exact ⟨_, rfl, h1 _ G1 H1 (Aft.refl a1.ok) rfl⟩
    · exact h1.elim
  | .chain p q a b c, W, σ, ε, G, H, Q, o, h => by
    unfold E.run at h
    refine E.sound hz a o (Post.bind h fun x ε1 v G1 H1 a1 r1 h1 => ?_)
    refine E.sound hz b a1.ok (Post.bind h1 fun y ε2 u G2 H2 a2 r2 h2 => ?_)
    split at h2
    · rename_i e
      refine Op2.sound e a2.ok.ex (.inl (Rp.mono a2.g _ _ r1)) (.inl r2) fun w G3 H3 pu rw => ?_
      cases (show w = V.bl true from rw)
      refine ⟨true, rfl, ?_⟩
      rw [if_pos rfl]
      have a3 := Aft.pu a2.ok pu
      refine E.sound hz c a3.ok (Post.bind (Post.shift a3 h2) fun z ε4 w' G4 H4 a4 r4 h4 => ?_)
      obtain ⟨d, e, k⟩ := Post.of (o := a4.ok) h4
      exact Op2.sound e a4.ok.ex (.inl (Rp.mono (pu.g.trans a4.g) _ _ r2)) (.inl r4) k
    · rename_i e
      refine Op2.sound e a2.ok.ex (.inl (Rp.mono a2.g _ _ r1)) (.inl r2) fun w G3 H3 pu rw => ?_
      cases (show w = V.bl false from rw)
      refine ⟨false, rfl, ?_⟩
      rw [if_neg Bool.false_ne_true]
      exact h2 _ _ _ (Aft.pu a2.ok pu) rfl
    · exact h2.elim
  | .and a b, W, σ, ε, G, H, Q, o, h => by
    unfold E.run at h
    refine E.sound hz a o (Post.bind h fun x ε1 v G1 H1 a1 r1 h1 => ?_)
    cases q : truD x with
    | none => rw [q] at h1; exact h1.elim
    | some k =>
      rw [q] at h1
      refine ⟨k, tru_sound q a1.ok.ex (.inl r1), ?_⟩
      cases k with
      | true => rw [if_pos rfl]; exact E.sound hz b a1.ok h1
      | false => rw [if_neg Bool.false_ne_true]; exact h1 _ _ _ (Aft.refl a1.ok) r1
  | .or a b, W, σ, ε, G, H, Q, o, h => by
    unfold E.run at h
    refine E.sound hz a o (Post.bind h fun x ε1 v G1 H1 a1 r1 h1 => ?_)
    cases q : truD x with
    | none => rw [q] at h1; exact h1.elim
    | some k =>
      rw [q] at h1
      refine ⟨k, tru_sound q a1.ok.ex (.inl r1), ?_⟩
      cases k with
      | true => rw [if_pos rfl]; exact h1 _ _ _ (Aft.refl a1.ok) r1
      | false => rw [if_neg Bool.false_ne_true]; exact E.sound hz b a1.ok h1
  | .not a, W, σ, ε, G, H, Q, o, h => by
    unfold E.run at h
    refine E.sound hz a o (Post.bind h fun x ε1 v G1 H1 a1 r1 h1 => ?_)
    obtain ⟨d, e, k⟩ := Post.of (o := a1.ok) h1
    cases q : truD x with
    | none => rw [q] at e; cases e
    | some b =>
      rw [q] at e
      cases Option.some.inj e
      exact ⟨b, tru_sound q a1.ok.ex (.inl r1), k _ _ _ (Pu.refl a1.ok.ex) rfl⟩
  | .ite t a b, W, σ, ε, G, H, Q, o, h => by
    unfold E.run at h
    refine T.sound hz t o (Post.bind h fun x ε1 v G1 H1 a1 r1 h1 => ?_)
    cases (show x = v from r1)
    cases x with
    | true => rw [if_pos rfl] at h1 ⊢; exact E.sound hz a a1.ok h1
    | false => rw [if_neg Bool.false_ne_true] at h1 ⊢; exact E.sound hz b a1.ok h1
  | .tup es, W, σ, ε, G, H, Q, o, h => by
    unfold E.run at h
    refine Es.sound hz es o (Post.bind h fun xs ε1 vs G1 H1 a1 r1 h1 => ?_)
    split at h1
    · rename_i hl
      refine ⟨by rw [Rps.length _ _ r1]; exact sz_line hl, fun p hp => h1 _ _ _ (Aft.pu a1.ok (Pu.new a1.ok.ex hp)) ?_⟩
      exact ⟨p, vs, rfl, .inl upd_same, Rps.mono (Ex.new (none_of_ex a1.ok.ex hp)) _ _ r1⟩
    · exact h1.elim
  | .lst es, W, σ, ε, G, H, Q, o, h => by
    unfold E.run at h
    refine Es.sound hz es o (Post.bind h fun xs ε1 vs G1 H1 a1 r1 h1 => ?_)
    split at h1
    · rename_i hl
      refine ⟨by rw [Rps.length _ _ r1]; exact sz_line hl, fun p hp => h1 _ _ _ (Aft.pu a1.ok (Pu.new a1.ok.ex hp)) ?_⟩
      exact ⟨p, vs, rfl, upd_same, Rps.mono (Ex.new (none_of_ex a1.ok.ex hp)) _ _ r1⟩
    · exact h1.elim
  | .bif b es, W, σ, ε, G, H, Q, o, h => by
    unfold E.run at h
    refine Es.sound hz es o (Post.bind h fun xs ε1 vs G1 H1 a1 r1 h1 => ?_)
    obtain ⟨d, e, k⟩ := Post.of (o := a1.ok) h1
    exact Bif.sound e a1.ok.ex (Rqs.of _ _ r1) k
  | .bifo b i es, W, σ, ε, G, H, Q, o, h => by
    unfold E.run at h
    cases hw : hasV ε i
    · rw [hw, if_neg Bool.false_ne_true] at h
      exact h.elim
    rw [hw, if_pos rfl] at h
    have key : ∀ v, σ[i]? = some (some v) → tCB (b.rd Z.K) (tCons (tVar i) (es.rd Z W)) σ H Q := fun v hv => by
      refine ⟨v, hv, ?_⟩
      refine Es.sound hz es o (Post.bind h fun xs ε1 vs G1 H1 a1 r1 h1 => ?_)
      obtain ⟨d, e, k⟩ := Post.of (o := a1.ok) h1
      cases q : getL ε1 i with
      | none => rw [q] at e; cases e
      | some x =>
        rw [q] at e
        obtain ⟨v', w1, w2⟩ := a1.ok.lst q
        rw [hv] at w1
        cases w1
        exact Bif.sound e a1.ok.ex ⟨v, vs, rfl, w2, Rqs.of _ _ r1⟩ k
    obtain ⟨p, hv⟩ := o.hasV hw
    exact key _ hv
  | .mth m a es, W, σ, ε, G, H, Q, o, h => by
    unfold E.run at h
    refine E.sound hz a o (Post.bind h fun x ε1 v G1 H1 a1 r1 h1 => ?_)
    split at h1
    · cases (show v = V.str _ from r1)
      refine ⟨rfl, ?_⟩
      refine Es.sound hz es a1.ok (Post.bind h1 fun xs ε2 vs G2 H2 a2 r2 h2 => ?_)
      obtain ⟨d, e, k⟩ := Post.of (o := a2.ok) h2
      exact Mth.sound e a2.ok.ex (Rqs.of _ _ r2) k
    · exact h1.elim
  | .slc a lo hi, W, σ, ε, G, H, Q, o, h => by
    unfold E.run at h
    refine E.sound hz a o (Post.bind h fun x ε1 v G1 H1 a1 r1 h1 => ?_)
    refine OE.sound hz lo a1.ok (Post.bind h1 fun l ε2 l' G2 H2 a2 r2 h2 => ?_)
    refine OE.sound hz hi a2.ok (Post.bind h2 fun u ε3 u' G3 H3 a3 r3 h3 => ?_)
    obtain ⟨d, e, k⟩ := Post.of (o := a3.ok) h3
    cases (show l = l' from r2)
    cases (show u = u' from r3)
    exact slice_sound e a3.ok.ex (.inl (Rp.mono (a2.g.trans a3.g) _ _ r1)) k
  | .slo i lo hi, W, σ, ε, G, H, Q, o, h => by
    unfold E.run at h
    cases hw : hasV ε i
    · rw [hw, if_neg Bool.false_ne_true] at h
      exact h.elim
    rw [hw, if_pos rfl] at h
    have key : ∀ v, σ[i]? = some (some v) → tSl (rSl Z.K) (tVar i) (lo.rd Z W) (hi.rd Z W) σ H Q := fun v hv => by
      refine ⟨v, hv, ?_⟩
      refine OE.sound hz lo o (Post.bind h fun l ε2 l' G2 H2 a2 r2 h2 => ?_)
      refine OE.sound hz hi a2.ok (Post.bind h2 fun u ε3 u' G3 H3 a3 r3 h3 => ?_)
      obtain ⟨d, e, k⟩ := Post.of (o := a3.ok) h3
      cases (show l = l' from r2)
      cases (show u = u' from r3)
      cases q : getL ε3 i with
      | none => rw [q] at e; cases e
      | some x =>
        rw [q] at e
        obtain ⟨v', w1, w2⟩ := a3.ok.lst q
        rw [hv] at w1
        cases w1
        exact slice_sound e a3.ok.ex w2 k
    obtain ⟨p, hv⟩ := o.hasV hw
    exact key _ hv
  | .call f as, W, σ, ε, G, H, Q, o, h => by
    unfold E.run at h
    refine As.sound hz as o (Post.bind h fun xs ε1 vs G1 H1 a1 r1 h1 => ?_)
    refine call_sound hz a1.ok r1 ?_
    cases q : callR c f xs ε1 with
    | no => rw [q] at h1; exact h1.elim
    | er x ε2 => rw [q] at h1; exact h1
    | ok r ε2 =>
      rw [q] at h1
      intro v G' H' a _ ro
      cases r with
      | da d => exact h1 v G' H' a ro
      | no => exact h1.elim
      | ex => exact h1.elim
      | ow c => exact h1.elim
  | .dix i e, W, σ, ε, G, H, Q, o, h => by
    unfold E.run at h
    cases hw : isOw ε i
    · rw [hw, if_neg Bool.false_ne_true] at h
      exact h.elim
    rw [hw, if_pos rfl] at h
    have key : ∀ v, σ[i]? = some (some v) → tDGet (tVar i) (e.rd Z W) σ H Q := fun v hv => by
      refine ⟨v, hv, ?_⟩
      refine E.sound hz e o (Post.bind h fun x ε1 u G1 H1 a1 r1 h1 => ?_)
      obtain ⟨d, e, k⟩ := Post.of (o := a1.ok) h1
      cases q : getD' ε1 i with
      | none => rw [q] at e; cases e
      | some kvs =>
        rw [q] at e
        obtain ⟨p, kv, w1, w2, w3, w4, _⟩ := a1.ok.dict q
        rw [hv] at w1
        cases w1
        cases q2 : kyD x with
        | none => rw [Option.bind_some, q2] at e; cases e
        | some ky =>
          rw [Option.bind_some, q2, Option.bind_some] at e
          obtain ⟨v, z1, z2⟩ := lookK_rp _ _ _ _ w4 e
          have ex := kyD_rp q2 r1
          subst ex
          exact ⟨p, v, rfl, by rw [← z1]; exact DGet.k w3, k _ _ _ (Pu.refl a1.ok.ex) z2⟩
    obtain ⟨p, hv⟩ := o.isOw hw
    exact key _ hv
  | .lc own p it t e, W, σ, ε, G, H, Q, o, h => by
    unfold E.run at h
    refine It.sound hz it o (Post.bind h fun ds ε1 J G1 H1 a1 r1 h1 => ?_)
    split at h1
    · rename_i hc
      cases q : lcRun p (t.run c (pn.l.map (·.1))) (e.run c (pn.l.map (·.1))) own ds (wipeE ε1 own) [] with
      | no => rw [q] at h1; exact h1.elim
      | er x ε2 => rw [q] at h1; exact h1.elim
      | ok ys ε2 =>
        rw [q] at h1
        exact lc_sound (t := t.run c (pn.l.map (·.1))) (e := e.run c (pn.l.map (·.1))) (fun o h => Ts.sound hz t o h) (fun o h => E.sound hz e o h) a1.ok r1 (clear_of hc.1) (fun j hj => by
          have := List.all_eq_true.mp hc.2 j hj
          simpa using this) q h1
    · exact h1.elim
  | .xf k i, W, σ, ε, G, H, Q, o, h => by
    unfold E.run at h
    split at h
    · rename_i x hx he
      obtain ⟨d, e, kk⟩ := Post.of (o := o) h
      obtain ⟨hs, hlt, hc, dd, i1, i2, hd, hf, hh⟩ := o.err hz hx he
      refine ⟨x.c, hlt, hc, .ref Z.xa, hs, rfl, hc, dd, [(Z.f2, .int i2), (Z.f1, .int i1)], ?_⟩
      rw [hf] at e
      match k, e with
      | 0, e =>
        cases e
        refine ⟨.int i1, hd, hh, ?_, kk _ G H (Pu.refl o.ex) rfl⟩
        show List.lookup Z.f1 _ = _
        simp [List.lookup, hz.ff]
      | 1, e =>
        cases e
        refine ⟨.int i2, hd, hh, ?_, kk _ G H (Pu.refl o.ex) rfl⟩
        show List.lookup Z.f2 _ = _
        simp [List.lookup]
      | k + 2, e => cases e
    · exact h.elim
  | .xi i y, W, σ, ε, G, H, Q, o, h => by
    unfold E.run at h
    split at h
    · rename_i x hx he
      obtain ⟨d, e, kk⟩ := Post.of (o := o) h
      obtain ⟨hs, hlt, hc, dd, i1, i2, hd, hf, hh⟩ := o.err hz hx he
      cases q : c.sub x.c y with
      | none => rw [q] at e; cases e
      | some b =>
        rw [q] at e
        cases e
        exact ⟨.ref Z.xa, hs, .ref (Z.ca y), Z.ca x.c, dd, _, b, rfl, hc, hd, hh, (hz.ox _ hlt).2.2.2, .inl ⟨_, .own _, (hz.sb _ _ _ q).2.2⟩, kk _ G H (Pu.refl o.ex) rfl⟩
    · exact h.elim
  | .xt i ys, W, σ, ε, G, H, Q, o, h => by
    unfold E.run at h
    split at h
    · rename_i x hx he
      split at h
      · rename_i hl
        obtain ⟨d, e, kk⟩ := Post.of (o := o) h
        obtain ⟨hs, hlt, hc, dd, i1, i2, hd, hf, hh⟩ := o.err hz hx he
        cases q : subAny c x.c ys with
        | none => rw [q] at e; cases e
        | some b =>
          rw [q] at e
          cases e
          refine ⟨.ref Z.xa, hs, clsA_run Z ys ⟨by rw [List.length_map]; exact Nat.le_trans hl (by decide), fun p hp => ?_⟩⟩
          have ne : dd ≠ p := ne_of_none hh hp
          exact ⟨.ref p, Z.ca x.c, dd, _, b, rfl, hc, hd, by rw [upd_ne ne]; exact hh, (hz.ox _ hlt).2.2.2, .inr ⟨p, _, _, rfl, upd_same, cls_paired Z ys, any_kit hz x.c ys q⟩, kk _ _ _ (Pu.new o.ex hp) rfl⟩
      · exact h.elim
    · exact h.elim
theorem Es.sound {c : Cn} {pn : Pin} (hz : Z.Fine c pn) : ∀ (e : Es) {W : WX} {σ : L2.St} {ε : En} {G H : Hp} {Q : List V → Hp → Prop}, Ok Z.K pn σ ε G H → Post Z W pn σ ε G H (VPs Z.K) Q (e.run c (pn.l.map (·.1)) ε) → e.rd Z W σ H Q
  | .nil, W, σ, ε, G, H, Q, o, h => by
    unfold Es.run at h
    exact h [] G H (Aft.refl o) rfl
  | .cons e es, W, σ, ε, G, H, Q, o, h => by
    unfold Es.run at h
    refine E.sound hz e o (Post.bind h fun x ε1 v G1 H1 a1 r1 h1 => ?_)
    refine Es.sound hz es a1.ok (Post.bind h1 fun xs ε2 vs G2 H2 a2 r2 h2 => ?_)
    exact h2 _ _ _ (Aft.refl a2.ok) ⟨v, vs, rfl, Rp.mono a2.g _ _ r1, r2⟩
theorem As.sound {c : Cn} {pn : Pin} (hz : Z.Fine c pn) : ∀ (e : As) {W : WX} {σ : L2.St} {ε : En} {G H : Hp} {Q : List V → Hp → Prop}, Ok Z.K pn σ ε G H → Post Z W pn σ ε G H (ArgP Z.K σ) Q (e.run c (pn.l.map (·.1)) ε) → e.rd Z W σ H Q
  | .nil, W, σ, ε, G, H, Q, o, h => by
    unfold As.run at h
    exact h [] G H (Aft.refl o) rfl
  | .d e es, W, σ, ε, G, H, Q, o, h => by
    unfold As.run at h
    refine E.sound hz e o (Post.bind h fun x ε1 v G1 H1 a1 r1 h1 => ?_)
    refine As.sound hz es a1.ok (Post.bind h1 fun xs ε2 vs G2 H2 a2 r2 h2 => ?_)
    exact h2 _ _ _ (Aft.refl a2.ok) ⟨v, vs, rfl, Rp.mono a2.g _ _ r1, r2⟩
  | .o i es, W, σ, ε, G, H, Q, o, h => by
    unfold As.run at h
    split at h
    · rename_i hw
      obtain ⟨v, hv⟩ := o.isOw hw
      refine ⟨_, hv, ?_⟩
      refine As.sound hz es o (Post.bind h fun xs ε2 vs G2 H2 a2 r2 h2 => ?_)
      exact h2 _ _ _ (Aft.refl a2.ok) ⟨_, vs, rfl, hv, r2⟩
    · exact h.elim
theorem OE.sound {c : Cn} {pn : Pin} (hz : Z.Fine c pn) : ∀ (e : OE) {W : WX} {σ : L2.St} {ε : En} {G H : Hp} {Q : Option Int → Hp → Prop}, Ok Z.K pn σ ε G H → Post Z W pn σ ε G H IdP Q (e.run c (pn.l.map (·.1)) ε) → e.rd Z W σ H Q
  | .no, W, σ, ε, G, H, Q, o, h => by
    unfold OE.run at h
    exact h none G H (Aft.refl o) rfl
  | .so e, W, σ, ε, G, H, Q, o, h => by
    unfold OE.run at h
    refine E.sound hz e o (Post.bind h fun x ε1 v G1 H1 a1 r1 h1 => ?_)
    split at h1
    · cases (show v = V.int _ from r1)
      exact ⟨_, rfl, h1 _ _ _ (Aft.refl a1.ok) rfl⟩
    · exact h1.elim
theorem T.sound {c : Cn} {pn : Pin} (hz : Z.Fine c pn) : ∀ (e : T) {W : WX} {σ : L2.St} {ε : En} {G H : Hp} {Q : Bool → Hp → Prop}, Ok Z.K pn σ ε G H → Post Z W pn σ ε G H IdP Q (e.run c (pn.l.map (·.1)) ε) → e.rd Z W σ H Q
  | .val e, W, σ, ε, G, H, Q, o, h => by
    unfold T.run at h
    refine E.sound hz e o (Post.bind h fun x ε1 v G1 H1 a1 r1 h1 => ?_)
    split at h1
    · cases (show v = V.bl _ from r1)
      exact ⟨_, rfl, h1 _ _ _ (Aft.refl a1.ok) rfl⟩
    · exact h1.elim
  | .tru e, W, σ, ε, G, H, Q, o, h => by
    unfold T.run at h
    refine E.sound hz e o (Post.bind h fun x ε1 v G1 H1 a1 r1 h1 => ?_)
    obtain ⟨b, q, k⟩ := Post.of (o := a1.ok) h1
    exact ⟨b, tru_sound q a1.ok.ex (.inl r1), k _ _ _ (Pu.refl a1.ok.ex) rfl⟩
  | .truo i, W, σ, ε, G, H, Q, o, h => by
    unfold T.run at h
    obtain ⟨b, q, k⟩ := Post.of (o := o) h
    cases q2 : getL ε i with
    | none => rw [q2] at q; cases q
    | some x =>
      rw [q2] at q
      obtain ⟨v, w1, w2⟩ := o.lst q2
      exact ⟨v, w1, b, tru_sound q o.ex w2, k _ _ _ (Pu.refl o.ex) rfl⟩
  | .and a b, W, σ, ε, G, H, Q, o, h => by
    unfold T.run at h
    refine T.sound hz a o (Post.bind h fun x ε1 v G1 H1 a1 r1 h1 => ?_)
    cases (show x = v from r1)
    cases x with
    | true => rw [if_pos rfl] at h1 ⊢; exact T.sound hz b a1.ok h1
    | false => rw [if_neg Bool.false_ne_true] at h1 ⊢; exact h1 _ _ _ (Aft.refl a1.ok) rfl
  | .or a b, W, σ, ε, G, H, Q, o, h => by
    unfold T.run at h
    refine T.sound hz a o (Post.bind h fun x ε1 v G1 H1 a1 r1 h1 => ?_)
    cases (show x = v from r1)
    cases x with
    | true => rw [if_pos rfl] at h1 ⊢; exact h1 _ _ _ (Aft.refl a1.ok) rfl
    | false => rw [if_neg Bool.false_ne_true] at h1 ⊢; exact T.sound hz b a1.ok h1
  | .not a, W, σ, ε, G, H, Q, o, h => by
    unfold T.run at h
    refine T.sound hz a o (Post.bind h fun x ε1 v G1 H1 a1 r1 h1 => ?_)
    cases (show x = v from r1)
    exact h1 _ _ _ (Aft.refl a1.ok) rfl
theorem Ts.sound {c : Cn} {pn : Pin} (hz : Z.Fine c pn) : ∀ (e : Ts) {W : WX} {σ : L2.St} {ε : En} {G H : Hp} {Q : Bool → Hp → Prop}, Ok Z.K pn σ ε G H → Post Z W pn σ ε G H IdP Q (e.run c (pn.l.map (·.1)) ε) → e.rd Z W σ H Q
  | .nil, W, σ, ε, G, H, Q, o, h => by
    unfold Ts.run at h
    exact h _ _ _ (Aft.refl o) rfl
  | .one t, W, σ, ε, G, H, Q, o, h => by
    unfold Ts.run at h
    exact T.sound hz t o h
theorem It.sound {c : Cn} {pn : Pin} (hz : Z.Fine c pn) : ∀ (e : It) {W : WX} {σ : L2.St} {ε : En} {G H : Hp} {Q : L2.It → Hp → Prop}, Ok Z.K pn σ ε G H → Post Z W pn σ ε G H (Wk Z.K) Q (e.run c (pn.l.map (·.1)) ε) → e.rd Z W σ H Q
  | .lst e, W, σ, ε, G, H, Q, o, h => by
    unfold It.run at h
    refine E.sound hz e o (Post.bind h fun x ε1 v G1 H1 a1 r1 h1 => ?_)
    split at h1
    · obtain ⟨p, vs, rfl, p1, p2⟩ := r1
      exact ⟨p, rfl, ⟨vs, SqL.of (a1.ok.ex _ _ p1)⟩, h1 _ _ _ (Aft.refl a1.ok) (wk_list (SqL.of p1) p2)⟩
    · obtain ⟨p, vs, rfl, p1, p2⟩ := r1
      exact ⟨p, rfl, ⟨vs, ex_l a1.ok.ex p1⟩, h1 _ _ _ (Aft.refl a1.ok) (wk_list p1 p2)⟩
    · exact h1.elim
  | .tup e, W, σ, ε, G, H, Q, o, h => by
    unfold It.run at h
    refine E.sound hz e o (Post.bind h fun x ε1 v G1 H1 a1 r1 h1 => ?_)
    split at h1
    · obtain ⟨p, vs, rfl, p1, p2⟩ := r1
      exact ⟨p, rfl, ⟨vs, (p1.mono a1.ok.ex).sq⟩, h1 _ _ _ (Aft.refl a1.ok) (wk_tup p1.sq p2)⟩
    · exact h1.elim
  | .str e, W, σ, ε, G, H, Q, o, h => by
    unfold It.run at h
    refine E.sound hz e o (Post.bind h fun x ε1 v G1 H1 a1 r1 h1 => ?_)
    split at h1
    · cases (show v = V.str _ from r1)
      exact ⟨_, rfl, h1 _ _ _ (Aft.refl a1.ok) wk_str⟩
    · exact h1.elim
  | .r1 a, W, σ, ε, G, H, Q, o, h => by
    unfold It.run at h
    refine E.sound hz a o (Post.bind h fun x ε1 v G1 H1 a1 r1 h1 => ?_)
    split at h1
    · rename_i i
      split at h1
      · rename_i hs
        unfold small at hs
        rw [Bool.and_eq_true] at hs
        cases (show v = V.int _ from r1)
        refine ⟨i, rfl, of_decide_eq_true hs.1, of_decide_eq_true hs.2, h1 _ _ _ (Aft.refl a1.ok) ?_⟩
        have := wk_rng (K := Z.K) (G := G1) (a := 0) (b := i)
        rw [Int.sub_zero] at this
        exact this
      · exact h1.elim
    · exact h1.elim
  | .r2 a b, W, σ, ε, G, H, Q, o, h => by
    unfold It.run at h
    refine E.sound hz a o (Post.bind h fun x ε1 v G1 H1 a1 r1 h1 => ?_)
    refine E.sound hz b a1.ok (Post.bind h1 fun y ε2 u G2 H2 a2 r2 h2 => ?_)
    split at h2
    · rename_i i j
      split at h2
      · rename_i hs
        unfold small at hs
        rw [Bool.and_eq_true, Bool.and_eq_true, Bool.and_eq_true] at hs
        cases (show v = V.int _ from r1)
        cases (show u = V.int _ from r2)
        exact ⟨i, j, rfl, ⟨of_decide_eq_true hs.1.1, of_decide_eq_true hs.1.2, of_decide_eq_true hs.2.1, of_decide_eq_true hs.2.2⟩, h2 _ _ _ (Aft.refl a2.ok) wk_rng⟩
      · exact h2.elim
    · exact h2.elim
  | .own i, W, σ, ε, G, H, Q, o, h => by
    unfold It.run at h
    split at h
    · exact h.elim
    · rename_i hio
      split at h
      · rename_i ds e
        obtain ⟨v, G', h1, h2, h3⟩ := Aft.frz o hio e
        obtain ⟨p, vs, rfl, p1, p2⟩ := h3
        exact ⟨_, h1, p, rfl, ⟨vs, SqL.of (h2.ok.ex _ _ p1)⟩, h _ G' H h2 (wk_list (SqL.of p1) p2)⟩
      · exact h.elim
end
end
end Mp
/-! A mini language over HandS, 10: what is run is told (statements). -/
namespace Mp
open PySem L2 Evl
open SX (S S_len S_cat S_inj)
section
variable {K : PySem.W.Frag} {G G' H H' G1 G2 H1 H2 : Hp} {pn : Pin} {σ σ1 σ2 : L2.St} {ε ε1 ε2 : En} {Z : Rc} {W : WX}
def RetS (K : PySem.W.Frag) (pn : Pin) (σ : L2.St) (ε : En) (H G' H' : Hp) : Sl → V → Prop
  | .da d, v => Rp K G' d v
  | .ow ct, v => ∃ p, v = .ref p ∧ (own σ ε p ∨ H p = none) ∧ G' p = none ∧ HC K G' H' p ct ∧ ∀ q ∈ pn.l, q.2 ≠ p
  | .no, _ => False
  | .ex, _ => False
theorem Aft.old (a : Aft K pn σ ε G H σ1 ε1 G1 H1) {p : Addr} (h : own σ1 ε1 p ∨ H1 p = none) : own σ ε p ∨ H p = none := by
  rcases h with h | h
  · exact a.w p h
  · by_cases n : own σ ε p
    · exact .inl n
    · refine .inr ?_
      cases q : H p with
      | none => rfl
      | some u => rw [a.h p u n q] at h; cases h
theorem RetS.up (a : Aft K pn σ ε G H σ1 ε1 G1 H1) {r : Sl} {v : V} (h : RetS K pn σ1 ε1 H1 G' H' r v) : RetS K pn σ ε H G' H' r v := by
  cases r with
  | da d => exact h
  | no => exact h
  | ex => exact h
  | ow ct =>
    obtain ⟨p, h1, h2, h3⟩ := h
    exact ⟨p, h1, a.old h2, h3⟩
def EndAt (K : PySem.W.Frag) (pn : Pin) (σ : L2.St) (ε : En) (H : Hp) (D : Ends) (σ' : L2.St) (G' H' : Hp) : Fl → Prop
  | .nxt => D.nx σ' H'
  | .brk => D.bk σ' H'
  | .cnt => D.ct σ' H'
  | .ret r => ∀ v, RetS K pn σ ε H G' H' r v → D.rt v H'
def SPost (Z : Rc) (W : WX) (pn : Pin) (σ : L2.St) (ε : En) (G H : Hp) (D : Ends) : R Fl → Prop
  | .no => False
  | .ok fl ε' => ∀ σ' G' H', Aft Z.K pn σ ε G H σ' ε' G' H' → EndAt Z.K pn σ ε H D σ' G' H' fl
  | .er x ε' => ∀ cls d σ' G' H', Aft Z.K pn σ ε G H σ' ε' G' H' → Z.xr x cls d H' → W cls d σ' H'
theorem EndAt.up {D : Ends} {σ' : L2.St} {fl : Fl} (a : Aft K pn σ ε G H σ1 ε1 G1 H1) (h : EndAt K pn σ ε H D σ' G' H' fl) : EndAt K pn σ1 ε1 H1 D σ' G' H' fl := by
  cases fl with
  | ret r => exact fun v q => h v (q.up a)
  | nxt => exact h
  | brk => exact h
  | cnt => exact h
theorem SPost.shift {D : Ends} (a : Aft Z.K pn σ ε G H σ1 ε1 G1 H1) {r : R Fl} (h : SPost Z W pn σ ε G H D r) : SPost Z W pn σ1 ε1 G1 H1 D r := by
  cases r with
  | no => exact h
  | ok fl ε' => exact fun σ' G' H' b => (h σ' G' H' (a.trans b)).up a
  | er x ε' => exact fun cls d σ' G' H' b => h cls d σ' G' H' (a.trans b)
/-- an expression, then the rest of the statement -/
theorem SPost.bind {D : Ends} {α β : Type} {P : α → β → Hp → Prop} {Q : β → Hp → Prop} {r : R α} {f : α → En → R Fl} (h : SPost Z W pn σ ε G H D (r.bind f))
    (k : ∀ a ε1 b G1 H1, Aft Z.K pn σ ε G H σ ε1 G1 H1 → P a b G1 → SPost Z W pn σ ε1 G1 H1 D (f a ε1) → Q b H1) : Post Z W pn σ ε G H P Q r := by
  cases r with
  | no => exact h
  | ok a ε1 => exact fun b G1 H1 z p => k a ε1 b G1 H1 z p (h.shift z)
  | er x ε1 => exact fun cls d G' H' z q => h cls d σ G' H' z q
/-- a new container of ours -/
def FPost (Z : Rc) (W : WX) (pn : Pin) (σ : L2.St) (ε : En) (G H : Hp) (Q : VK) : R Ct → Prop
  | .no => False
  | .ok ct ε' => ∀ p G' H', Aft Z.K pn σ ε G H σ ε' G' H' → (own σ ε p ∨ H p = none) → ¬ own σ ε' p → G' p = none → HC Z.K G' H' p ct → Q (.ref p) H'
  | .er x ε' => ∀ cls d G' H', Aft Z.K pn σ ε G H σ ε' G' H' → Z.xr x cls d H' → W cls d σ H'
theorem FPost.shift {Q : VK} (a : Aft Z.K pn σ ε G H σ ε1 G1 H1) {r : R Ct} (h : FPost Z W pn σ ε G H Q r) : FPost Z W pn σ ε1 G1 H1 Q r := by
  cases r with
  | no => exact h
  | ok ct ε' => exact fun p G' H' b o n g c => h p G' H' (a.trans b) (a.old o) n g c
  | er x ε' => exact fun cls d G' H' b => h cls d G' H' (a.trans b)
theorem FPost.bind {α β : Type} {P : α → β → Hp → Prop} {Q : β → Hp → Prop} {Q' : VK} {r : R α} {f : α → En → R Ct} (h : FPost Z W pn σ ε G H Q' (r.bind f))
    (k : ∀ a ε1 b G1 H1, Aft Z.K pn σ ε G H σ ε1 G1 H1 → P a b G1 → FPost Z W pn σ ε1 G1 H1 Q' (f a ε1) → Q b H1) : Post Z W pn σ ε G H P Q r := by
  cases r with
  | no => exact h
  | ok a ε1 => exact fun b G1 H1 z p => k a ε1 b G1 H1 z p (h.shift z)
  | er x ε1 => exact h

theorem FPost.bindE {α β : Type} {P : α → β → Hp → Prop} {Q : β → Hp → Prop} {Q' : VK} {r : R α} {f : α → En → R Ct} (h : FPost Z W pn σ ε G H Q' (r.bind f))
    (k : ∀ a ε1 b G1 H1, r = .ok a ε1 → Aft Z.K pn σ ε G H σ ε1 G1 H1 → P a b G1 → FPost Z W pn σ ε1 G1 H1 Q' (f a ε1) → Q b H1) : Post Z W pn σ ε G H P Q r := by
  cases r with
  | no => exact h
  | ok a ε1 => exact fun b G1 H1 z p => k a ε1 b G1 H1 rfl z p (h.shift z)
  | er x ε1 => exact h

/-! ### dicts -/
theorem rpk_any : ∀ (kvs : List (Ky × D)) (kv : List (Key × V)) (k : Ky), Rpk K G kvs kv → (kv.any fun p => decide (p.1 = k.k)) = (kvs.any fun p => decide (p.1 = k))
  | [], kv, k, h => by
    have e : kv = [] := by
      have := h.1
      cases kv with
      | nil => rfl
      | cons _ _ => cases this
    rw [e]; rfl
  | (k', d) :: r, kv, k, h => by
    obtain ⟨h1, v, us, h2, h3, h4⟩ := h
    cases kv with
    | nil => cases h2
    | cons q qs =>
      injection h1 with h1a h1b
      injection h2 with h2a h2b
      rw [List.any_cons, List.any_cons, rpk_any r qs k ⟨h1b, by rw [h2b]; exact h4⟩]
      congr 1
      have e : q.1 = Ky.k k' := h1a
      by_cases z : k' = k
      · rw [decide_eq_true (show q.1 = k.k by rw [e, z]), decide_eq_true z]
      · rw [decide_eq_false (show ¬ q.1 = k.k from fun y => z (Ky.k_inj (e.symm.trans y))), decide_eq_false z]
theorem rpk_map : ∀ (kvs : List (Ky × D)) (kv : List (Key × V)) (k : Ky) (d : D) (v : V), Rpk K G kvs kv → Rp K G d v →
    Rpk K G (kvs.map fun p => if p.1 = k then (p.1, d) else p) (kv.map fun p => if p.1 = k.k then (p.1, v) else p)
  | [], kv, k, d, v, h, r => by
    have e : kv = [] := by
      have := h.1
      cases kv with
      | nil => rfl
      | cons _ _ => cases this
    rw [e]
    exact ⟨rfl, rfl⟩
  | (k', d') :: rs, kv, k, d, v, h, r => by
    obtain ⟨h1, u, us, h2, h3, h4⟩ := h
    cases kv with
    | nil => cases h2
    | cons q qs =>
      injection h1 with h1a h1b
      injection h2 with h2a h2b
      obtain ⟨i1, i2⟩ := rpk_map rs qs k d v ⟨h1b, by rw [h2b]; exact h4⟩ r
      have e : q.1 = Ky.k k' := h1a
      rw [List.map_cons, List.map_cons]
      by_cases z : k' = k
      · rw [if_pos (show q.1 = k.k by rw [e, z]), if_pos z]
        exact ⟨by rw [List.map_cons, List.map_cons, i1, e], v, _, rfl, r, i2⟩
      · rw [if_neg (show ¬ q.1 = k.k from fun y => z (Ky.k_inj (e.symm.trans y))), if_neg z]
        exact ⟨by rw [List.map_cons, List.map_cons, i1, e], u, _, by rw [List.map_cons, show q.2 = u from h2a], h3, i2⟩
theorem rpk_put {kvs : List (Ky × D)} {kv : List (Key × V)} {k : Ky} {d : D} {v : V} (h : Rpk K G kvs kv) (r : Rp K G d v) : Rpk K G (putKy kvs k d) (putK kv k.k v) := by
  unfold putKy putK
  rw [rpk_any kvs kv k h]
  by_cases z : (kvs.any fun p => decide (p.1 = k)) = true
  · rw [if_pos z, if_pos z]
    exact rpk_map kvs kv k d v h r
  · rw [if_neg z, if_neg z]
    exact ⟨by rw [List.map_append, List.map_append, h.1]; rfl, by rw [List.map_append, List.map_append]; exact Rps.snoc h.2 r⟩
theorem rpk_len {kvs : List (Ky × D)} {kv : List (Key × V)} (h : Rpk K G kvs kv) : kv.length = kvs.length := by
  have := congrArg List.length h.1
  simpa using this
theorem rpk_mono (e : Ex G G') {kvs : List (Ky × D)} {kv : List (Key × V)} (h : Rpk K G kvs kv) : Rpk K G' kvs kv := ⟨h.1, Rps.mono e _ _ h.2⟩
/-- the content of a slot of ours changes -/
theorem Ok.content (o : Ok K pn σ ε G H) {i : Nat} {c c' : Ct} {p : Addr} {u : HO} (e : ε[i]? = some (.ow c)) (hs : σ[i]? = some (some (.ref p))) (hc : HC K G (L2.upd H p u) p c') : Ok K pn σ (ε.set i (.ow c')) G (L2.upd H p u) := by
  have hi : i < ε.length := (List.getElem?_eq_some_iff.mp e).1
  obtain ⟨p', h1, h2, h3⟩ := o.ow i c e
  rw [hs] at h1
  cases h1
  have ne : ∀ (j : Nat) (s : Sl), j ≠ i → (ε.set i (.ow c'))[j]? = some s → ε[j]? = some s := fun j s z q => by
    rw [List.getElem?_set_ne (Ne.symm z)] at q; exact q
  have isow : ∀ (j : Nat) (d : Ct), (ε.set i (.ow c'))[j]? = some (.ow d) → ∃ d', ε[j]? = some (.ow d') := fun j d q => by
    by_cases z : j = i
    · exact ⟨c, z ▸ e⟩
    · exact ⟨d, ne j _ z q⟩
  refine ⟨fun a x q => ?_, by rw [len_set]; exact o.len, fun j d q => ?_, fun j d q => ?_, fun j k d d' a hjk q1 q2 q3 => ?_, fun q hq => ?_, fun j q => o.px j (ex_set (s := .ow c') (fun z => nomatch z) q), o.g0⟩
  · have z : a ≠ p := fun y => by rw [y, h2] at q; cases q
    rw [upd_ne z]; exact o.ex a x q
  · have z : j ≠ i := fun y => by rw [y, List.getElem?_set_self hi] at q; cases q
    exact o.da j d (ne j _ z q)
  · by_cases z : j = i
    · subst z
      rw [List.getElem?_set_self hi] at q
      cases q
      exact ⟨p, hs, h2, hc⟩
    · have q' := ne j _ z q
      obtain ⟨a, b1, b2, b3⟩ := o.ow j d q'
      have na : a ≠ p := fun y => o.ap j i d c a z q' e b1 (by rw [y]; exact hs)
      exact ⟨a, b1, b2, b3.mono (Ex.refl G) (upd_ne na)⟩
  · obtain ⟨e1, w1⟩ := isow j d q1
    obtain ⟨e2, w2⟩ := isow k d' q2
    exact o.ap j k e1 e2 a hjk w1 w2 q3
  · obtain ⟨a, d, b⟩ := o.pin q hq
    refine ⟨a, ?_⟩
    by_cases z : q.1 = i
    · exact ⟨c', by rw [z, List.getElem?_set_self hi]⟩
    · exact ⟨d, by rw [List.getElem?_set_ne (Ne.symm z)]; exact b⟩
theorem Aft.content (a : Aft K pn σ ε G H σ ε1 G1 H1) {i : Nat} {c c' : Ct} {p : Addr} {u : HO} (e : ε1[i]? = some (.ow c)) (hs : σ[i]? = some (some (.ref p))) (hc : HC K G1 (upd H1 p u) p c') : Aft K pn σ ε G H σ (ε1.set i (.ow c')) G1 (upd H1 p u) := by
  have hw : own σ ε1 p := ⟨i, c, e, hs⟩
  refine ⟨a.ok.content e hs hc, a.g, fun x o n q => ?_, a.f, fun x ⟨j, d, q1, q2⟩ => ?_⟩
  · have z : x ≠ p := fun y => by
      rcases a.w p hw with w | w
      · exact n (y ▸ w)
      · rw [← y, q] at w; cases w
    rw [upd_ne z]
    exact a.h x o n q
  · refine a.w x ?_
    by_cases z : j = i
    · exact ⟨i, c, e, z ▸ q2⟩
    · rw [List.getElem?_set_ne (Ne.symm z)] at q1
      exact ⟨j, d, q1, q2⟩
/-- a slot takes a new container of ours -/
theorem Aft.take (a : Aft K pn σ ε G H σ ε1 G1 H1) {i : Nat} {ct : Ct} {p : Addr} (hi : i < ε1.length) (hio : i ∉ pn.l.map (·.1)) (old : own σ ε p ∨ H p = none) (n : ¬ own σ ε1 p) (g : G1 p = none) (hc : HC K G1 H1 p ct) :
    Aft K pn σ ε G H (σ.set i (some (.ref p))) (ε1.set i (.ow ct)) G1 H1 := by
  have o := a.ok
  have hσ : i < σ.length := by rw [← o.len]; exact hi
  have ne : ∀ (j : Nat) (s : Sl), j ≠ i → (ε1.set i (.ow ct))[j]? = some s → ε1[j]? = some s := fun j s z q => by
    rw [List.getElem?_set_ne (Ne.symm z)] at q; exact q
  have sg : ∀ j : Nat, j ≠ i → (σ.set i (some (V.ref p)))[j]? = σ[j]? := fun j z => List.getElem?_set_ne (Ne.symm z)
  refine ⟨⟨o.ex, by rw [len_set, List.length_set]; exact o.len, fun j d q => ?_, fun j d q => ?_, fun j k d d' x hjk q1 q2 q3 => ?_, fun q hq => ?_, fun j q => ?_, o.g0⟩, a.g, a.h, a.f, fun x ⟨j, d, q1, q2⟩ => ?_⟩
  · have z : j ≠ i := fun y => by rw [y, List.getElem?_set_self hi] at q; cases q
    rw [sg j z]
    exact o.da j d (ne j _ z q)
  · by_cases z : j = i
    · subst z
      rw [List.getElem?_set_self hi] at q
      cases q
      exact ⟨p, List.getElem?_set_self hσ, g, hc⟩
    · rw [sg j z]
      exact o.ow j d (ne j _ z q)
  · by_cases z1 : j = i
    · subst z1
      have z2 : k ≠ j := Ne.symm hjk
      rw [List.getElem?_set_self hσ] at q3
      cases q3
      rw [sg k z2]
      intro w
      exact n ⟨k, d', ne k _ z2 q2, w⟩
    · rw [sg j z1] at q3
      by_cases z2 : k = i
      · subst z2
        rw [List.getElem?_set_self hσ]
        intro w
        cases w
        exact n ⟨j, d, ne j _ z1 q1, q3⟩
      · rw [sg k z2]
        exact o.ap j k d d' x hjk (ne j _ z1 q1) (ne k _ z2 q2) q3
  · obtain ⟨x, d, b⟩ := o.pin q hq
    have z := io_pin hio hq
    exact ⟨by rw [sg _ z]; exact x, d, by rw [List.getElem?_set_ne (Ne.symm z)]; exact b⟩
  · have z : j ≠ i := fun y => by rw [y, List.getElem?_set_self hi] at q; cases q
    rw [sg j z]
    exact o.px j (ne j _ z q)
  · by_cases z : j = i
    · subst z
      rw [List.getElem?_set_self hσ] at q2
      cases q2
      exact old
    · rw [sg j z] at q2
      exact a.w x ⟨j, d, ne j _ z q1, q2⟩

/-! ### what makes a container of ours -/
theorem F.sound {c : Cn} (hz : Z.Fine c pn) (f : F) {Q : VK} (o : Ok Z.K pn σ ε G H) (h : FPost Z W pn σ ε G H Q (f.run c (pn.l.map (·.1)) ε)) : f.rd Z W σ H Q := by
  cases f with
  | lst es =>
    unfold F.run at h
    refine Es.sound hz es o (FPost.bind h fun xs ε1 vs G1 H1 a1 r1 h1 => ?_)
    split at h1
    · rename_i hl
      refine ⟨by rw [Rps.length _ _ r1]; exact sz_line hl, fun p hp => ?_⟩
      have g := none_of_ex a1.ok.ex hp
      have np : ¬ own σ ε1 p := fun w => by
        obtain ⟨_, u, hu⟩ := a1.ok.ownG w
        rw [hp] at hu
        cases hu
      refine h1 p G1 _ ⟨a1.ok.upd g np, Ex.refl G1, fun x u _ e => ?_, fun _ _ e _ => e, fun _ w => .inl w⟩ (.inr hp) np g ⟨vs, upd_same, r1⟩
      rw [upd_ne (ne_of_none e hp)]
      exact e
    · exact h1.elim
  | call f as =>
    unfold F.run at h
    refine As.sound hz as o (FPost.bind h fun xs ε1 vs G1 H1 a1 r1 h1 => ?_)
    refine call_sound hz a1.ok r1 ?_
    cases q : callR c f xs ε1 with
    | no => rw [q] at h1; exact h1.elim
    | er x ε2 => rw [q] at h1; exact h1
    | ok r ε2 =>
      rw [q] at h1
      intro v G' H' a sub ro
      cases r with
      | da d => exact h1.elim
      | no => exact h1.elim
      | ex => exact h1.elim
      | ow c =>
        obtain ⟨p, rfl, p1, p2, p3⟩ := ro
        refine h1 p G' H' a (.inr p1) (fun ⟨i, c', e1, e2⟩ => ?_) p2 p3
        obtain ⟨c0, e0⟩ := sub i c' e1
        obtain ⟨_, u, hu⟩ := a1.ok.ownG ⟨i, c0, e0, e2⟩
        rw [p1] at hu
        cases hu
  | dct ps =>
    unfold F.run at h
    show tDisp (pairsRd Z W ps) σ H Q
    intro p hp
    have g := none_of_ex o.ex hp
    have np : ¬ own σ ε p := fun w => by
      obtain ⟨_, u, hu⟩ := o.ownG w
      rw [hp] at hu
      cases hu
    have a0 : Aft Z.K pn σ ε G H σ ε G (upd H p (.dK [])) := ⟨o.upd g np, Ex.refl G, fun x u _ e => by rw [upd_ne (ne_of_none e hp)]; exact e, fun _ _ e _ => e, fun _ w => .inl w⟩
    -- the pairs, while the dict stands empty
    have key : ∀ (ps : List (D × E)) {ε : En} {G H0 : Hp} {Q1 : List (V × V) → Hp → Prop} {f : List (Ky × D) → En → R Ct}, Ok Z.K pn σ ε G H0 → H0 p = some (.dK []) → G p = none → ¬ own σ ε p → FPost Z W pn σ ε G H0 Q ((pairsRun c (pn.l.map (·.1)) ps ε).bind f) →
        (∀ kvs ε1 G1 H1 kv, pairsRun c (pn.l.map (·.1)) ps ε = .ok kvs ε1 → Aft Z.K pn σ ε G H0 σ ε1 G1 H1 → H1 p = some (.dK []) → G1 p = none → ¬ own σ ε1 p → Rpk Z.K G1 kvs kv → Q1 (kv.map fun q => (kV q.1, q.2)) H1) → tPairs (pairsRd Z W ps) σ H0 Q1 := by
      intro ps
      induction ps with
      | nil =>
        intro ε G H0 Q1 f o hd g n h k
        exact k [] ε G H0 [] rfl (Aft.refl o) hd g n ⟨rfl, rfl⟩
      | cons q ps ih =>
        intro ε G H0 Q1 f o hd g n h k
        obtain ⟨kd, e⟩ := q
        unfold pairsRun at h k
        show tPairs ((tC (vD kd), e.rd Z W) :: pairsRd Z W ps) σ H0 Q1
        show e.rd Z W σ H0 _
        cases hk : kyD kd with
        | none => rw [hk] at h; exact h.elim
        | some ky =>
          rw [hk] at h k
          have hvk : vD kd = kV ky.k := by
            cases kd <;> first | (cases hk; done) | (cases Option.some.inj hk; rfl)
          have h : FPost Z W pn σ ε G H0 Q (((e.run c (pn.l.map (·.1)) ε).bind fun x ε1 => (pairsRun c (pn.l.map (·.1)) ps ε1).bind fun xs ε2 => .ok ((ky, x) :: xs) ε2).bind f) := h
          have hb : ∀ {α β γ : Type} (r : R α) (f : α → En → R β) (g : β → En → R γ), (r.bind f).bind g = r.bind fun a ε => (f a ε).bind g := fun r f g => by cases r <;> rfl
          rw [hb] at h
          refine E.sound hz e o (FPost.bindE h fun x ε1 v G1 H1 q1 a1 r1 h1 => ?_)
          rw [hb] at h1
          have hd1 := a1.h _ _ n hd
          have g1 := a1.f _ n g (by rw [hd]; exact lv_dk)
          have n1 : ¬ own σ ε1 p := fun w => by
            rcases a1.w _ w with z | z
            · exact n z
            · rw [hd] at z; cases z
          refine ih a1.ok hd1 g1 n1 h1 fun kvs ε2 G2 H2 kv q2 a2 hd2 g2 n2 r2 => ?_
          have := k ((ky, x) :: kvs) ε2 G2 H2 ((ky.k, v) :: kv) (by rw [q1]; show R.bind (pairsRun c (pn.l.map (·.1)) ps ε1) _ = _; rw [q2]; rfl) (a1.trans a2) hd2 g2 n2 ⟨by rw [List.map_cons, List.map_cons, r2.1], v, _, rfl, Rp.mono a2.g _ _ r1, r2.2⟩
          rw [hvk]
          exact this
    refine key ps a0.ok upd_same g np (h.shift a0) fun kvs ε1 G1 H1 kv qr a1 hd1 g1 n1 r1 => ?_
    have h2 : FPost Z W pn σ ε G H Q ((pairsRun c (pn.l.map (·.1)) ps ε).bind fun kvs ε1 => if kvs.length ≤ 15 then R.ok (Ct.dk (List.foldl (fun a p => putKy a p.1 p.2) [] kvs)) ε1 else R.no) := h
    rw [qr] at h2
    have h1 : FPost Z W pn σ ε G H Q (if kvs.length ≤ 15 then R.ok (Ct.dk (List.foldl (fun a p => putKy a p.fst p.snd) [] kvs)) ε1 else R.no) := h2
    split at h1
    · rename_i hl
      refine ⟨hd1, kv, rfl, by rw [rpk_len r1]; exact hl, ?_⟩
      have hm : ∀ (kvs : List (Ky × D)) (kv : List (Key × V)) (a : List (Ky × D)) (b : List (Key × V)), Rpk Z.K G1 a b → Rpk Z.K G1 kvs kv → Rpk Z.K G1 (kvs.foldl (fun a p => putKy a p.1 p.2) a) (mergeK b kv) := by
        intro kvs
        induction kvs with
        | nil =>
          intro kv a b hab h
          cases kv with
          | nil => exact hab
          | cons _ _ => cases h.1
        | cons q qs ih =>
          intro kv a b hab h
          obtain ⟨h1, u, us, h2, h3, h4⟩ := h
          cases kv with
          | nil => cases h2
          | cons z zs =>
            injection h1 with h1a h1b
            injection h2 with h2a h2b
            show Rpk Z.K G1 (qs.foldl _ (putKy a q.1 q.2)) (mergeK (putK b z.1 z.2) zs)
            have ez : z.1 = Ky.k q.1 := h1a
            rw [ez, show z.2 = u from h2a]
            exact ih zs _ _ (rpk_put hab h3) ⟨h1b, by rw [h2b]; exact h4⟩
      have hmm := hm kvs kv [] [] ⟨rfl, rfl⟩ r1
      have np2 : ∀ (x : Addr) (u : HO), H x = some u → x ≠ p := fun x u e => ne_of_none e hp
      refine h1 p G1 (upd H1 p (.dK (mergeK [] kv))) ⟨a1.ok.upd g1 n1, a1.g, fun x u nx e => ?_, fun x nx gx e => ?_, fun x w => ?_⟩ (.inr hp) n1 g1 ⟨_, upd_same, hmm⟩
      · rw [upd_ne (np2 x u e)]
        exact a1.h x u nx (by rw [upd_ne (np2 x u e)]; exact e)
      · cases q : H x with
        | none => exact absurd q e.1
        | some u => exact a1.f x nx gx (by rw [upd_ne (np2 x u q)]; exact e)
      · rcases a1.w x w with z | z
        · exact .inl z
        · by_cases y : x = p
          · exact .inr (by rw [y]; exact hp)
          · rw [upd_ne y] at z
            exact .inr z
    · exact h1.elim
end
end Mp
/-! A mini language over HandS, 11: what is run is told (statements, the theorem). -/
namespace Mp
open PySem L2 Evl
open SX (S S_len S_cat S_inj)
section
variable {K : PySem.W.Frag} {G G' H H' G1 G2 H1 H2 : Hp} {pn : Pin} {σ σ1 σ2 : L2.St} {ε ε1 ε2 : En} {Z : Rc} {W : WX}
theorem Pt.not_er {p : Pt} {d : D} {x : Er} (h : p.run d ε = .er x ε1) : False := by
  cases p with
  | nm j =>
    unfold Pt.run at h
    dsimp only at h
    split at h <;> cases h
  | tp js =>
    unfold Pt.run at h
    dsimp only at h
    split at h
    · split at h <;> cases h
    · cases h
theorem SPost.fl {D D' : Ends} {r : R Fl} {f : Fl → En → R Fl} (h : SPost Z W pn σ ε G H D (r.bind f))
    (nx : ∀ ε1 σ1 G1 H1, Aft Z.K pn σ ε G H σ1 ε1 G1 H1 → SPost Z W pn σ1 ε1 G1 H1 D (f .nxt ε1) → D'.nx σ1 H1)
    (ct : ∀ ε1 σ1 G1 H1, Aft Z.K pn σ ε G H σ1 ε1 G1 H1 → SPost Z W pn σ1 ε1 G1 H1 D (f .cnt ε1) → D'.ct σ1 H1)
    (bk : ∀ ε1 σ1 G1 H1, Aft Z.K pn σ ε G H σ1 ε1 G1 H1 → SPost Z W pn σ1 ε1 G1 H1 D (f .brk ε1) → D'.bk σ1 H1)
    (rt : D'.rt = D.rt) (hr : ∀ r ε, f (.ret r) ε = .ok (.ret r) ε) : SPost Z W pn σ ε G H D' r := by
  cases r with
  | no => exact h
  | er x ε1 => exact h
  | ok fl ε1 =>
    intro σ' G' H' a
    have h : SPost Z W pn σ ε G H D (f fl ε1) := h
    cases fl with
    | nxt => exact nx ε1 σ' G' H' a (h.shift a)
    | cnt => exact ct ε1 σ' G' H' a (h.shift a)
    | brk => exact bk ε1 σ' G' H' a (h.shift a)
    | ret r =>
      rw [hr] at h
      have := h σ' G' H' a
      show ∀ v, _ → D'.rt v H'
      rw [rt]
      exact this
theorem for_sound {p : Pt} {b : En → R Fl} {tb : TS} {items : List D} {J : L2.It} {D : Ends}
    (hb : ∀ {σ : L2.St} {ε : En} {G H : Hp} {D : Ends}, Ok Z.K pn σ ε G H → SPost Z W pn σ ε G H D (b ε) → tb D σ H)
    (o : Ok Z.K pn σ ε G H) (wk : Wk Z.K items J G) (h : SPost Z W pn σ ε G H D (forRun p b items ε)) :
    ∃ W : Nat → Nat → L2.St → Hp → Prop, (∃ m, W 0 m σ H) ∧ ∀ i m σ H, W i m σ H →
      (J.stop i H ∧ D.nx σ H) ∨ (J.go i H ∧ ∃ N : L2.St → Hp → Prop, (∀ σ' H', N σ' H' → ∃ m', m' < m ∧ W (i + 1) m' σ' H') ∧ ∀ x H', J.yld i H x H' → p.rd Z.K x σ H' fun σ2 H2 => tb { D with nx := N, ct := N, bk := D.nx } σ2 H2) := by
  obtain ⟨Gw, Y, wlk, hgw, hy⟩ := wk
  refine for_it wlk (fun i σi Hi => ∃ εi Gi, Ok Z.K pn σi εi Gi Hi ∧ Ex G Gi ∧ SPost Z W pn σi εi Gi Hi D (forRun p b (items.drop i) εi)) ⟨ε, G, o, Ex.refl G, h⟩ ?_ ?_ ?_
  · rintro i σi Hi _ ⟨εi, Gi, oi, gi, _⟩
    exact hgw _ (gi.trans oi.ex)
  · rintro i x σi Hi Hi' hi ⟨εi, Gi, oi, gi, hi2⟩ y
    obtain ⟨d, hd⟩ : ∃ d, items[i]? = some d := ⟨items[i], List.getElem?_eq_getElem hi⟩
    obtain ⟨Gc, pu, rx⟩ := hy i d Hi x Hi' hd y Gi gi oi.ex
    have a1 := Aft.pu oi pu
    rw [List.drop_eq_getElem_cons (by exact hi), show items[i] = d by rw [List.getElem?_eq_getElem hi] at hd; exact Option.some.inj hd] at hi2
    unfold forRun at hi2
    have hi2 := hi2.shift a1
    cases q : p.run d εi with
    | no => rw [q] at hi2; exact hi2.elim
    | er x ε1 => exact (Pt.not_er q).elim
    | ok u ε1 =>
      rw [q] at hi2
      have hi2 : SPost Z W pn σi εi Gc Hi' D ((b ε1).bind fun fl ε2 => match fl with
        | .nxt => forRun p b (items.drop (i + 1)) ε2
        | .cnt => forRun p b (items.drop (i + 1)) ε2
        | .brk => .ok .nxt ε2
        | .ret r => .ok (.ret r) ε2) := hi2
      refine Pt.sound a1.ok q rx fun σ2 o2 w2 _ => ?_
      have a2 : Aft Z.K pn σi εi Gc Hi' σ2 ε1 Gc Hi' := ⟨o2, Ex.refl Gc, fun _ _ _ e => e, fun _ _ e _ => e, fun x w => .inl (w2 x w)⟩
      refine hb o2 (SPost.fl (hi2.shift a2) (fun ε3 σ3 G3 H3 a3 h3 => ?_) (fun ε3 σ3 G3 H3 a3 h3 => ?_) (fun ε3 σ3 G3 H3 a3 h3 => ?_) rfl fun _ _ => rfl)
      · exact ⟨ε3, G3, a3.ok, gi.trans (pu.g.trans a3.g), h3⟩
      · exact ⟨ε3, G3, a3.ok, gi.trans (pu.g.trans a3.g), h3⟩
      · exact h3 σ3 G3 H3 (Aft.refl a3.ok)
  · rintro σi Hi ⟨εi, Gi, oi, gi, hi2⟩
    rw [List.drop_length] at hi2
    exact hi2 σi Gi Hi (Aft.refl oi)
theorem whl_sound {t : En → R Bool} {b : En → R Fl} {tt : TT} {tb : TS} {D : Ends} {n : Nat}
    (ht : ∀ {σ : L2.St} {ε : En} {G H : Hp} {Q : Bool → Hp → Prop}, Ok Z.K pn σ ε G H → Post Z W pn σ ε G H IdP Q (t ε) → tt σ H Q)
    (hb : ∀ {σ : L2.St} {ε : En} {G H : Hp} {D : Ends}, Ok Z.K pn σ ε G H → SPost Z W pn σ ε G H D (b ε) → tb D σ H)
    (o : Ok Z.K pn σ ε G H) (h : SPost Z W pn σ ε G H D (whlRun t b n ε)) : tWhile tt tb D σ H := by
  refine ⟨fun m σ H => ∃ ε G, Ok Z.K pn σ ε G H ∧ SPost Z W pn σ ε G H D (whlRun t b m ε), ⟨n, ε, G, o, h⟩, ?_⟩
  rintro m σ H ⟨ε, G, o, h⟩
  cases m with
  | zero => exact h.elim
  | succ m =>
    unfold whlRun at h
    refine ht o (SPost.bind h fun k ε1 k' G1 H1 a1 r1 h1 => ?_)
    cases (show k = k' from r1)
    cases k with
    | false =>
      rw [if_neg Bool.false_ne_true] at h1 ⊢
      exact h1 σ G1 H1 (Aft.refl a1.ok)
    | true =>
      rw [if_pos rfl] at h1 ⊢
      refine ⟨fun σ H => ∃ ε G, Ok Z.K pn σ ε G H ∧ SPost Z W pn σ ε G H D (whlRun t b m ε), fun σ' H' w => ⟨m, Nat.lt_succ_self m, w⟩, ?_⟩
      refine hb a1.ok (SPost.fl h1 (fun ε3 σ3 G3 H3 a3 h3 => ⟨ε3, G3, a3.ok, h3⟩) (fun ε3 σ3 G3 H3 a3 h3 => ⟨ε3, G3, a3.ok, h3⟩) (fun ε3 σ3 G3 H3 a3 h3 => h3 σ3 G3 H3 (Aft.refl a3.ok)) rfl fun _ _ => rfl)
theorem SPost.toF {D : Ends} {Q : VK} {r : R Ct} {f : Ct → En → R Fl} (h : SPost Z W pn σ ε G H D (r.bind f))
    (k : ∀ ct ε1 p G1 H1, Aft Z.K pn σ ε G H σ ε1 G1 H1 → (own σ ε p ∨ H p = none) → ¬ own σ ε1 p → G1 p = none → HC Z.K G1 H1 p ct → SPost Z W pn σ ε G H D (f ct ε1) → Q (.ref p) H1) : FPost Z W pn σ ε G H Q r := by
  cases r with
  | no => exact h
  | er x ε1 => exact fun cls d G' H' a => h cls d σ G' H' a
  | ok ct ε1 => exact fun p G1 H1 a o n g c => k ct ε1 p G1 H1 a o n g c h
/-! ### into a clause and out of it -/
theorem Ok.errz (o : Ok K pn σ ε G H) {dd : Addr} {fs : List (Str × V)} (hd : H dd = some (.xd fs)) : ∃ G2, Ok K pn σ ε G2 H ∧ Ex G G2 ∧ G2 dd = some (.xd fs) ∧ ∀ a, G a = none → Lv (H a) → G2 a = none := by
  have n : ¬ own σ ε dd := fun ⟨i, c, e1, e2⟩ => by
    obtain ⟨p, h1, _, h3⟩ := o.ow i c e1
    rw [e2] at h1
    cases h1
    exact h3.lv.2 fs hd
  cases hg : G dd with
  | none =>
    refine ⟨L2.upd G dd (.xd fs), o.freeze hd hg n, Ex.new hg, upd_same, fun a ga lv => ?_⟩
    have z : a ≠ dd := fun y => lv.2 fs (by rw [y]; exact hd)
    rw [upd_ne z]
    exact ga
  | some u =>
    have e := o.ex _ _ hg
    rw [hd] at e
    cases e
    exact ⟨G, o, Ex.refl G, hg, fun _ g _ => g⟩
theorem own_setx {j : Nat} {s : Sl} {v : Option V} (hs : ∀ c, s ≠ .ow c) {a : Addr} (w : own (σ.set j v) (ε.set j s) a) : own σ ε a := by
  obtain ⟨i, c, e1, e2⟩ := w
  by_cases z : i = j
  · subst z
    by_cases hi : i < ε.length
    · rw [List.getElem?_set_self hi] at e1
      exact absurd (Option.some.inj e1) (hs c)
    · rw [List.getElem?_eq_none (by rw [len_set]; omega)] at e1
      cases e1
  · rw [List.getElem?_set_ne (Ne.symm z)] at e1 e2
    exact ⟨i, c, e1, e2⟩
theorem own_unset {j : Nat} {s s0 : Sl} {v : Option V} (e : ε[j]? = some s0) (h0 : ∀ c, s0 ≠ .ow c) {a : Addr} (w : own σ ε a) : own (σ.set j v) (ε.set j s) a := by
  obtain ⟨i, c, e1, e2⟩ := w
  have z : i ≠ j := fun y => by rw [y, e] at e1; exact h0 c (Option.some.inj e1)
  exact ⟨i, c, by rw [List.getElem?_set_ne (Ne.symm z)]; exact e1, by rw [List.getElem?_set_ne (Ne.symm z)]; exact e2⟩
/-- a slot is forgotten, or holds the error; the rest as it was -/
theorem Ok.slot {pn2 : Pin} (o : Ok K pn σ ε G H) {i : Nat} {s : Sl} {v : Option V} (hs : s = .no ∨ s = .ex) (hl : ∀ q ∈ pn2.l, q ∈ pn.l) (hi : ∀ q ∈ pn2.l, q.1 ≠ i) (g0 : Ex pn2.g0 G)
    (px : ∀ j : Nat, (ε.set i s)[j]? = some .ex → j = pn2.xi ∧ ∃ a, pn2.xa = some a ∧ (σ.set i v)[j]? = some (some (.ref a))) : Ok K pn2 (σ.set i v) (ε.set i s) G H := by
  have ne : ∀ (j : Nat) (t : Sl), (t ≠ .no ∧ t ≠ .ex) → (ε.set i s)[j]? = some t → j ≠ i ∧ ε[j]? = some t := fun j t ht q => by
    by_cases z : j = i
    · subst z
      by_cases hj : j < ε.length
      · rw [List.getElem?_set_self hj] at q
        rcases hs with h | h
        · exact absurd (Option.some.inj q) (h ▸ fun y => ht.1 y.symm)
        · exact absurd (Option.some.inj q) (h ▸ fun y => ht.2 y.symm)
      · rw [List.getElem?_eq_none (by rw [len_set]; omega)] at q
        cases q
    · rw [List.getElem?_set_ne (Ne.symm z)] at q
      exact ⟨z, q⟩
  have sg : ∀ j : Nat, j ≠ i → (σ.set i v)[j]? = σ[j]? := fun j z => List.getElem?_set_ne (Ne.symm z)
  refine ⟨o.ex, by rw [len_set, List.length_set]; exact o.len, fun j d q => ?_, fun j c q => ?_, fun j k c c' p hjk q1 q2 q3 => ?_, fun q hq => ?_, px, g0⟩
  · obtain ⟨z, q⟩ := ne j (.da d) ⟨(fun y => nomatch y), fun y => nomatch y⟩ q
    rw [sg j z]
    exact o.da j d q
  · obtain ⟨z, q⟩ := ne j (.ow c) ⟨(fun y => nomatch y), fun y => nomatch y⟩ q
    rw [sg j z]
    exact o.ow j c q
  · obtain ⟨z1, q1⟩ := ne j (.ow c) ⟨(fun y => nomatch y), fun y => nomatch y⟩ q1
    obtain ⟨z2, q2⟩ := ne k (.ow c') ⟨(fun y => nomatch y), fun y => nomatch y⟩ q2
    rw [sg j z1] at q3
    rw [sg k z2]
    exact o.ap j k c c' p hjk q1 q2 q3
  · obtain ⟨x1, c, x2⟩ := o.pin q (hl q hq)
    have z := hi q hq
    exact ⟨by rw [sg _ z]; exact x1, c, by rw [List.getElem?_set_ne (Ne.symm z)]; exact x2⟩
def pinX (pn : Pin) (i : Nat) (a dd : Addr) (fs : List (Str × V)) : Pin := { l := pn.l, xi := i, xa := some a, g0 := fun b => if b = dd then some (.xd fs) else none }
theorem Ok.enter (o : Ok K pn σ ε G H) {i : Nat} {s : Sl} {a dd : Addr} {fs : List (Str × V)} (hx : pn.xa = none) (e : ε[i]? = some s) (hio : i ∉ pn.l.map (·.1)) (hd : G dd = some (.xd fs)) :
    Ok K (pinX pn i a dd fs) (σ.set i (some (.ref a))) (ε.set i .ex) G H := by
  have hi : i < ε.length := (List.getElem?_eq_some_iff.mp e).1
  have hσ : i < σ.length := by rw [← o.len]; exact hi
  refine o.slot (pn2 := pinX pn i a dd fs) (.inr rfl) (fun q hq => hq) (fun q hq => io_pin hio hq) (fun b u q => ?_) fun j q => ?_
  · have q : (if b = dd then some (HO.xd fs) else none) = some u := q
    split at q
    · rename_i z
      rw [z, hd]
      exact q
    · cases q
  · by_cases z : j = i
    · subst z
      exact ⟨rfl, a, rfl, List.getElem?_set_self hσ⟩
    · rw [List.getElem?_set_ne (Ne.symm z)] at q
      obtain ⟨_, a', h, _⟩ := o.px j q
      rw [hx] at h
      cases h
/-- behind a clause -/
theorem Aft.exit {G2 G3 H3 : Hp} {σ3 : L2.St} {ε3 : En} (o : Ok K pn σ ε G H) {i : Nat} {s : Sl} {a dd : Addr} {fs : List (Str × V)} (hs : ∀ c, s ≠ .ow c) (e : ε[i]? = some s) (hio : i ∉ pn.l.map (·.1)) (gx : Ex G G2) (hf : ∀ a, G a = none → Lv (H a) → G2 a = none)
    (q : Aft K (pinX pn i a dd fs) (σ.set i (some (.ref a))) (ε.set i .ex) G2 H σ3 ε3 G3 H3) : Aft K pn σ ε G H (σ3.set i none) (ε3.set i .no) G3 H3 := by
  have n1 : ∀ x, own (σ.set i (some (V.ref a))) (ε.set i .ex) x → own σ ε x := fun x w => own_setx (s := .ex) (fun c y => nomatch y) w
  refine ⟨q.ok.slot (pn2 := pn) (.inl rfl) (fun r hr => hr) (fun r hr => io_pin hio hr) ((o.g0.trans gx).trans q.g) fun j w => ?_, gx.trans q.g, fun x u n y => q.h x u (fun z => n (n1 x z)) y, fun x n g lv => q.f x (fun z => n (n1 x z)) (hf x g lv) lv, fun x w => ?_⟩
  · have w' := ex_set (s := .no) (fun z => nomatch z) w
    have z : j = i := (q.ok.px j w').1
    subst z
    have hj : j < ε3.length := (List.getElem?_eq_some_iff.mp w').1
    rw [List.getElem?_set_self hj] at w
    cases w
  · rcases q.w x (own_setx (s := .no) (fun c y => nomatch y) w) with z | z
    · exact .inl (n1 x z)
    · exact .inr z
mutual
theorem S_.sound : ∀ (s : S_) {Z : Rc} {W : WX} {c : Cn} {pn : Pin} (hz : Z.Fine c pn) {σ : L2.St} {ε : En} {G H : Hp} {D : Ends}, Ok Z.K pn σ ε G H → SPost Z W pn σ ε G H D (s.run c (pn.l.map (·.1)) ε) → s.rd Z W D σ H
  | .asg p e, Z, W, c, pn, hz, σ, ε, G, H, D, o, h => by
    unfold S_.run at h
    refine E.sound hz e o (SPost.bind h fun x ε1 v G1 H1 a1 r1 h1 => ?_)
    cases q : p.run x ε1 with
    | no => rw [q] at h1; exact h1.elim
    | er x ε1 => exact (Pt.not_er q).elim
    | ok u ε2 =>
      rw [q] at h1
      refine Pt.sound a1.ok q r1 fun σ2 o2 w2 _ => ?_
      exact h1 σ2 G1 H1 ⟨o2, Ex.refl G1, fun _ _ _ e => e, fun _ _ e _ => e, fun x w => .inl (w2 x w)⟩
  | .own i f, Z, W, c, pn, hz, σ, ε, G, H, D, o, h => by
    unfold S_.run at h
    split at h
    · exact h.elim
    · rename_i hio
      refine F.sound hz f o (SPost.toF h fun ct ε1 p G1 H1 a old n g c h1 => ?_)
      split at h1
      · rename_i hi
        exact h1 _ G1 H1 (a.take hi hio old n g c)
      · exact h1.elim
  | .aug i p e, Z, W, c, pn, hz, σ, ε, G, H, D, o, h => by
    unfold S_.run at h
    split at h
    · rename_i a e0
      obtain ⟨va, w1, w2⟩ := o.da i _ e0
      cases (show va = V.int a from w2)
      refine ⟨_, w1, E.sound hz e o (SPost.bind h fun y ε1 v G1 H1 a1 r1 h1 => ?_)⟩
      split at h1
      · rename_i d b e1
        cases (show v = V.int b from r1)
        have hi : i < ε1.length := (List.getElem?_eq_some_iff.mp e1).1
        have fin : ∀ z, Aft Z.K pn σ ε1 G1 H1 (σ.set i (some (V.int z))) (ε1.set i (.da (.int z))) G1 H1 := fun z =>
          ⟨a1.ok.set e1 (fun c y => nomatch y) rfl, Ex.refl G1, fun _ _ _ e => e, fun _ _ e _ => e, fun x w => .inl (own_set hi w)⟩
        split at h1
        · exact ⟨a, b, rfl, rfl, h1 _ G1 H1 (fin _)⟩
        · exact ⟨a, b, rfl, rfl, h1 _ G1 H1 (fin _)⟩
        · exact h1.elim
      · exact h1.elim
    · exact h.elim
  | .app i e, Z, W, c, pn, hz, σ, ε, G, H, D, o, h => by
    unfold S_.run at h
    split at h
    · rename_i ds0 e0
      obtain ⟨p, w1, w2, vs0, w3, _⟩ := o.ow i _ e0
      refine ⟨.ref p, w1, .inl ⟨rfl, vs0, SqL.of w3⟩, E.sound hz e o (SPost.bind h fun y ε1 v G1 H1 a1 r1 h1 => ?_)⟩
      split at h1
      · rename_i ds e1
        split at h1
        · rename_i hl
          obtain ⟨p', x1, x2, vs, x3, x4⟩ := a1.ok.ow i _ e1
          rw [w1] at x1
          cases x1
          refine ⟨p, vs, v, rfl, rfl, x3, by rw [Rps.length _ _ x4]; exact Nat.lt_of_lt_of_le hl (by decide), ?_⟩
          exact h1 σ G1 _ ((Aft.refl a1.ok).content e1 w1 ⟨_, upd_same, Rps.snoc x4 r1⟩)
        · exact h1.elim
      · exact h1.elim
    · exact h.elim
  | .dset i k v, Z, W, c, pn, hz, σ, ε, G, H, D, o, h => by
    unfold S_.run at h
    refine E.sound hz v o (SPost.bind h fun y ε1 u G1 H1 a1 r1 h1 => ?_)
    cases hw : isOw ε1 i
    · rw [hw, if_neg Bool.false_ne_true] at h1
      exact h1.elim
    rw [hw, if_pos rfl] at h1
    obtain ⟨p, w1⟩ := a1.ok.isOw hw
    refine ⟨.ref p, w1, E.sound hz k a1.ok (SPost.bind h1 fun z ε2 t G2 H2 a2 r2 h2 => ?_)⟩
    split at h2
    · exact h2.elim
    · rename_i ky hk
      split at h2
      · rename_i kvs e2
        split at h2
        · rename_i hl
          obtain ⟨p', x1, x2, kv, x3, x4⟩ := a2.ok.ow i _ e2
          rw [w1] at x1
          cases x1
          have hkv : t = kV ky.k := kyD_rp hk r2
          refine ⟨p, _, rfl, hkv ▸ DPut.k x3 (by rw [rpk_len x4]; exact Nat.lt_of_lt_of_le hl (by decide)), ?_⟩
          exact h2 σ G2 _ ((Aft.refl a2.ok).content e2 w1 ⟨_, upd_same, rpk_put x4 (Rp.mono a2.g _ _ r1)⟩)
        · exact h2.elim
      · exact h2.elim
  | .drop e, Z, W, c, pn, hz, σ, ε, G, H, D, o, h => by
    unfold S_.run at h
    exact E.sound hz e o (SPost.bind h fun y ε1 u G1 H1 a1 r1 h1 => h1 σ G1 H1 (Aft.refl a1.ok))
  | .ite t a b, Z, W, c, pn, hz, σ, ε, G, H, D, o, h => by
    unfold S_.run at h
    refine T.sound hz t o (SPost.bind h fun k ε1 k' G1 H1 a1 r1 h1 => ?_)
    cases (show k = k' from r1)
    cases k with
    | true =>
      rw [if_pos rfl] at h1 ⊢
      exact Ss.sound a hz a1.ok h1
    | false =>
      rw [if_neg Bool.false_ne_true] at h1 ⊢
      exact Ss.sound b hz a1.ok h1
  | .for_ p it b, Z, W, c, pn, hz, σ, ε, G, H, D, o, h => by
    unfold S_.run at h
    exact It.sound hz it o (SPost.bind h fun ds ε1 J G1 H1 a1 r1 h1 => for_sound (fun o h => Ss.sound b hz o h) a1.ok r1 h1)
  | .whl t b, Z, W, c, pn, hz, σ, ε, G, H, D, o, h => by
    unfold S_.run at h
    exact whl_sound (fun o h => T.sound hz t o h) (fun o h => Ss.sound b hz o h) o h
  | .ret e, Z, W, c, pn, hz, σ, ε, G, H, D, o, h => by
    unfold S_.run at h
    exact E.sound hz e o (SPost.bind h fun y ε1 u G1 H1 a1 r1 h1 => h1 σ G1 H1 (Aft.refl a1.ok) u r1)
  | .retn, Z, W, c, pn, hz, σ, ε, G, H, D, o, h => by
    unfold S_.run at h
    exact h σ G H (Aft.refl o) .non rfl
  | .retf f, Z, W, c, pn, hz, σ, ε, G, H, D, o, h => by
    unfold S_.run at h
    refine F.sound hz f o (SPost.toF h fun ct ε1 p G1 H1 a old n g c h1 => ?_)
    refine h1 σ G1 H1 a (.ref p) ⟨p, rfl, old, g, c, fun q hq z => n ?_⟩
    obtain ⟨x1, c', x2⟩ := a.ok.pin q hq
    exact ⟨q.1, c', x2, z ▸ x1⟩
  | .reto i, Z, W, c, pn, hz, σ, ε, G, H, D, o, h => by
    unfold S_.run at h
    split at h
    · exact h.elim
    · rename_i hio
      split at h
      · rename_i ct e
        obtain ⟨p, w1, w2, w3⟩ := o.ow i _ e
        refine ⟨.ref p, w1, ?_⟩
        refine h σ G H (Aft.refl o) (.ref p) ⟨p, rfl, .inl ⟨i, ct, e, w1⟩, w2, w3, fun q hq z => ?_⟩
        obtain ⟨x1, c', x2⟩ := o.pin q hq
        have ne : q.1 ≠ i := io_pin hio hq
        exact o.ap q.1 i c' ct p ne x2 e (z ▸ x1) w1
      · exact h.elim
  | .brk, Z, W, c, pn, hz, σ, ε, G, H, D, o, h => by
    unfold S_.run at h
    exact h σ G H (Aft.refl o)
  | .cnt, Z, W, c, pn, hz, σ, ε, G, H, D, o, h => by
    unfold S_.run at h
    exact h σ G H (Aft.refl o)
  | .pass, Z, W, c, pn, hz, σ, ε, G, H, D, o, h => by
    unfold S_.run at h
    exact h σ G H (Aft.refl o)
  | .nev, Z, W, c, pn, hz, σ, ε, G, H, D, o, h => by
    unfold S_.run at h
    exact h.elim
  | .rs y a b, Z, W, c, pn, hz, σ, ε, G, H, D, o, h => by
    unfold S_.run at h
    refine E.sound hz a o (SPost.bind h fun x1 ε1 v1 G1 H1 a1 r1 h1 => E.sound hz b a1.ok (SPost.bind h1 fun x2 ε2 v2 G2 H2 a2 r2 h2 => ?_))
    split at h2
    · rename_i i j
      split at h2
      · rename_i hy
        obtain ⟨hlt, _, _⟩ := hz.sb _ _ _ hy
        obtain ⟨t1, t2, t3, _⟩ := hz.ox y hlt
        cases (show v1 = V.int i from r1)
        cases (show v2 = V.int j from r2)
        refine rs_core t1 t2 t3 fun d hd => ?_
        have np : ¬ own σ ε2 d := fun w => by
          obtain ⟨_, u, hu⟩ := a2.ok.ownG w
          rw [hd] at hu
          cases hu
        have g := none_of_ex a2.ok.ex hd
        exact h2 _ _ σ G2 _ ⟨a2.ok.upd g np, Ex.refl G2, fun x u _ e => by rw [upd_ne (ne_of_none e hd)]; exact e, fun _ _ e _ => e, fun _ w => .inl w⟩ ⟨hlt, rfl, d, i, j, rfl, rfl, upd_same⟩
      · exact h2.elim
    · exact h2.elim
  | .try_ b hs, Z, W, c, pn, hz, σ, ε, G, H, D, o, h => by
    unfold S_.run at h
    refine Ss.sound b hz (W := wAll Z.K W D (hs.rl Z)) o ?_
    cases q : b.run c (pn.l.map (·.1)) ε with
    | no => rw [q] at h; exact h.elim
    | ok fl ε1 => rw [q] at h; exact h
    | er x ε1 =>
      rw [q] at h
      exact fun cls d σ' G' H' a w => Hs.sound hs hz a.ok w (SPost.shift a h)
theorem Ss.sound : ∀ (s : Ss) {Z : Rc} {W : WX} {c : Cn} {pn : Pin} (hz : Z.Fine c pn) {σ : L2.St} {ε : En} {G H : Hp} {D : Ends}, Ok Z.K pn σ ε G H → SPost Z W pn σ ε G H D (s.run c (pn.l.map (·.1)) ε) → s.rd Z W D σ H
  | .nil, Z, W, c, pn, hz, σ, ε, G, H, D, o, h => by
    unfold Ss.run at h
    exact h σ G H (Aft.refl o)
  | .cons s r, Z, W, c, pn, hz, σ, ε, G, H, D, o, h => by
    unfold Ss.run at h
    refine S_.sound s hz o (SPost.fl h (fun ε3 σ3 G3 H3 a3 h3 => Ss.sound r hz a3.ok h3) (fun ε3 σ3 G3 H3 a3 h3 => h3 σ3 G3 H3 (Aft.refl a3.ok)) (fun ε3 σ3 G3 H3 a3 h3 => h3 σ3 G3 H3 (Aft.refl a3.ok)) rfl fun _ _ => rfl)
theorem Hs.sound : ∀ (hs : Hs) {Z : Rc} {W : WX} {c : Cn} {pn : Pin} (hz : Z.Fine c pn) {σ : L2.St} {ε : En} {G H : Hp} {D : Ends} {x : Er} {cls : Value} {d : Option Addr}, Ok Z.K pn σ ε G H → Z.xr x cls d H → SPost Z W pn σ ε G H D (hs.run c (pn.l.map (·.1)) x ε) → wAll Z.K W D (hs.rl Z) cls d σ H
  | .nil, Z, W, c, pn, hz, σ, ε, G, H, D, x, cls, d, o, w, h => h cls d σ G H (Aft.refl o) w
  | .cons y i b r, Z, W, c, pn, hz, σ, ε, G, H, D, x, cls, d, o, w, h => by
    unfold Hs.run at h
    obtain ⟨hlt, rfl, dd, i1, j1, rfl, hfs, hdd⟩ := id w
    split at h
    · rename_i hx hsub
      split at h
      · exact h.elim
      · rename_i hio
        have key : ∀ s : Sl, ε[i]? = some s → (∀ ct, s ≠ .ow ct) → SPost Z W pn σ ε G H D (match b.run { c with ex := some x } (pn.l.map (·.1)) (ε.set i .ex) with | .ok fl ε' => .ok fl (ε'.set i .no) | _ => .no) → wAll Z.K W D (Hs.rl Z (.cons y i b r)) (.ref (Z.ca x.c)) (some dd) σ H := fun s e hs h => by
          refine ⟨true, (hz.sb _ _ _ hsub).2.1, fun _ a ha => ?_, fun z => nomatch z⟩
          obtain ⟨G2, o2, gx, g2, hf⟩ := o.errz hdd
          have o3 := o2.enter (a := a) (hz.x0 hx) e hio g2
          have hz2 : (Z.at_ a (.ref (Z.ca x.c)) (some dd)).Fine { c with ex := some x } (pinX pn i a dd [(Z.f2, .int j1), (Z.f1, .int i1)]) :=
            ⟨hz.cl, hz.gl, hz.ar, hz.ox, hz.sb, hz.ff, (fun z => nomatch z), fun x' hx' => by
              cases hx'
              exact ⟨rfl, hlt, rfl, dd, i1, j1, rfl, hfs, if_pos rfl⟩⟩
          refine Ss.sound b hz2 (W := W0) o3 ?_
          show SPost _ W0 _ _ _ _ _ _ (b.run { c with ex := some x } (pn.l.map (·.1)) (ε.set i .ex))
          cases q : b.run { c with ex := some x } (pn.l.map (·.1)) (ε.set i .ex) with
          | no => rw [q] at h; exact h.elim
          | er _ _ => rw [q] at h; exact h.elim
          | ok fl ε3 =>
            rw [q] at h
            intro σ3 G3 H3 a3
            have out := h _ _ _ (Aft.exit o hs e hio gx hf a3)
            cases fl with
            | nxt => exact out
            | brk => exact out
            | cnt => exact out
            | ret r =>
              intro v rv
              refine out v ?_
              cases r with
              | da d => exact rv
              | no => exact rv
              | ex => exact rv
              | ow ct =>
                obtain ⟨p, p1, p2, p3, p4, p5⟩ := rv
                refine ⟨p, p1, ?_, p3, p4, p5⟩
                rcases p2 with z | z
                · exact .inl (own_setx (s := .ex) (fun _ y => nomatch y) z)
                · exact .inr z
        split at h
        · exact h.elim
        · rename_i s hs e
          exact key s e (fun ct z => hs ct (z ▸ rfl)) h
        · exact h.elim
    · rename_i hx hsub
      exact ⟨false, (hz.sb _ _ _ hsub).2.1, (fun z => nomatch z), fun _ => Hs.sound r hz o w h⟩
    · exact h.elim
end
end
end Mp
/-! A mini language over HandS, 12: a def. -/
namespace Mp
open PySem L2 Evl PyProof.Rows
open SX (S S_len S_cat S_inj)
section
variable {K : PySem.W.Frag} {G G' H H' G1 G2 H1 H2 : Hp} {pn : Pin} {σ σ1 σ2 : L2.St} {ε ε1 ε2 : En} {Z : Rc} {W : WX}
def adr (vs : List V) (i : Nat) : Addr := match vs[i]? with
  | some (.ref p) => p
  | _ => default
def pinOf (vs : List V) (io : List Nat) : Pin := { l := io.map fun i => (i, adr vs i) }
theorem pinOf_io (vs : List V) (io : List Nat) : (pinOf vs io).l.map (·.1) = io := by
  show (io.map fun i => (i, adr vs i)).map (·.1) = io
  rw [List.map_map]
  exact List.map_id' io
theorem isOw_get {i : Nat} (h : isOw ε i = true) : ∃ c, ε[i]? = some (.ow c) := by
  unfold isOw at h
  split at h
  · rename_i c e
    exact ⟨c, e⟩
  · cases h
theorem isOw_of {i : Nat} {c : Ct} (h : ε[i]? = some (.ow c)) : isOw ε i = true := by
  unfold isOw
  rw [h]
def CrPost (Z : Rc) (vs : List V) (as : En) (G H : Hp) (Q : VK) (E : XK) : Cr → Prop
  | .no => False
  | .ok r as' => ∀ v G' H', Aft Z.K Pin.nil (vs.map some) as G H (vs.map some) as' G' H' → RetOk Z.K H G' H' r v → Q v H'
  | .er x as' => ∀ cls d G' H', Aft Z.K Pin.nil (vs.map some) as G H (vs.map some) as' G' H' → Z.xr x cls d H' → E cls d H'
theorem runF_sound {c : Cn} (hz : ∀ pn : Pin, pn.xa = none → Z.Fine c pn) {fn : Fn} {N : List Str} {vs : List V} {as : En} {Q : VK} {E : XK} (hN : N.length = fn.n) (o : Ok Z.K Pin.nil (vs.map some) as G H)
    (h : CrPost Z vs as G H Q E (runF c fn as)) :
    fn.body.rd Z (fun cls d _ H => E cls d H) { nx := fun _ H' => Q .non H', rt := Q } (L2.start N vs) H := by
  unfold runF at h
  split at h
  · rename_i hc
    obtain ⟨hl, hio⟩ := hc
    unfold ioOk at hio
    rw [Bool.and_eq_true] at hio
    have io1 : ∀ i ∈ fn.io, isOw as i = true := fun i hi => List.all_eq_true.mp hio.1 i hi
    have io2 : ∀ (i : Nat) (c : Ct), as[i]? = some (.ow c) → i ∈ fn.io := fun i c e => by
      have hi : i < as.length := (List.getElem?_eq_some_iff.mp e).1
      have := List.all_eq_true.mp hio.2 i (List.mem_range.mpr hi)
      rw [isOw_of e] at this
      simpa using this
    have len : as.length = vs.length := by rw [o.len, List.length_map]
    have hvs : vs.length = fn.ps := by rw [← len]; exact hl
    -- the slots
    have gE : ∀ (i : Nat) (s : Sl), s ≠ .no → (as ++ List.replicate (fn.n - fn.ps) Sl.no)[i]? = some s → as[i]? = some s := fun i s hs q => by
      by_cases hi : i < as.length
      · rw [List.getElem?_append_left hi] at q; exact q
      · rw [List.getElem?_append_right (by omega), List.getElem?_replicate] at q
        split at q
        · exact absurd (Option.some.inj q).symm hs
        · cases q
    have gE2 : ∀ (i : Nat) (s : Sl), as[i]? = some s → (as ++ List.replicate (fn.n - fn.ps) Sl.no)[i]? = some s := fun i s q => by
      rw [List.getElem?_append_left (List.getElem?_eq_some_iff.mp q).1]; exact q
    have gS : ∀ i : Nat, i < as.length → (L2.start N vs)[i]? = (vs.map some)[i]? := fun i hi => by
      unfold L2.start
      rw [List.getElem?_append_left (by rw [List.length_map]; omega)]
    have lt : ∀ {i : Nat} {s : Sl}, as[i]? = some s → i < as.length := fun q => (List.getElem?_eq_some_iff.mp q).1
    have pin0 : ∀ q ∈ (pinOf vs fn.io).l, (vs.map some)[q.1]? = some (some (.ref q.2)) ∧ ∃ c, as[q.1]? = some (.ow c) := fun q hq => by
      have hq : q ∈ fn.io.map fun i => (i, adr vs i) := hq
      obtain ⟨i, hi, rfl⟩ := List.mem_map.mp hq
      obtain ⟨c, e⟩ := isOw_get (io1 i hi)
      obtain ⟨p, e1, _⟩ := o.ow i c e
      refine ⟨?_, c, e⟩
      rw [e1]
      rw [List.getElem?_map] at e1
      cases q : vs[i]? with
      | none => rw [q] at e1; cases e1
      | some v =>
        rw [q] at e1
        have e1 : some (some v) = some (some (V.ref p)) := e1
        cases e1
        show _ = some (some (V.ref (adr vs i)))
        unfold adr
        rw [q]
    have o0 : Ok Z.K (pinOf vs fn.io) (L2.start N vs) (as ++ List.replicate (fn.n - fn.ps) Sl.no) G H := by
      refine ⟨o.ex, ?_, fun i d q => ?_, fun i c q => ?_, fun i j c c' p hij q1 q2 q3 => ?_, fun q hq => ?_, fun i q => ?_, fun _ _ z => nomatch z⟩
      · unfold L2.start
        rw [List.length_append, List.length_append, List.length_replicate, List.length_replicate, List.length_map]
        omega
      · have q := gE i (.da d) (fun z => nomatch z) q
        rw [gS i (lt q)]
        exact o.da i d q
      · have q := gE i (.ow c) (fun z => nomatch z) q
        rw [gS i (lt q)]
        exact o.ow i c q
      · have q1 := gE i (.ow c) (fun z => nomatch z) q1
        have q2 := gE j (.ow c') (fun z => nomatch z) q2
        rw [gS i (lt q1)] at q3
        rw [gS j (lt q2)]
        exact o.ap i j c c' p hij q1 q2 q3
      · obtain ⟨a, c, b⟩ := pin0 q hq
        rw [gS _ (lt b)]
        exact ⟨a, c, gE2 _ _ b⟩
      · have q := gE i .ex (fun z => nomatch z) q
        obtain ⟨_, a, h, _⟩ := o.px i q
        cases h
    have ownE : ∀ a, own (L2.start N vs) (as ++ List.replicate (fn.n - fn.ps) Sl.no) a → own (vs.map some) as a := fun a ⟨i, c, q1, q2⟩ => by
      have q := gE i (.ow c) (fun z => nomatch z) q1
      rw [gS i (lt q)] at q2
      exact ⟨i, c, q, q2⟩
    have ownS : ∀ a, own (vs.map some) as a → own (L2.start N vs) (as ++ List.replicate (fn.n - fn.ps) Sl.no) a := fun a ⟨i, c, q1, q2⟩ => ⟨i, c, gE2 i _ q1, by rw [gS i (lt q1)]; exact q2⟩
    -- back at the call
    have back : ∀ {σ' : L2.St} {ε' : En} {G' H' : Hp}, Aft Z.K (pinOf vs fn.io) (L2.start N vs) (as ++ List.replicate (fn.n - fn.ps) Sl.no) G H σ' ε' G' H' → Aft Z.K Pin.nil (vs.map some) as G H (vs.map some) (outs fn.io as ε') G' H' := by
      intro σ' ε' G' H' a
      have gO : ∀ (i : Nat) (s : Sl), (outs fn.io as ε')[i]? = some s → i < as.length ∧ s = if i ∈ fn.io then ε'.getD i .no else as.getD i .no := fun i s q => by
        unfold outs at q
        rw [List.getElem?_map] at q
        by_cases hi : i < as.length
        · rw [List.getElem?_range hi] at q
          exact ⟨hi, (Option.some.inj q).symm⟩
        · rw [List.getElem?_eq_none (by simp; omega)] at q
          cases q
      have pin1 : ∀ i ∈ fn.io, ∃ p c, vs[i]? = some (.ref p) ∧ σ'[i]? = some (some (.ref p)) ∧ ε'[i]? = some (.ow c) := fun i hi => by
        obtain ⟨e1, c, e2⟩ := a.ok.pin (i, adr vs i) (List.mem_map.mpr ⟨i, hi, rfl⟩)
        obtain ⟨e3, _⟩ := pin0 (i, adr vs i) (List.mem_map.mpr ⟨i, hi, rfl⟩)
        rw [List.getElem?_map] at e3
        refine ⟨adr vs i, c, ?_, e1, e2⟩
        cases q : vs[i]? with
        | none =>
          have e3 : Option.map some vs[i]? = some (some (V.ref (adr vs i))) := e3
          rw [q] at e3; cases e3
        | some v =>
          have e3 : Option.map some vs[i]? = some (some (V.ref (adr vs i))) := e3
          rw [q] at e3
          have e3 : some (some v) = some (some (V.ref (adr vs i))) := e3
          cases e3
          rfl
      have gOw : ∀ (i : Nat) (c : Ct), (outs fn.io as ε')[i]? = some (.ow c) → i ∈ fn.io ∧ ε'[i]? = some (.ow c) := fun i c q => by
        obtain ⟨hi, q⟩ := gO i _ q
        by_cases z : i ∈ fn.io
        · rw [if_pos z] at q
          obtain ⟨p, c', _, _, e⟩ := pin1 i z
          rw [List.getD_eq_getElem?_getD, e] at q
          exact ⟨z, by rw [e]; exact congrArg some q.symm⟩
        · rw [if_neg z, List.getD_eq_getElem?_getD] at q
          cases w : as[i]? with
          | none => rw [w] at q; cases q
          | some s =>
            rw [w] at q
            exact absurd (io2 i c (by rw [w]; exact congrArg some q.symm)) z
      have vm : ∀ {i : Nat} {p : Addr}, vs[i]? = some (V.ref p) → (vs.map some)[i]? = some (some (V.ref p)) := fun q => by rw [List.getElem?_map, q]; rfl
      refine ⟨⟨a.ok.ex, ?_, fun i d q => ?_, fun i c q => ?_, fun i j c c' p hij q1 q2 q3 => ?_, fun q hq => (by cases hq), fun i q => ?_, fun _ _ z => nomatch z⟩, a.g, fun x u n e => a.h x u (fun w => n (ownE x w)) e, fun x n g e => a.f x (fun w => n (ownE x w)) g e, fun x w => ?_⟩
      · unfold outs
        rw [List.length_map, List.length_range, List.length_map]
        exact len
      · obtain ⟨hi, q⟩ := gO i _ q
        by_cases z : i ∈ fn.io
        · rw [if_pos z] at q
          obtain ⟨p, c', _, _, e⟩ := pin1 i z
          rw [List.getD_eq_getElem?_getD, e] at q
          cases q
        · rw [if_neg z, List.getD_eq_getElem?_getD] at q
          cases w : as[i]? with
          | none => rw [w] at q; cases q
          | some s =>
            rw [w] at q
            have q : Sl.da d = s := q
            subst q
            obtain ⟨v, e1, e2⟩ := o.da i d w
            exact ⟨v, e1, Rp.mono a.g d v e2⟩
      · obtain ⟨z, q⟩ := gOw i c q
        obtain ⟨p, c', e1, e2, _⟩ := pin1 i z
        obtain ⟨p', f1, f2, f3⟩ := a.ok.ow i c q
        rw [e2] at f1
        cases f1
        exact ⟨p, vm e1, f2, f3⟩
      · obtain ⟨z1, q1⟩ := gOw i c q1
        obtain ⟨z2, q2⟩ := gOw j c' q2
        obtain ⟨p1, _, e1, e2, _⟩ := pin1 i z1
        obtain ⟨p2, _, f1, f2, _⟩ := pin1 j z2
        rw [vm e1] at q3
        cases q3
        rw [vm f1]
        intro w
        cases w
        exact a.ok.ap i j c c' _ hij q1 q2 e2 f2
      · obtain ⟨hi, q⟩ := gO i _ q
        by_cases z : i ∈ fn.io
        · rw [if_pos z] at q
          obtain ⟨p, c', _, _, e⟩ := pin1 i z
          rw [List.getD_eq_getElem?_getD, e] at q
          cases q
        · rw [if_neg z, List.getD_eq_getElem?_getD] at q
          cases w : as[i]? with
          | none => rw [w] at q; cases q
          | some s =>
            rw [w] at q
            have q : Sl.ex = s := q
            subst q
            obtain ⟨_, a', h, _⟩ := o.px i w
            cases h
      · obtain ⟨i, c, q1, q2⟩ := w
        obtain ⟨z, q1⟩ := gOw i c q1
        obtain ⟨p, _, e1, e2, _⟩ := pin1 i z
        rw [vm e1] at q2
        cases q2
        rcases a.w x ⟨i, c, q1, e2⟩ with y | y
        · exact .inl (ownE x y)
        · exact .inr y
    refine Ss.sound fn.body (W := fun cls d _ H => E cls d H) (hz _ rfl) o0 ?_
    rw [pinOf_io]
    cases q : fn.body.run c fn.io (as ++ List.replicate (fn.n - fn.ps) Sl.no) with
    | no => rw [q] at h; exact h.elim
    | er x ε' =>
      rw [q] at h
      exact fun cls d σ' G' H' a w => h cls d G' H' (back a) w
    | ok fl ε' =>
      rw [q] at h
      intro σ' G' H' a
      cases fl with
      | nxt => exact h .non G' H' (back a) rfl
      | brk => exact h.elim
      | cnt => exact h.elim
      | ret r =>
        intro v w
        refine h v G' H' (back a) ?_
        cases r with
        | da d => exact w
        | no => exact w
        | ex => exact w
        | ow ct =>
          obtain ⟨p, w1, w2, w3, w4, w5⟩ := w
          refine ⟨p, w1, ?_, w3, w4⟩
          rcases w2 with w2 | w2
          · obtain ⟨i, c, e1, e2⟩ := ownE p w2
            have hi := io2 i c e1
            obtain ⟨f1, _⟩ := pin0 (i, adr vs i) (List.mem_map.mpr ⟨i, hi, rfl⟩)
            have f1 : (vs.map some)[i]? = some (some (V.ref (adr vs i))) := f1
            rw [e2] at f1
            cases f1
            exact absurd rfl (w5 (i, adr vs i) (List.mem_map.mpr ⟨i, hi, rfl⟩))
          · exact w2
  · exact h.elim
theorem spC_post {f : Nat} {vs : List V} {Q : VK} {E : XK} (h : spC Z f vs H Q E) : vs.length = Z.ar f ∧ ∃ G as, Ok Z.K Pin.nil (vs.map some) as G H ∧ CrPost Z vs as G H Q E (Z.call f as) := h
end
/-! ### a table of defs -/
structure Pg where
  K : PySem.W.Frag
  gl : Nat → Option D
  sub : Nat → Nat → Option Bool
  tab : Nat → Option Fn
  gv : Nat → V
  ca : Nat → Addr := fun _ => default
  nc : Nat := 0
  f1 : Str := ""
  f2 : Str := ""
def Pg.ar (p : Pg) (f : Nat) : Nat := match p.tab f with
  | some fn => fn.ps
  | none => 0
def Pg.rc (p : Pg) (n : Nat) : Rc := { K := p.K, call := callN p.gl p.sub p.tab n, gv := p.gv, ar := p.ar, ca := p.ca, nc := p.nc, f1 := p.f1, f2 := p.f2 }
def Pg.cn (p : Pg) (n : Nat) : Cn := { call := callN p.gl p.sub p.tab n, gl := p.gl, sub := p.sub }
structure Pg.Good (p : Pg) : Prop where
  gl : ∀ x d, p.gl x = some d → ∀ G, Rp p.K G d (p.gv x)
  ox : ∀ y, y < p.nc → OexC p.K (p.ca y) ∧ PySem.W.findIn p.K (.ref (p.ca y)) p.f1 = some none ∧ PySem.W.findIn p.K (.ref (p.ca y)) p.f2 = some none ∧ ExcC p.K (p.ca y)
  sb : ∀ i j b, p.sub i j = some b → i < p.nc ∧ PySem.W.exmOne p.K (.ref (p.ca i)) (.ref (p.ca j)) = some b ∧ PySem.W.kitOne p.K (.ref (p.ca i)) (.ref (p.ca j)) = some b
  ff : (p.f1 == p.f2) = false
theorem Pg.fine (p : Pg) (hg : p.Good) (n : Nat) (pn : Pin) (hx : pn.xa = none) : (p.rc n).Fine (p.cn n) pn := by
  refine ⟨rfl, hg.gl, fun f ss h => ?_, hg.ox, hg.sb, hg.ff, fun _ => hx, fun x z => nomatch z⟩
  show ss.length = p.ar f
  have h : callN p.gl p.sub p.tab n f ss = .no → False := h
  unfold Pg.ar
  cases n with
  | zero => exact (h rfl).elim
  | succ n =>
    unfold callN at h
    cases q : p.tab f with
    | none => rw [q] at h; exact (h rfl).elim
    | some fn =>
      rw [q] at h
      have h : runF (p.cn n) fn ss = .no → False := h
      unfold runF at h
      split at h
      · rename_i hc
        exact hc.1
      · exact (h rfl).elim
section
variable {P : Program} {w : World} {mg : Str → Option Value} {base : Heap}
/-- a def one level up (two levels are kept for the makers of errors) -/
theorem fn_up {p : Pg} (hg : p.Good) {x qual : Str} {st : Stmt} {f : Addr} {fd : FuncData} {N ps : List Str} {n i : Nat} {fn : Fn} (F : Fun p.K x qual st f fd) (S : FnScope N ps (defScope st))
    (hi : p.tab i = some fn) (hN : N.length = fn.n) (hps : ps.length = fn.ps)
    (hbody : ∀ (cdv : Value) (A : Around) (outer : List Env) (s : Shared) (H : Hp) (E : XK), Room (n + 2) (A.deeper (envOfC qual (defScope st) s.heap.objs.size f cdv)) →
      PSs (cxOf (L2.CX P w) P w p.K mg base N qual (defScope st) f cdv A outer s H E) (defBody st) (fn.body.rd (p.rc n) (fun cls d _ H => E cls d H))) :
    FnOk P w p.K mg base (L2.CX P w) (n + 2 + 1) f fd ps (spC (p.rc (n + 1)) i) := by
  have har : (p.rc (n + 1)).ar i = fn.ps := by
    show p.ar i = fn.ps
    unfold Pg.ar
    rw [hi]
  refine F.okX S (fun vs H Q E h => ?_) fun cdv A outer s H vs Q E hr h => ⟨_, hbody cdv A outer s H E hr, ?_⟩
  · rw [(spC_post h).1, har, hps]
  · obtain ⟨_, G, as, o, h⟩ := spC_post h
    have e : (p.rc (n + 1)).call i as = runF (p.cn n) fn as := by
      show callN p.gl p.sub p.tab (n + 1) i as = _
      unfold callN
      rw [hi]
      rfl
    rw [e] at h
    exact runF_sound (Z := p.rc n) (c := p.cn n) (fun pn hx => p.fine hg n pn hx) hN o h
/-- no call at level 0 -/
theorem fn_zero {p : Pg} {f : Addr} {fd : FuncData} {ps : List Str} {i k : Nat} : FnOk P w p.K mg base (L2.CX P w) k f fd ps (spC (p.rc 0) i) :=
  ⟨fun vs H Q E h => by
    obtain ⟨_, G, as, o, h⟩ := spC_post h
    exact h.elim, fun A outer s H args us vs Q E _ _ _ _ h => by
    obtain ⟨_, G, as, o, h⟩ := spC_post h
    exact h.elim⟩
end
end Mp
/-! A mini language over HandS, 13: derivations. -/
namespace Mp
open PySem L2 Evl PyProof.Rows
open SX (S S_len S_cat S_inj)
/-- where a derivation stands -/
structure Cxt (X : Cx) (Z : Rc) (W : WX) (n : Nat) : Prop where
  k : Z.K = X.K
  nd : X.N.Nodup
  fn : ∀ x, X.fn x = true
  u : X.A.units + 65 < cLine
  tk : Takes X W
  po : PassesOwn (model X.prog X.w) X.A X.env X.xe
/-- a def of the table, callable -/
structure Cb (X : Cx) (Z : Rc) (n : Nat) (x : Str) (i : Nat) : Prop where
  ex : ∃ (f : Addr) (fd : FuncData) (ps : List Str), FnOk X.prog X.w X.K X.mg X.base (L2.CX X.prog X.w) (n + 2) f fd ps (spC Z i) ∧ Room (n + 2) X.A ∧ X.mg x = some (.ref f) ∧ PySem.W.keepIn X.K (.ref f) = true ∧ Binds X.K fd ps []
/-- what the walks ask of the module -/
structure Md (X : Cx) (Z : Rc) (n : Nat) (fns cons blts : List Str) : Prop where
  f : ∀ (i : Nat) (x : Str), fns[i]? = some x → Cb X Z n x i
  c : ∀ (i : Nat) (x : Str), cons[i]? = some x → ∃ u, X.mg x = some u ∧ RelV (Z.gv i) u
  b : ∀ (i : Nat) (x : Str), blts[i]? = some x → X.mg x = none
section
variable {X : Cx} {Z : Rc} {W : WX} {n : Nat} {fns cons blts : List Str}
theorem room_u {n : Nat} {A : Around} (r : Room n A) : A.units + 65 < cLine := Nat.lt_of_le_of_lt (Nat.add_le_add_left (by omega : 65 ≤ 16 * n + 200) _) (by have := r.un; omega)
theorem Cxt.u1 (c : Cxt X Z W n) : X.A.units + 1 < cLine := by have := c.u; omega
theorem Cxt.u64 (c : Cxt X Z W n) : X.A.units + 64 < cLine := by have := c.u; omega
/-! ### expressions -/
theorem d_var (i : Nat) {x : Str} {pos : Pos} (hN : X.N[i]? = some x := by rfl) (hv : Vis X.env.scope x := by first | exact Or.inl rfl | exact Or.inr (Or.inl rfl) | exact Or.inr (Or.inr rfl)) (hd : (x == ("__debug__" : Str)) = false := by decide)
    (hcd : (x == ("__classdict__" : Str)) = false := by decide) : PE X (.Name x pos) ((E.var i).rd Z W) := pe_var hN hv hd hcd
theorem d_frz (i : Nat) {x : Str} {pos : Pos} (hN : X.N[i]? = some x := by rfl) (hv : Vis X.env.scope x := by first | exact Or.inl rfl | exact Or.inr (Or.inl rfl) | exact Or.inr (Or.inr rfl)) (hd : (x == ("__debug__" : Str)) = false := by decide)
    (hcd : (x == ("__classdict__" : Str)) = false := by decide) : PE X (.Name x pos) ((E.frz i).rd Z W) := pe_var hN hv hd hcd
theorem d_int {i : Int} {j} {pos : Pos} : PE X (.Constant (.int i) j pos) ((E.cst (.int i)).rd Z W) := pe_int
theorem d_bl {b : Bool} {j} {pos : Pos} : PE X (.Constant (.bool b) j pos) ((E.cst (.bl b)).rd Z W) := pe_bl
theorem d_non {j} {pos : Pos} : PE X (.Constant .none j pos) ((E.cst .non).rd Z W) := pe_non
theorem d_str {x : Str} {l : List Nat} {j} {pos : Pos} (h : x = S l := by rfl) : PE X (.Constant (.str x) j pos) ((E.cst (.str l)).rd Z W) := by
  subst h
  exact pe_str
theorem d_glb (m : Md X Z n fns cons blts) (i : Nat) {x : Str} {pos : Pos} (hi : cons[i]? = some x := by rfl) (hg : Gl X x := by rfl) (hd : (x == ("__debug__" : Str)) = false := by decide) : PE X (.Name x pos) ((E.glb i).rd Z W) := by
  obtain ⟨u, h1, h2⟩ := m.c i x hi
  exact pe_glob hg h1 h2 hd
/-- a type's name -/
theorem d_ty (m : Md X Z n fns cons blts) (i : Nat) {x : Str} {T : String} {pos : Pos} (hi : blts[i]? = some x := by rfl) (hv : bootBuiltins x = some (.type T) := by rfl) (hg : Gl X x := by rfl) (hn : x ≠ "__name__" := by decide) (hd : (x == ("__debug__" : Str)) = false := by decide) :
    PE X (.Name x pos) ((E.cst (.ty T)).rd Z W) := pe_bltn hg (m.b i x hi) hv rfl hn hd
variable {a b e f : Expr} {ea eb ee ef : E} {pos : Pos}
theorem d_add (c : Cxt X Z W n) (ha : PE X a (ea.rd Z W)) (hb : PE X b (eb.rd Z W)) : PE X (.BinOp a .Add b pos) ((E.op2 .add ea eb).rd Z W) := pe_op (by rw [c.k]; exact opr_add) ha hb
theorem d_sub (c : Cxt X Z W n) (ha : PE X a (ea.rd Z W)) (hb : PE X b (eb.rd Z W)) : PE X (.BinOp a .Sub b pos) ((E.op2 .sub ea eb).rd Z W) := pe_op (by rw [c.k]; exact opr_sub) ha hb
theorem d_mul (c : Cxt X Z W n) (ha : PE X a (ea.rd Z W)) (hb : PE X b (eb.rd Z W)) : PE X (.BinOp a .Mult b pos) ((E.op2 .mul ea eb).rd Z W) := pe_op (by rw [c.k]; exact opr_mul) ha hb
theorem d_fdiv (c : Cxt X Z W n) (ha : PE X a (ea.rd Z W)) (hb : PE X b (eb.rd Z W)) : PE X (.BinOp a .FloorDiv b pos) ((E.op2 .fdiv ea eb).rd Z W) := pe_op (by rw [c.k]; exact opr_fdiv) ha hb
theorem d_mod (c : Cxt X Z W n) (ha : PE X a (ea.rd Z W)) (hb : PE X b (eb.rd Z W)) : PE X (.BinOp a .Mod b pos) ((E.op2 .mod ea eb).rd Z W) := pe_op (by rw [c.k]; exact opr_mod) ha hb
theorem d_pow (c : Cxt X Z W n) (ha : PE X a (ea.rd Z W)) (hb : PE X b (eb.rd Z W)) : PE X (.BinOp a .Pow b pos) ((E.op2 .pow ea eb).rd Z W) := pe_op (by rw [c.k]; exact opr_pow) ha hb
/-- a comparison's rule -/
def Cmp (X : Cx) (Z : Rc) (o : CmpOp) (p : Op2) : Prop := OpR X (compareOp o) (p.rd Z.K)
theorem k_eq (c : Cxt X Z W n) : Cmp X Z .Eq .eq := by unfold Cmp; rw [c.k]; exact opr_eq c.u64
theorem k_ne (c : Cxt X Z W n) : Cmp X Z .NotEq .ne := by unfold Cmp; rw [c.k]; exact opr_ne c.u64
theorem k_lt (c : Cxt X Z W n) : Cmp X Z .Lt .lt := by unfold Cmp; rw [c.k]; exact opr_lt
theorem k_le (c : Cxt X Z W n) : Cmp X Z .LtE .le := by unfold Cmp; rw [c.k]; exact opr_le
theorem k_gt (c : Cxt X Z W n) : Cmp X Z .Gt .gt := by unfold Cmp; rw [c.k]; exact opr_gt
theorem k_ge (c : Cxt X Z W n) : Cmp X Z .GtE .ge := by unfold Cmp; rw [c.k]; exact opr_ge
theorem k_in (c : Cxt X Z W n) : Cmp X Z .In .inn := by unfold Cmp; rw [c.k]; exact opr_in c.u
theorem k_nin (c : Cxt X Z W n) : Cmp X Z .NotIn .nin := by unfold Cmp; rw [c.k]; exact opr_nin c.u
theorem k_is (c : Cxt X Z W n) : Cmp X Z .Is .isn := by unfold Cmp; rw [c.k]; exact opr_isn
theorem k_nis (c : Cxt X Z W n) : Cmp X Z .IsNot .nsn := by unfold Cmp; rw [c.k]; exact opr_nsn
variable {o o' : CmpOp} {p p' : Op2}
theorem d_cmp (k : Cmp X Z o p) (ha : PE X a (ea.rd Z W)) (hb : PE X b (eb.rd Z W)) (hm : behindInMarks o b = false := by rfl) : PE X (.Compare a [o] [b] pos) ((E.op2 p ea eb).rd Z W) := pe_cmpR k ha hb hm
theorem t_cmp (k : Cmp X Z o p) (ha : PE X a (ea.rd Z W)) (hb : PE X b (eb.rd Z W)) (hm : behindInMarks o b = false := by rfl) : PT X (.Compare a [o] [b] pos) ((T.val (.op2 p ea eb)).rd Z W) := pt_cmpR k ha hb hm
theorem d_cmpl (k : Cmp X Z o p) (i : Nat) (ha : PE X a ((E.var i).rd Z W)) (hb : PE X b (eb.rd Z W)) (hm : behindInMarks o b = false := by rfl) : PE X (.Compare a [o] [b] pos) ((E.o2l p i eb).rd Z W) := pe_cmpR k ha hb hm
theorem t_cmpl (k : Cmp X Z o p) (i : Nat) (ha : PE X a ((E.var i).rd Z W)) (hb : PE X b (eb.rd Z W)) (hm : behindInMarks o b = false := by rfl) : PT X (.Compare a [o] [b] pos) ((T.val (.o2l p i eb)).rd Z W) := pt_cmpR k ha hb hm
theorem d_cmpr (k : Cmp X Z o p) (i : Nat) (ha : PE X a (ea.rd Z W)) (hb : PE X b ((E.var i).rd Z W)) (hm : behindInMarks o b = false := by rfl) : PE X (.Compare a [o] [b] pos) ((E.o2r p ea i).rd Z W) := pe_cmpR k ha hb hm
theorem t_cmpr (k : Cmp X Z o p) (i : Nat) (ha : PE X a (ea.rd Z W)) (hb : PE X b ((E.var i).rd Z W)) (hm : behindInMarks o b = false := by rfl) : PT X (.Compare a [o] [b] pos) ((T.val (.o2r p ea i)).rd Z W) := pt_cmpR k ha hb hm
theorem d_chain (k : Cmp X Z o p) (k' : Cmp X Z o' p') (ha : PE X a (ea.rd Z W)) (hb : PE X b (eb.rd Z W)) (he : PE X e (ee.rd Z W)) (hm : lastMarks [o, o'] [b, e] = false := by with_unfolding_all rfl) : PE X (.Compare a [o, o'] [b, e] pos) ((E.chain p p' ea eb ee).rd Z W) := pe_chain k k' ha hb he hm
theorem t_chain (k : Cmp X Z o p) (k' : Cmp X Z o' p') (ha : PE X a (ea.rd Z W)) (hb : PE X b (eb.rd Z W)) (he : PE X e (ee.rd Z W)) (hm : lastMarks [o, o'] [b, e] = false := by with_unfolding_all rfl) : PT X (.Compare a [o, o'] [b, e] pos) ((T.val (.chain p p' ea eb ee)).rd Z W) := pt_chain k k' ha hb he hm
theorem d_neg (ha : PE X a (ea.rd Z W)) : PE X (.UnaryOp .USub a pos) ((E.neg ea).rd Z W) := pe_un un_neg ha
theorem d_ix (c : Cxt X Z W n) (ha : PE X a (ea.rd Z W)) (hb : PE X b (eb.rd Z W)) (hs : PlainIx b := by exact fun _ _ => rfl) : PE X (.Subscript a b pos) ((E.op2 .idx ea eb).rd Z W) := pe_ix (by rw [c.k]; exact ix_seq) ha hb hs
theorem d_ixo (c : Cxt X Z W n) (i : Nat) (ha : PE X a ((E.var i).rd Z W)) (hb : PE X b (eb.rd Z W)) (hs : PlainIx b := by exact fun _ _ => rfl) : PE X (.Subscript a b pos) ((E.o2l .idx i eb).rd Z W) := pe_ix (by rw [c.k]; exact ix_seq) ha hb hs
theorem d_dix (c : Cxt X Z W n) (i : Nat) (ha : PE X a ((E.var i).rd Z W)) (hb : PE X b (eb.rd Z W)) (hs : NoSl b := by exact fun _ _ => rfl) : PE X (.Subscript a b pos) ((E.dix i eb).rd Z W) := pe_dget c.u1 ha hb hs
/-! and, or, not, if -/
theorem d_and {rest : List Expr} (c : Cxt X Z W n) (ha : PE X a (ea.rd Z W)) (hb : PE X (.BoolOp .And (b :: rest) pos) (eb.rd Z W)) : PE X (.BoolOp .And (a :: b :: rest) pos) ((E.and ea eb).rd Z W) := by
  show PE X _ (tAndT Z.K _ _)
  rw [c.k]
  exact pe_andT ha hb
theorem d_or {rest : List Expr} (c : Cxt X Z W n) (ha : PE X a (ea.rd Z W)) (hb : PE X (.BoolOp .Or (b :: rest) pos) (eb.rd Z W)) : PE X (.BoolOp .Or (a :: b :: rest) pos) ((E.or ea eb).rd Z W) := by
  show PE X _ (tOrT Z.K _ _)
  rw [c.k]
  exact pe_orT ha hb
theorem d_one {op : PySem.BoolOp} (h : PE X a (ea.rd Z W)) : PE X (.BoolOp op [a] pos) (ea.rd Z W) := pe_one h
theorem d_not (c : Cxt X Z W n) (ha : PE X a (ea.rd Z W)) : PE X (.UnaryOp .Not a pos) ((E.not ea).rd Z W) := by
  show PE X _ (tNotT Z.K _)
  rw [c.k]
  exact pe_notT ha
theorem d_if {t : T} {q : Expr} (hq : PT X q (t.rd Z W)) (ha : PE X a (ea.rd Z W)) (hb : PE X b (eb.rd Z W)) : PE X (.IfExp q a b pos) ((E.ite t ea eb).rd Z W) := pe_ifExp hq ha hb
/-! lists of expressions -/
variable {es : List Expr} {ds : Es}
theorem s_nil : PA X [] ((Es.nil).rd Z W) := pa_nil
theorem s_cons (ha : PE X a (ea.rd Z W)) (hr : PA X es (ds.rd Z W)) (hs : starEach (a :: es) X.env = (false, eval a X.env) :: starEach es X.env := by rfl) : PA X (a :: es) ((Es.cons ea ds).rd Z W) := pa_cons ha hr hs
theorem d_tup {x1} (h : PA X es (ds.rd Z W)) : PE X (.Tuple es x1 pos) ((E.tup ds).rd Z W) := pe_tup h
theorem d_lst (h : PA X es (ds.rd Z W)) : PE X (.List es pos) ((E.lst ds).rd Z W) := pe_lst h
variable {as : As}
theorem a_nil : PA X [] ((As.nil).rd Z W) := pa_nil
theorem a_d (ha : PE X a (ea.rd Z W)) (hr : PA X es (as.rd Z W)) (hs : starEach (a :: es) X.env = (false, eval a X.env) :: starEach es X.env := by rfl) : PA X (a :: es) ((As.d ea as).rd Z W) := pa_cons ha hr hs
theorem a_o (i : Nat) (ha : PE X a ((E.var i).rd Z W)) (hr : PA X es (as.rd Z W)) (hs : starEach (a :: es) X.env = (false, eval a X.env) :: starEach es X.env := by rfl) : PA X (a :: es) ((As.o i as).rd Z W) := pa_cons ha hr hs
/-! calls -/
theorem call_any {x : Str} {i : Nat} {q : Pos} (c : Cxt X Z W n) (cb : Cb X Z n x i) (ha : PA X (e :: es) (as.rd Z W)) (hg : Gl X x) (hdb : (x == ("__debug__" : Str)) = false)
    (he : starEach (e :: es) X.env = (false, eval e X.env) :: starEach es X.env) (hpl : (backTo pos (starEach es X.env)).any (·.1) = false) :
    PE X (.Call (.Name x q) (e :: es) [] pos) (tCallSD (spC Z i) [] (fun σ cls d H => W cls d σ H) (as.rd Z W)) := by
  obtain ⟨f, fd, ps, F, hr, hm, hk, hb⟩ := cb.ex
  exact pe_callSD F hr hg hm hk hb .nil (fun σ => passAt c.tk σ) ha hdb he hpl
theorem call_any0 {x : Str} {i : Nat} {q : Pos} (c : Cxt X Z W n) (cb : Cb X Z n x i) (hg : Gl X x) (hdb : (x == ("__debug__" : Str)) = false) :
    PE X (.Call (.Name x q) [] [] pos) (tCallSD (spC Z i) [] (fun σ cls d H => W cls d σ H) ((As.nil).rd Z W)) := by
  obtain ⟨f, fd, ps, F, hr, hm, hk, hb⟩ := cb.ex
  refine ⟨fun pins s σ H Q I h => ?_⟩
  refine wpAny_Call_Name_kw (ld_glob I hg hm ?_ hdb)
  exact PySem.W.callWith_K0 I.kIn hk (run_fnSD (us := []) (vs := []) F hr hb .nil (passAt c.tk σ) I .nil h)
theorem d_call {x : Str} {q : Pos} (c : Cxt X Z W n) (m : Md X Z n fns cons blts) (i : Nat) (ha : PA X (e :: es) (as.rd Z W)) (hi : fns[i]? = some x := by rfl) (hg : Gl X x := by rfl) (hdb : (x == ("__debug__" : Str)) = false := by decide)
    (he : starEach (e :: es) X.env = (false, eval e X.env) :: starEach es X.env := by rfl) (hpl : (backTo pos (starEach es X.env)).any (·.1) = false := by rfl) : PE X (.Call (.Name x q) (e :: es) [] pos) ((E.call i as).rd Z W) := call_any c (m.f i x hi) ha hg hdb he hpl
theorem d_call0 {x : Str} {q : Pos} (c : Cxt X Z W n) (m : Md X Z n fns cons blts) (i : Nat) (hi : fns[i]? = some x := by rfl) (hg : Gl X x := by rfl) (hdb : (x == ("__debug__" : Str)) = false := by decide) : PE X (.Call (.Name x q) [] [] pos) ((E.call i .nil).rd Z W) := call_any0 c (m.f i x hi) hg hdb
theorem f_call {x : Str} {q : Pos} (c : Cxt X Z W n) (m : Md X Z n fns cons blts) (i : Nat) (ha : PA X (e :: es) (as.rd Z W)) (hi : fns[i]? = some x := by rfl) (hg : Gl X x := by rfl) (hdb : (x == ("__debug__" : Str)) = false := by decide)
    (he : starEach (e :: es) X.env = (false, eval e X.env) :: starEach es X.env := by rfl) (hpl : (backTo pos (starEach es X.env)).any (·.1) = false := by rfl) : PE X (.Call (.Name x q) (e :: es) [] pos) ((F.call i as).rd Z W) := call_any c (m.f i x hi) ha hg hdb he hpl
theorem f_call0 {x : Str} {q : Pos} (c : Cxt X Z W n) (m : Md X Z n fns cons blts) (i : Nat) (hi : fns[i]? = some x := by rfl) (hg : Gl X x := by rfl) (hdb : (x == ("__debug__" : Str)) = false := by decide) : PE X (.Call (.Name x q) [] [] pos) ((F.call i .nil).rd Z W) := call_any0 c (m.f i x hi) hg hdb
theorem f_lst (h : PA X es (ds.rd Z W)) : PE X (.List es pos) ((F.lst ds).rd Z W) := pe_lst h
theorem p_cons {k v : Expr} {d : D} {ev : E} {ks : List (Option Expr)} {vs : List Expr} {rs : List (D × E)} (hk : PE X k ((E.cst d).rd Z W)) (hv : PE X v (ev.rd Z W)) (hr : PPs X pos ks vs (pairsRd Z W rs)) : PPs X pos (some k :: ks) (v :: vs) (pairsRd Z W ((d, ev) :: rs)) := pps_cons hk hv hr
theorem p_nil : PPs X pos [] [] (pairsRd Z W []) := pps_nil
theorem f_dct {ks : List (Option Expr)} {vs : List Expr} {rs : List (D × E)} (h : PPs X pos ks vs (pairsRd Z W rs)) (h0 : ks ≠ [] := by exact fun z => nomatch z) (hall : ks.all (·.isSome) = true := by rfl) (hl : ks.length = vs.length := by rfl) (h15 : ks.length ≤ 15 := by decide) : PE X (.Dict ks vs pos) ((F.dct rs).rd Z W) := pe_disp h hall hl h0 h15
/-- a builtin's rule -/
def Blt (X : Cx) (Z : Rc) (v : Value) (x : Str) (b : Bif) : Prop := CallR X v (b.rd Z.K) ∧ bootBuiltins x = some v
theorem b_len (c : Cxt X Z W n) : Blt X Z (.builtin "len") "len" .len := ⟨by rw [c.k]; exact bif_len, by rfl⟩
theorem b_ord (c : Cxt X Z W n) : Blt X Z (.builtin "ord") "ord" .ord := ⟨by rw [c.k]; exact bif_ord, by rfl⟩
theorem b_min (c : Cxt X Z W n) (hc : X.calm = true := by rfl) : Blt X Z (.builtin "min") "min" .min2 := ⟨by rw [c.k]; exact bif_min2 hc, by rfl⟩
theorem b_max (c : Cxt X Z W n) (hc : X.calm = true := by rfl) : Blt X Z (.builtin "max") "max" .max2 := ⟨by rw [c.k]; exact bif_max2 hc, by rfl⟩
theorem b_abs (c : Cxt X Z W n) : Blt X Z (.builtin "abs") "abs" .abs := ⟨by rw [c.k]; exact bif_abs, by rfl⟩
theorem b_isi (c : Cxt X Z W n) : Blt X Z (.builtin "isinstance") "isinstance" .isi := ⟨by rw [c.k]; exact bif_isi, by rfl⟩
theorem b_int (c : Cxt X Z W n) : Blt X Z (.type "int") "int" .int := ⟨by rw [c.k]; exact bif_int, by rfl⟩
theorem b_str (c : Cxt X Z W n) : Blt X Z (.type "str") "str" .str := ⟨by rw [c.k]; exact bif_str, by rfl⟩
theorem b_tuple (c : Cxt X Z W n) : Blt X Z (.type "tuple") "tuple" .tuple := ⟨by rw [c.k]; exact bif_tuple, by rfl⟩
theorem b_list (c : Cxt X Z W n) : Blt X Z (.type "list") "list" .list := ⟨by rw [c.k]; exact bif_list, by rfl⟩

end

section
variable {X : Cx} {Z : Rc} {W : WX} {n : Nat} {fns cons blts : List Str} {a b e f : Expr} {ea eb ee ef : E} {pos q : Pos} {es : List Expr} {ds : Es} {as : As} {x : Str}
theorem d_bif {id : String} {B : Bif} (m : Md X Z n fns cons blts) (k : Blt X Z (.builtin id) x B) (i : Nat) (ha : PA X (e :: es) (ds.rd Z W)) (hi : blts[i]? = some x := by rfl) (hg : Gl X x := by rfl) (hn : x ≠ "__name__" := by decide) (hdb : (x == ("__debug__" : Str)) = false := by decide)
    (he : starEach (e :: es) X.env = (false, eval e X.env) :: starEach es X.env := by rfl) (hpl : (backTo pos (starEach es X.env)).any (·.1) = false := by rfl) : PE X (.Call (.Name x q) (e :: es) [] pos) ((E.bif B ds).rd Z W) := pe_callB k.1 hg (m.b i x hi) k.2 ha hn hdb he hpl
theorem d_bifT {T : String} {B : Bif} (m : Md X Z n fns cons blts) (k : Blt X Z (.type T) x B) (i : Nat) (ha : PA X (e :: es) (ds.rd Z W)) (hi : blts[i]? = some x := by rfl) (hg : Gl X x := by rfl) (hn : x ≠ "__name__" := by decide) (hdb : (x == ("__debug__" : Str)) = false := by decide)
    (he : starEach (e :: es) X.env = (false, eval e X.env) :: starEach es X.env := by rfl) (hpl : (backTo pos (starEach es X.env)).any (·.1) = false := by rfl) : PE X (.Call (.Name x q) (e :: es) [] pos) ((E.bif B ds).rd Z W) := pe_callTy k.1 hg (m.b i x hi) k.2 ha hn hdb he hpl
theorem d_bifo {id : String} {B : Bif} (m : Md X Z n fns cons blts) (k : Blt X Z (.builtin id) x B) (i j : Nat) (hv : PE X e ((E.var j).rd Z W)) (ha : PA X es (ds.rd Z W)) (hi : blts[i]? = some x := by rfl) (hg : Gl X x := by rfl) (hn : x ≠ "__name__" := by decide) (hdb : (x == ("__debug__" : Str)) = false := by decide)
    (he : starEach (e :: es) X.env = (false, eval e X.env) :: starEach es X.env := by rfl) (hpl : (backTo pos (starEach es X.env)).any (·.1) = false := by rfl) : PE X (.Call (.Name x q) (e :: es) [] pos) ((E.bifo B j ds).rd Z W) := pe_callB k.1 hg (m.b i x hi) k.2 (pa_cons hv ha he) hn hdb he hpl
theorem d_bifTo {T : String} {B : Bif} (m : Md X Z n fns cons blts) (k : Blt X Z (.type T) x B) (i j : Nat) (hv : PE X e ((E.var j).rd Z W)) (ha : PA X es (ds.rd Z W)) (hi : blts[i]? = some x := by rfl) (hg : Gl X x := by rfl) (hn : x ≠ "__name__" := by decide) (hdb : (x == ("__debug__" : Str)) = false := by decide)
    (he : starEach (e :: es) X.env = (false, eval e X.env) :: starEach es X.env := by rfl) (hpl : (backTo pos (starEach es X.env)).any (·.1) = false := by rfl) : PE X (.Call (.Name x q) (e :: es) [] pos) ((E.bifo B j ds).rd Z W) := pe_callTy k.1 hg (m.b i x hi) k.2 (pa_cons hv ha he) hn hdb he hpl
/-- a method of texts -/
structure Mtd (X : Cx) (Z : Rc) (name : Str) (M : Mth) : Prop where
  ex : ∃ id : String, Slot "str" name id ∧ typeOf (.builtin id) = pure (.type "method_descriptor") ∧ MtR X id (M.rd Z.K)
theorem m_find (c : Cxt X Z W n) : Mtd X Z "find" .find := ⟨⟨"str.find", PySem.F.slot_str_find, PySem.F.type_str_find, by rw [c.k]; exact mth_find⟩⟩
theorem m_find3 (c : Cxt X Z W n) : Mtd X Z "find" .find3 := ⟨⟨"str.find", PySem.F.slot_str_find, PySem.F.type_str_find, by rw [c.k]; exact mth_find3⟩⟩
theorem m_count (c : Cxt X Z W n) : Mtd X Z "count" .count := ⟨⟨"str.count", PySem.F.slot_str_count, PySem.F.type_str_count, by rw [c.k]; exact mth_count⟩⟩
theorem m_rfind (c : Cxt X Z W n) : Mtd X Z "rfind" .rfind := ⟨⟨"str.rfind", PySem.F.slot_str_rfind, PySem.F.type_str_rfind, by rw [c.k]; exact mth_rfind⟩⟩
theorem m_join (c : Cxt X Z W n) : Mtd X Z "join" .join := ⟨⟨"str.join", PySem.F.slot_str_join, PySem.F.type_str_join, by rw [c.k]; exact mth_join⟩⟩
theorem d_mth {name : Str} {M : Mth} {o : Expr} {eo : E} {apos cpos : Pos} (c : Cxt X Z W n) (k : Mtd X Z name M) (ho : PE X o (eo.rd Z W)) (ha : PA X (e :: es) (ds.rd Z W))
    (hbase : attributeBase o name X.env (eval o X.env) = eval o X.env := by rfl)
    (hfew : ((backTo cpos (starEach (e :: es) X.env)).all (fun x => !x.1) && (backToKw cpos (keywordEach [] X.env)).all (fun x => x.1.isSome)
      && decide ((e :: es).length + ([] : List Keyword).length + (if ([] : List Keyword).isEmpty then 0 else 1) < 30)) = true := by rfl)
    (hline : (apos.endLine == cpos.line) = true := by rfl) (hs : starEach (e :: es) X.env = (false, eval e X.env) :: starEach es X.env := by rfl) (hplain : (backTo cpos (starEach es X.env)).any (·.1) = false := by rfl) :
    PE X (.Call (.Attribute o name apos) (e :: es) [] cpos) ((E.mth M eo ds).rd Z W) := by
  obtain ⟨id, k1, k2, k3⟩ := k.ex
  show PE X _ (tBM Z.K "str" (M.rd Z.K) _ _)
  have := pe_bm PySem.F.plainAttrs_str k1 k2 k3 ho ha hbase hfew hline hs hplain
  rw [c.k] at this ⊢
  exact this
/-! slices -/
variable {lo hi : Option Expr} {el eh : OE}
theorem o_no : PO X none ((OE.no).rd Z W) := po_none
theorem o_so (h : PE X e (ee.rd Z W)) : PO X (some e) ((OE.so ee).rd Z W) := po_some h
theorem d_slc {p2 : Pos} (c : Cxt X Z W n) (he : PE X e (ee.rd Z W)) (hl : PO X lo (el.rd Z W)) (hu : PO X hi (eh.rd Z W)) : PE X (.Subscript e (.Slice lo hi none p2) pos) ((E.slc ee el eh).rd Z W) := pe_slice (by rw [c.k]; exact slr) he hl hu
theorem d_slo {p2 : Pos} (c : Cxt X Z W n) (i : Nat) (he : PE X e ((E.var i).rd Z W)) (hl : PO X lo (el.rd Z W)) (hu : PO X hi (eh.rd Z W)) : PE X (.Subscript e (.Slice lo hi none p2) pos) ((E.slo i el eh).rd Z W) := pe_slice (by rw [c.k]; exact slr) he hl hu
/-! ### tests -/
variable {t t' : T} {u u' : Expr}
theorem t_tru (c : Cxt X Z W n) (ha : PE X a (ea.rd Z W)) (he : ∀ whole, isTrue a X.env whole = (do let v ← whole; standAt a.pos; holding [v] (truthy v)) := by exact fun _ => rfl) : PT X a ((T.tru ea).rd Z W) := by
  show PT X a (tTru Z.K _)
  rw [c.k]
  exact pt_truth ha he
theorem t_truo (c : Cxt X Z W n) (i : Nat) (ha : PE X a ((E.var i).rd Z W)) (he : ∀ whole, isTrue a X.env whole = (do let v ← whole; standAt a.pos; holding [v] (truthy v)) := by exact fun _ => rfl) : PT X a ((T.truo i).rd Z W) := by
  show PT X a (tTru Z.K _)
  rw [c.k]
  exact pt_truth ha he
theorem w_and {rest : List Expr} (ha : PT X u (t.rd Z W)) (hb : PW X (.BoolOp .And (b :: rest) pos) (t'.rd Z W)) : PW X (.BoolOp .And (u :: b :: rest) pos) ((T.and t t').rd Z W) := pw_and ha hb
theorem w_or {rest : List Expr} (ha : PT X u (t.rd Z W)) (hb : PW X (.BoolOp .Or (b :: rest) pos) (t'.rd Z W)) : PW X (.BoolOp .Or (u :: b :: rest) pos) ((T.or t t').rd Z W) := pw_or ha hb
theorem w_and1 (ha : PT X u (t.rd Z W)) : PW X (.BoolOp .And [u] pos) (t.rd Z W) := pw_and1 ha
theorem w_or1 (ha : PT X u (t.rd Z W)) : PW X (.BoolOp .Or [u] pos) (t.rd Z W) := pw_or1 ha
theorem t_not (ha : PT X u (t.rd Z W)) : PT X (.UnaryOp .Not u pos) ((T.not t).rd Z W) := pt_not ha
/-! ### what is walked -/
variable {tg : Expr}
theorem i_lst (c : Cxt X Z W n) (h : PE X e (ee.rd Z W)) : PI X tg e ((It.lst ee).rd Z W) := by
  show PI X tg e (iList Z.K _)
  rw [c.k]
  exact pi_list h
theorem i_tup (c : Cxt X Z W n) (h : PE X e (ee.rd Z W)) : PI X tg e ((It.tup ee).rd Z W) := by
  show PI X tg e (iTup Z.K _)
  rw [c.k]
  exact pi_tup h
theorem i_str (h : PE X e (ee.rd Z W)) : PI X tg e ((It.str ee).rd Z W) := pi_str h
theorem i_r1 (m : Md X Z n fns cons blts) (i : Nat) (ha : PE X a (ea.rd Z W)) (hi : blts[i]? = some "range" := by rfl) (hg : Gl X "range" := by rfl) (hs : starEach [a] X.env = [(false, eval a X.env)] := by rfl) : PI X tg (.Call (.Name "range" q) [a] [] pos) ((It.r1 ea).rd Z W) := pi_range1 hg (m.b i _ hi) (pa_cons ha pa_nil hs) hs
theorem i_r2 (m : Md X Z n fns cons blts) (i : Nat) (ha : PE X a (ea.rd Z W)) (hb : PE X b (eb.rd Z W)) (hi : blts[i]? = some "range" := by rfl) (hg : Gl X "range" := by rfl) (hs : starEach [a, b] X.env = [(false, eval a X.env), (false, eval b X.env)] := by rfl) (hs2 : starEach [b] X.env = [(false, eval b X.env)] := by rfl) :
    PI X tg (.Call (.Name "range" q) [a, b] [] pos) ((It.r2 ea eb).rd Z W) := pi_range2 hg (m.b i _ hi) (pa_cons ha (pa_cons hb pa_nil hs2) (by rw [hs, hs2])) hs hs2
/-! ### targets -/
theorem g_nm (c : Cxt X Z W n) (i : Nat) (hi : X.N[i]? = some x := by rfl) (hx : Loc X.env.scope x := by first | exact .inl rfl | exact .inr rfl) : PG X (.Name x pos) ((Pt.nm i).rd Z.K) := pg_name c.nd hi hx (.inl (c.fn x))
theorem gs_nil : PGs X [] (gNames []) := pgs_nil
theorem gs_cons {j : Nat} {js : List Nat} (h1 : PG X e (gName j)) (h2 : PGs X es (gNames js)) (hs : (assignEach (e :: es) X.env).map (·.2) = assign e X.env :: (assignEach es X.env).map (·.2) := by rfl) : PGs X (e :: es) (gNames (j :: js)) := pgs_cons h1 h2 hs
theorem g_tp {k : Nat} {js : List Nat} (c : Cxt X Z W n) (h : PGs X es (gNames js)) (hn : (assignEach es X.env).length = js.length := by rfl) (hst : (assignEach es X.env).findIdx? (·.1) = none := by rfl) (hcm : X.calm = true := by rfl) : PG X (.Tuple es k pos) ((Pt.tp js).rd Z.K) := by
  show PG X _ (gTup Z.K _ _)
  rw [c.k]
  exact pg_tup hcm h hn hst
/-! ### statements -/
variable {st : Stmt} {rest l1 l2 : List Stmt} {s : S_} {r r1 r2 : Ss}
theorem ss_nil : PSs X [] ((Ss.nil).rd Z W) := pss_nil
theorem ss_cons (h1 : PS X st (s.rd Z W)) (h2 : PSs X rest (r.rd Z W)) : PSs X (st :: rest) ((Ss.cons s r).rd Z W) := pss_cons h1 h2
theorem z_asg (c : Cxt X Z W n) (i : Nat) (he : PE X e (ee.rd Z W)) (hi : X.N[i]? = some x := by rfl) (hx : Loc X.env.scope x := by first | exact .inl rfl | exact .inr rfl) (hs : swapsWith e (some (.Name x q)) pos.line X.env = pure false := by rfl) :
    PS X (.Assign [.Name x q] e pos) ((S_.asg (.nm i) ee).rd Z W) := ps_set c.nd hi hx he hs (.inl (c.fn x))
theorem z_own {ff : F} (c : Cxt X Z W n) (i : Nat) (he : PE X e (ff.rd Z W)) (hi : X.N[i]? = some x := by rfl) (hx : Loc X.env.scope x := by first | exact .inl rfl | exact .inr rfl) (hs : swapsWith e (some (.Name x q)) pos.line X.env = pure false := by rfl) :
    PS X (.Assign [.Name x q] e pos) ((S_.own i ff).rd Z W) := ps_set c.nd hi hx he hs (.inl (c.fn x))
theorem z_asgt {P : Pt} (he : PE X e (ee.rd Z W)) (hg : PG X tg (P.rd Z.K)) (hs : swapsWithSole [tg] e pos.line X.env = pure false := by rfl) (hw : swappedStores [tg] e X.env = pure none := by rfl)
    (h1 : (assignEach [tg] X.env).map (·.2) = [assign tg X.env] := by rfl) : PS X (.Assign [tg] e pos) ((S_.asg P ee).rd Z W) := ps_asg he hg hs hw h1
theorem z_add (c : Cxt X Z W n) (i : Nat) (he : PE X e (ee.rd Z W)) (hi : X.N[i]? = some x := by rfl) (hx : Loc X.env.scope x := by first | exact .inl rfl | exact .inr rfl) : PS X (.AugAssign (.Name x q) .Add e pos) ((S_.aug i .add ee).rd Z W) := ps_aug c.nd hi hx he ip_add (.inl (c.fn x))
theorem z_sub (c : Cxt X Z W n) (i : Nat) (he : PE X e (ee.rd Z W)) (hi : X.N[i]? = some x := by rfl) (hx : Loc X.env.scope x := by first | exact .inl rfl | exact .inr rfl) : PS X (.AugAssign (.Name x q) .Sub e pos) ((S_.aug i .sub ee).rd Z W) := ps_aug c.nd hi hx he ip_sub (.inl (c.fn x))
theorem z_app {o : Expr} {apos cpos : Pos} (c : Cxt X Z W n) (i : Nat) (ho : PE X o ((E.var i).rd Z W)) (he : PE X e (ee.rd Z W))
    (hs0 : swapsWith (.Call (.Attribute o "append" apos) [e] [] cpos) none pos.line X.env = pure false := by rfl)
    (hbase : attributeBase o "append" X.env (eval o X.env) = eval o X.env := by rfl)
    (hfew : ((backTo cpos (starEach [e] X.env)).all (fun x => !x.1) && (backToKw cpos (keywordEach [] X.env)).all (fun x => x.1.isSome)
      && decide ([e].length + ([] : List Keyword).length + (if ([] : List Keyword).isEmpty then 0 else 1) < 30)) = true := by rfl)
    (hline : (apos.endLine == cpos.line) = true := by rfl) (hs : starEach [e] X.env = (false, eval e X.env) :: starEach [] X.env := by rfl) (hplain : (backTo cpos (starEach [] X.env)).any (·.1) = false := by rfl) :
    PS X (.Expr (.Call (.Attribute o "append" apos) [e] [] cpos) pos) ((S_.app i ee).rd Z W) := by
  show PS X _ (tDrop (tBM Z.K "list" rAppend _ _))
  have := pe_bm PySem.F.plainAttrs_list PySem.F.slot_list_append PySem.F.type_list_append mt_append ho (pa_cons he pa_nil hs) hbase hfew hline hs hplain
  rw [c.k]
  exact ps_expr this hs0
theorem z_dset {o k : Expr} {ek : E} (c : Cxt X Z W n) (i : Nat) (ho : PE X o ((E.var i).rd Z W)) (hk : PE X k (ek.rd Z W)) (hv : PE X e (ee.rd Z W)) (hs : swapsWith e (some (.Subscript o k q)) pos.line X.env = pure false := by rfl) :
    PS X (.Assign [.Subscript o k q] e pos) ((S_.dset i ek ee).rd Z W) := ps_dput c.u1 ho hk hv hs
theorem z_drop (he : PE X e (ee.rd Z W)) (hs : swapsWith e none pos.line X.env = pure false := by rfl) : PS X (.Expr e pos) ((S_.drop ee).rd Z W) := ps_expr he hs
theorem z_if (hc : PT X u (t.rd Z W)) (ha : PSs X l1 (r1.rd Z W)) (hb : PSs X l2 (r2.rd Z W)) : PS X (.If u l1 l2 pos) ((S_.ite t r1 r2).rd Z W) := ps_if hc ha hb
theorem z_for {P : Pt} {it : It} (c : Cxt X Z W n) (hi : PI X tg e (it.rd Z W)) (hg : PG X tg (P.rd Z.K)) (hb : PSs X l1 (r1.rd Z W)) (hs : ∀ x, foldedSetIterable e X.env x = pure x := by exact fun _ => rfl) (hcm : X.calm = true := by rfl) : PS X (.For tg e l1 [] pos) ((S_.for_ P it r1).rd Z W) := ps_for c.po hcm hi hg hb hs
theorem z_whl (c : Cxt X Z W n) (hc : PT X u (t.rd Z W)) (hb : PSs X l1 (r1.rd Z W)) : PS X (.While u l1 [] pos) ((S_.whl t r1).rd Z W) := ps_while c.po hc hb
theorem z_ret (he : PE X e (ee.rd Z W)) : PS X (.Return (some e) pos) ((S_.ret ee).rd Z W) := ps_ret he
theorem z_retf {ff : F} (he : PE X e (ff.rd Z W)) : PS X (.Return (some e) pos) ((S_.retf ff).rd Z W) := ps_ret he
theorem z_reto (i : Nat) (he : PE X e ((E.var i).rd Z W)) : PS X (.Return (some e) pos) ((S_.reto i).rd Z W) := ps_ret he
theorem z_retn : PS X (.Return none pos) ((S_.retn).rd Z W) := ps_retN
theorem z_brk : PS X (.Break pos) ((S_.brk).rd Z W) := ps_break
theorem z_cnt : PS X (.Continue pos) ((S_.cnt).rd Z W) := ps_continue
theorem z_pass : PS X (.Pass pos) ((S_.pass).rd Z W) := ps_pass
theorem z_nev : PS X st ((S_.nev).rd Z W) := ps_never
/-! ### errors -/
/-- an error's class of the program, to be made -/
structure Mk (X : Cx) (Z : Rc) (x : Str) (y : Nat) : Prop where
  ex : ∃ (fI : Addr) (fd : FuncData) (ps : List Str), OexC X.K (Z.ca y) ∧ PySem.W.findIn X.K (.ref (Z.ca y)) "__init__" = some (some (.ref fI)) ∧ PySem.W.typeIn X.K (.ref fI) = some (.type "function") ∧
    FnOk X.prog X.w X.K X.mg X.base (L2.CX X.prog X.w) 1 fI fd ps (spXI X.K Z.f1 Z.f2) ∧ Room 2 X.A ∧ Binds X.K fd ps []
/-- what the code asks of the classes of errors -/
structure Me (X : Cx) (Z : Rc) (clss : List Str) : Prop where
  g : ∀ (i : Nat) (x : Str), clss[i]? = some x → X.mg x = some (.ref (Z.ca i))
  xf : ∀ y, y < Z.nc → XfC X.K (Z.ca y) ∧ PySem.W.findIn X.K (.ref (Z.ca y)) Z.f1 = some none ∧ PySem.W.findIn X.K (.ref (Z.ca y)) Z.f2 = some none
structure Mr (X : Cx) (Z : Rc) (mks : List Str) : Prop where
  m : ∀ (i : Nat) (x : Str), mks[i]? = some x → Mk X Z x i
theorem z_rs {clss mks : List Str} (c : Cxt X Z W n) (me : Me X Z clss) (mr : Mr X Z mks) (y : Nat) {q1 q2 q3 : Pos} (ha : PE X a (ea.rd Z W)) (hb : PE X b (eb.rd Z W)) (hi : mks[y]? = some x := by rfl) (hi2 : clss[y]? = some x := by rfl) (hg : Gl X x := by rfl) (hcm : X.calm = true := by rfl) (hdb : (x == ("__debug__" : Str)) = false := by decide)
    (hs : starEach [a, b] X.env = (false, eval a X.env) :: starEach [b] X.env := by rfl) (hs2 : starEach [b] X.env = (false, eval b X.env) :: starEach [] X.env := by rfl) (hpl : (backTo q2 (starEach [b] X.env)).any (·.1) = false := by rfl) :
    PS X (.Raise (some (.Call (.Name x q1) [a, b] [] q2)) none q3) ((S_.rs y ea eb).rd Z W) := by
  obtain ⟨fI, fd, ps, h1, h2, h3, h4, h5, h6⟩ := (mr.m y x hi).ex
  show PS X _ (fun _ σ H => tMkO (Z.ca y) (spXI Z.K Z.f1 Z.f2) [] (tCons (ea.rd Z W) (tCons (eb.rd Z W) tNil)) σ H fun cls d H' => W cls d σ H')
  have := ps_rs (q1 := q1) (q2 := q2) (q3 := q3) hcm c.tk h1 h2 h3 h4 h5 h6 hg (me.g y x hi2) (pa_cons ha (pa_cons hb pa_nil hs2) hs) hdb hs hpl
  rw [← c.k] at this
  exact this
/-- in a clause -/
structure Cz (X : Cx) (Z : Rc) (a : Addr) (oe : Obj) (pl : List (Addr × Obj)) (X0 : Cx) : Prop where
  x : X = X0.suite a ((a, oe) :: pl)
  k : Z.K = X.K
  za : Z.xa = a
  z : Zc Z.xc Z.xd oe
  f : ∃ fv, oe.data = .fields fv
theorem d_xf {clss : List Str} {X0 : Cx} {A0 : Addr} {oe : Obj} {pl : List (Addr × Obj)} {o : Expr} {name : Str} (cz : Cz X Z A0 oe pl X0) (me : Me X Z clss) (k i : Nat) (ho : PE X o ((E.var i).rd Z W)) (hn : Z.fld k = name := by rfl)
    (hb : attributeBase o name X.env (eval o X.env) = eval o X.env := by rfl) : PE X (.Attribute o name pos) ((E.xf k i).rd Z W) := by
  obtain ⟨rfl, hk, rfl, hz, hf⟩ := cz
  refine ⟨fun pins s σ H Q I h => ?_⟩
  obtain ⟨y, hy, hc, h⟩ := h
  obtain ⟨t1, t2, t3⟩ := me.xf y hy
  have hno : PySem.W.findIn X0.K (.ref (Z.ca y)) name = some none := by
    rw [← hn]
    unfold Rc.fld
    split
    · exact t2
    · exact t3
  rw [hn] at h
  exact (pe_xf (X := X0) (n := name) (pos := pos) t1 hno hz hf ho hb).run pins s σ H Q I h
theorem d_xi {clss : List Str} {X0 : Cx} {A0 : Addr} {oe : Obj} {pl : List (Addr × Obj)} {o : Expr} {q1 : Pos} (cz : Cz X Z A0 oe pl X0) (m : Md X Z n fns cons blts) (me : Me X Z clss) (i y j : Nat) (ho : PE X o ((E.var i).rd Z W)) (hy : clss[y]? = some x := by rfl) (hi : blts[j]? = some "isinstance" := by rfl)
    (hg : Gl X "isinstance" := by rfl) (hgx : Gl X x := by rfl) (hdb : (x == ("__debug__" : Str)) = false := by decide)
    (he : starEach [o, .Name x q1] X.env = (false, eval o X.env) :: starEach [.Name x q1] X.env := by rfl) (he2 : starEach [.Name x q1] X.env = (false, eval (.Name x q1) X.env) :: starEach [] X.env := by rfl) (hpl : (backTo pos (starEach [.Name x q1] X.env)).any (·.1) = false := by rfl) :
    PE X (.Call (.Name "isinstance" q) [o, .Name x q1] [] pos) ((E.xi i y).rd Z W) := by
  have hm := me.g y x hy
  obtain ⟨rfl, hk, rfl, hz, hf⟩ := cz
  show PE _ _ (tCB (rIsA Z.K Z.xa Z.xc Z.xd) (tCons (tVar i) (tCons (tC (.ref (Z.ca y))) tNil)))
  rw [hk]
  exact pe_callB (call_isA hz hf) hg (m.b j _ hi) (by rfl) (pa_cons ho (pa_cons (pe_glob hgx hm rfl hdb) pa_nil he2) he) (by decide) (by decide) he hpl
theorem x_nil : PA X [] (clsA Z []) := pa_nil
theorem x_cons {clss : List Str} {q1 : Pos} (me : Me X Z clss) (y : Nat) {ys : List Nat} (hr : PA X es (clsA Z ys)) (hy : clss[y]? = some x := by rfl) (hgx : Gl X x := by rfl) (hdb : (x == ("__debug__" : Str)) = false := by decide)
    (he : starEach (.Name x q1 :: es) X.env = (false, eval (.Name x q1) X.env) :: starEach es X.env := by rfl) : PA X (.Name x q1 :: es) (clsA Z (y :: ys)) := pa_cons (pe_glob hgx (me.g y x hy) rfl hdb) hr he
theorem d_xt {X0 : Cx} {A0 : Addr} {oe : Obj} {pl : List (Addr × Obj)} {o : Expr} {q1 : Pos} {x1} {ys : List Nat} (cz : Cz X Z A0 oe pl X0) (m : Md X Z n fns cons blts) (i j : Nat) (ho : PE X o ((E.var i).rd Z W)) (hr : PA X es (clsA Z ys)) (hi : blts[j]? = some "isinstance" := by rfl)
    (hg : Gl X "isinstance" := by rfl)
    (he : starEach [o, .Tuple es x1 q1] X.env = (false, eval o X.env) :: starEach [.Tuple es x1 q1] X.env := by rfl) (he2 : starEach [.Tuple es x1 q1] X.env = (false, eval (.Tuple es x1 q1) X.env) :: starEach [] X.env := by rfl) (hpl : (backTo pos (starEach [.Tuple es x1 q1] X.env)).any (·.1) = false := by rfl) :
    PE X (.Call (.Name "isinstance" q) [o, .Tuple es x1 q1] [] pos) ((E.xt i ys).rd Z W) := by
  obtain ⟨rfl, hk, rfl, hz, hf⟩ := cz
  show PE _ _ (tCB (rIsA Z.K Z.xa Z.xc Z.xd) (tCons (tVar i) (tCons (tTup (clsA Z ys)) tNil)))
  rw [hk]
  exact pe_callB (call_isA hz hf) hg (m.b j _ hi) (by rfl) (pa_cons ho (pa_cons (pe_tup hr) pa_nil he2) he) (by decide) (by decide) he hpl
theorem Md.tr {pl : List (Addr × Obj)} {xe : Value → Shared → Prop} (m : Md X Z n fns cons blts) : Md (X.tr pl xe) Z n fns cons blts := ⟨fun i x e => ⟨(m.f i x e).ex⟩, m.c, m.b⟩
theorem Me.tr {clss : List Str} {pl : List (Addr × Obj)} {xe : Value → Shared → Prop} (m : Me X Z clss) : Me (X.tr pl xe) Z clss := ⟨m.g, m.xf⟩
theorem Mr.tr {mks : List Str} {pl : List (Addr × Obj)} {xe : Value → Shared → Prop} (m : Mr X Z mks) : Mr (X.tr pl xe) Z mks := ⟨fun i x e => ⟨(m.m i x e).ex⟩⟩
theorem z_try {bd : List Stmt} {h1 : ExceptHandler} {hh : List ExceptHandler} {bb : Ss} {hs : Hs} (c : Cxt X Z W n) (hb : ∀ (W' : WX) (pl : List (Addr × Obj)) (xe : Value → Shared → Prop), Cxt (X.tr pl xe) Z W' n → PSs (X.tr pl xe) bd (bb.rd Z W')) (hk : HdA X (h1 :: hh) (hs.rl Z))
    (hst : X.stack = X.env :: X.outer := by rfl) (hf : X.env.frame = some X.env.locals := by rfl) : PS X (.Try bd (h1 :: hh) [] [] pos) ((S_.try_ bb hs).rd Z W) := by
  show PS X _ (fun D σ H => bb.rd Z (wAll Z.K W D (hs.rl Z)) D σ H)
  rw [c.k]
  exact ps_tryA hst hf c.nd c.tk (fun W' pl xe tk po => hb W' pl xe ⟨c.k, c.nd, c.fn, c.u, tk, po⟩) hk
theorem h_nil : HdA X [] (Hs.nil.rl Z) := HdA.nil
theorem h_cons {clss : List Str} {nme : Str} {st0 : Stmt} {sts : List Stmt} {q1 q2 : Pos} {hh : List ExceptHandler} {bb : Ss} {hs : Hs} (c : Cxt X Z W n) (m : Md X Z n fns cons blts) (me : Me X Z clss) (y i : Nat)
    (hsu : ∀ (a : Addr) (oe : Obj) (cls : Value) (d : Option Addr) (pl : List (Addr × Obj)), Cxt (X.suite a ((a, oe) :: pl)) (Z.at_ a cls d) W0 n → Md (X.suite a ((a, oe) :: pl)) (Z.at_ a cls d) n [] cons blts → Me (X.suite a ((a, oe) :: pl)) (Z.at_ a cls d) clss →
      Cz (X.suite a ((a, oe) :: pl)) (Z.at_ a cls d) a oe pl X → PSs (X.suite a ((a, oe) :: pl)) (st0 :: sts) (bb.rd (Z.at_ a cls d) W0)) (r : HdA X hh (hs.rl Z))
    (hi : X.N[i]? = some nme := by rfl) (hln : X.env.kindOf nme = some .local := by rfl) (hy : clss[y]? = some x := by rfl) (hg : Gl X x := by rfl) (hdb : (x == ("__debug__" : Str)) = false := by decide) :
    HdA X (.ExceptHandler (some (.Name x q1)) (some nme) (st0 :: sts) q2 :: hh) ((Hs.cons y i bb hs).rl Z) :=
  HdA.cons hi hln ⟨hg, hdb, .inl (me.g y x hy)⟩ (fun a oe cls d pl hz hf => hsu a oe cls d pl ⟨c.k, c.nd, c.fn, c.u, takes0, PassesOwn.never⟩ ⟨fun i x e => (by cases e), m.c, m.b⟩ ⟨me.g, me.xf⟩ ⟨rfl, c.k, rfl, hz, hf⟩) r
end
end Mp
/-! A mini language over HandS, 14: a module of defs. -/
namespace Mp
open PySem L2 Evl PyProof.Rows
open SX (S S_len S_cat S_inj)
/-! ### constants of the module -/
def gvK (K : PySem.W.Frag) (x : Str) : V := match PySem.W.nsIn K mainGlobals x with
  | some (some u) => (absV u).getD .non
  | _ => .non
def ConOk (K : PySem.W.Frag) (x : Str) (d : D) : Prop := ∃ u, PySem.W.nsIn K mainGlobals x = some (some u) ∧ RelV (gvK K x) u ∧ ∀ G, Rp K G d (gvK K x)
def absD : Value → Option D
  | .none => some .non
  | .bool b => some (.bl b)
  | .int i _ => some (.int i)
  | .str s _ => some (.str s.cps.toList)
  | _ => none
theorem absD_ok {u : Value} {d : D} (h : absD u = some d) : ∃ v, absV u = some v ∧ RelV v u ∧ ∀ K G, Rp K G d v := by
  cases u with
  | none => cases h; exact ⟨.non, rfl, rfl, fun _ _ => rfl⟩
  | bool b => cases h; exact ⟨.bl b, rfl, rfl, fun _ _ => rfl⟩
  | int i t => cases h; exact ⟨.int i, rfl, ⟨t, rfl⟩, fun _ _ => rfl⟩
  | str s t => cases h; exact ⟨.str s, rfl, ⟨t, rfl⟩, fun _ _ => rfl⟩
  | _ => cases h
theorem absDs_ok : ∀ {us : List Value} {ds : List D}, us.map absD = ds.map some → ∃ vs, Vals vs us ∧ ∀ K G, Rps K G ds vs
  | [], [], _ => ⟨[], .nil, fun _ _ => rfl⟩
  | u :: us, d :: ds, h => by
    injection h with h1 h2
    obtain ⟨v, _, r, p⟩ := absD_ok h1
    obtain ⟨vs, rs, ps⟩ := absDs_ok h2
    exact ⟨v :: vs, .cons r rs, fun K G => ⟨v, vs, rfl, p K G, ps K G⟩⟩
  | [], _ :: _, h => by cases h
  | _ :: _, [], h => by cases h
theorem con_flat {K : PySem.W.Frag} {x : Str} {u : Value} {d : D} (a : PySem.W.nsIn K mainGlobals x = some (some u)) (h : absD u = some d) : ConOk K x d := by
  obtain ⟨v, e, r, p⟩ := absD_ok h
  have q : gvK K x = v := by unfold gvK; rw [a]; show (absV u).getD .non = v; rw [e]; rfl
  exact ⟨u, a, q ▸ r, fun G => q ▸ p K G⟩
theorem con_tup {K : PySem.W.Frag} {x : Str} {p : Addr} {od : Option Addr} {its : Array Value} {n : Nat} {sl : Array (Option Value)} {ds : List D} (a : PySem.W.nsIn K mainGlobals x = some (some (.ref p)))
    (l : K.lookup p = some ⟨.type "tuple", od, .seq its n, sl⟩) (hs : its.size ≤ sizeLine) (h : its.toList.map absD = ds.map some) : ConOk K x (.tup ds) := by
  have q : gvK K x = .ref p := by unfold gvK; rw [a]; rfl
  obtain ⟨vs, rs, ps⟩ := absDs_ok h
  exact ⟨.ref p, a, q ▸ rfl, fun G => q ▸ ⟨p, vs, rfl, .inr ⟨_, its, n, l, rfl, rfl, hs, rs⟩, ps K G⟩⟩
/-! ### the table -/
/-- a property of each of a list, by its place -/
def AllI {α : Type} (P : Nat → α → Prop) : Nat → List α → Prop
  | _, [] => True
  | i, a :: r => P i a ∧ AllI P (i + 1) r
theorem AllI.get' {α : Type} {P : Nat → α → Prop} : ∀ {l : List α} {k i : Nat} {a : α}, AllI P k l → l[i]? = some a → P (k + i) a
  | [], _, _, _, _, e => by cases e
  | b :: r, k, 0, a, h, e => by cases e; exact h.1
  | b :: r, k, i + 1, a, h, e => by
    have := AllI.get' (i := i) h.2 e
    rw [Nat.add_assoc, Nat.add_comm 1 i] at this
    exact this
theorem AllI.get {α : Type} {P : Nat → α → Prop} {l : List α} {i : Nat} {a : α} (h : AllI P 0 l) (e : l[i]? = some a) : P i a := by
  have := h.get' e
  rw [Nat.zero_add] at this
  exact this
def clsK (K : PySem.W.Frag) (x : Str) : Addr := match PySem.W.nsIn K mainGlobals x with
  | some (some (.ref a)) => a
  | _ => default
def Modu.pg (m : Modu) (K : PySem.W.Frag) : Pg where
  K := K
  gl := fun i => m.vals[i]?
  sub := m.sub
  tab := fun i => m.code[i]?
  gv := fun i => gvK K (m.cons[i]?.getD "")
  ca := fun i => clsK K (m.clss[i]?.getD "")
  nc := m.mks.length
  f1 := m.f1
  f2 := m.f2
/-- what the written part says of a class of errors that is made -/
structure ClsOk (K : PySem.W.Frag) (f1 f2 : Str) (C : Addr) : Prop where
  o : OexC K C
  n1 : PySem.W.findIn K (.ref C) f1 = some none
  n2 : PySem.W.findIn K (.ref C) f2 = some none
  e : ExcC K C
theorem ClsOk.xf {K : PySem.W.Frag} {f1 f2 : Str} {C : Addr} (h : ClsOk K f1 f2 C) : XfC K C := ⟨h.e.hg, h.e.hk, h.e.hs, h.e.hd⟩
/-- one class asked of another -/
structure SubOk (K : PySem.W.Frag) (C D : Addr) (b : Bool) : Prop where
  x : PySem.W.exmOne K (.ref C) (.ref D) = some b
  k : PySem.W.kitOne K (.ref C) (.ref D) = some b
theorem sub_mk {K : PySem.W.Frag} {C D : Addr} {b : Bool} (h1 : PySem.W.subIn K (.ref D) (.type "BaseException") = some true) (hd : PySem.W.hasDictIn K D = true) (ht : PySem.W.typeIn K (.ref D) = some (.type "type")) (hself : PySem.W.subIn K (.ref C) (.ref C) = some true) (h : PySem.W.subIn K (.ref C) (.ref D) = some b) : SubOk K C D b := by
  refine ⟨PySem.W.exm_ref h1 hd ht h, ?_⟩
  obtain ⟨cd, hc, _⟩ := PySem.W.any_some hd
  unfold PySem.W.kitOne
  by_cases z : (Value.ref C == Value.ref D) = true
  · rw [if_pos z]
    have e : C = D := Value.ref.inj (beq_iff_eq.mp z)
    subst e
    rw [hself] at h
    exact h
  · rw [if_neg z]
    show (if ((PySem.W.clsIn K D).isSome && PySem.W.typeIn K (.ref D) == some (.type "type")) = true then PySem.W.subIn K (.ref C) (.ref D) else none) = some b
    rw [hc, ht, h]
    rfl
section
variable {P : Program} {w : World} {K : PySem.W.Frag} {mg : Str → Option Value} {base : Heap} {m : Modu}
/-- what is to be shown of a def: its text, its scope, its code's derivation -/
structure DefOk (P : Program) (w : World) (K : PySem.W.Frag) (mg : Str → Option Value) (base : Heap) (m : Modu) (x : Str) (fn : Fn) (f : Addr) (fd : FuncData) (N ps : List Str) (st : Stmt) : Prop where
  F : Fun K x x st f fd
  g : mg x = some (.ref f)
  b : Binds K fd ps []
  S : FnScope N ps (defScope st)
  n : N.length = fn.n
  p : ps.length = fn.ps
  body : ∀ (k : Nat) (cdv : Value) (A : Around) (outer : List Env) (s : Shared) (H : Hp) (E : XK),
    Cxt (cxOf (L2.CX P w) P w K mg base N x (defScope st) f cdv A outer s H E) ((m.pg K).rc k) (fun cls d _ H => E cls d H) k →
    Md (cxOf (L2.CX P w) P w K mg base N x (defScope st) f cdv A outer s H E) ((m.pg K).rc k) k m.fns m.cons m.blts →
    Me (cxOf (L2.CX P w) P w K mg base N x (defScope st) f cdv A outer s H E) ((m.pg K).rc k) m.clss →
    Mr (cxOf (L2.CX P w) P w K mg base N x (defScope st) f cdv A outer s H E) ((m.pg K).rc k) m.mks →
    PSs (cxOf (L2.CX P w) P w K mg base N x (defScope st) f cdv A outer s H E) (defBody st) (fn.body.rd ((m.pg K).rc k) (fun cls d _ H => E cls d H))
structure ModOk (P : Program) (w : World) (K : PySem.W.Frag) (mg : Str → Option Value) (base : Heap) (m : Modu) : Prop where
  f : ∀ (i : Nat) (x : Str), m.fns[i]? = some x → ∃ fn f fd N ps st, m.code[i]? = some fn ∧ DefOk P w K mg base m x fn f fd N ps st
  c : ∀ (i : Nat) (x : Str), m.cons[i]? = some x → ∃ u, mg x = some u ∧ RelV (gvK K x) u
  d : ∀ (i : Nat) (d : D), m.vals[i]? = some d → ∀ G, Rp K G d (gvK K (m.cons[i]?.getD ""))
  b : ∀ (i : Nat) (x : Str), m.blts[i]? = some x → mg x = none
  e : ∀ (i : Nat) (x : Str), m.clss[i]? = some x → mg x = some (.ref (clsK K x))
  k : ∀ (i : Nat) (x : Str), m.mks[i]? = some x → m.clss[i]? = some x ∧ ClsOk K m.f1 m.f2 (clsK K x) ∧ ∃ (fI : Addr) (fd : FuncData) (ps : List Str), PySem.W.findIn K (.ref (clsK K x)) "__init__" = some (some (.ref fI)) ∧ PySem.W.typeIn K (.ref fI) = some (.type "function") ∧
    FnOk P w K mg base (L2.CX P w) 1 fI fd ps (spXI K m.f1 m.f2) ∧ Binds K fd ps []
  s : ∀ (i j : Nat) (b : Bool), m.sub i j = some b → i < m.mks.length ∧ SubOk K (clsK K (m.clss[i]?.getD "")) (clsK K (m.clss[j]?.getD "")) b
  ff : (m.f1 == m.f2) = false
theorem ModOk.at_ (M : ModOk P w K mg base m) {y : Nat} (hy : y < m.mks.length) : ClsOk K m.f1 m.f2 (clsK K (m.clss[y]?.getD "")) := by
  obtain ⟨h1, h2, _⟩ := M.k y _ (List.getElem?_eq_getElem hy)
  rw [h1]
  exact h2
theorem ModOk.good (M : ModOk P w K mg base m) : (m.pg K).Good :=
  ⟨fun i d h => M.d i d h, fun y hy => by
    have h := M.at_ hy
    exact ⟨h.o, h.n1, h.n2, h.e⟩, fun i j b h => by
    obtain ⟨h1, h2⟩ := M.s i j b h
    exact ⟨h1, h2.x, h2.k⟩, M.ff⟩
theorem DefOk.up (M : ModOk P w K mg base m) {k i : Nat} {x : Str} {fn : Fn} {f : Addr} {fd : FuncData} {N ps : List Str} {st : Stmt} (D : DefOk P w K mg base m x fn f fd N ps st) (hi : m.code[i]? = some fn)
    (ih : ∀ (i : Nat) (x : Str), m.fns[i]? = some x → ∃ (f : Addr) (fd : FuncData) (ps : List Str), FnOk P w K mg base (L2.CX P w) (k + 2) f fd ps (spC ((m.pg K).rc k) i) ∧ mg x = some (.ref f) ∧ PySem.W.keepIn K (.ref f) = true ∧ Binds K fd ps []) :
    FnOk P w K mg base (L2.CX P w) (k + 2 + 1) f fd ps (spC ((m.pg K).rc (k + 1)) i) :=
  fn_up (p := m.pg K) (i := i) M.good D.F D.S hi D.n D.p fun cdv A outer s H E hr =>
    D.body k cdv A outer s H E ⟨rfl, D.S.nd, fun _ => rfl, room_u hr, takes_of rfl rfl rfl rfl, passes_of rfl⟩
      ⟨fun i x e => by
        obtain ⟨f, fd, ps, h1, h2, h3, h4⟩ := ih i x e
        exact ⟨f, fd, ps, h1, hr, h2, h3, h4⟩, fun i x e => by
        obtain ⟨u, h1, h2⟩ := M.c i x e
        refine ⟨u, h1, ?_⟩
        show RelV (gvK K (m.cons[i]?.getD "")) u
        rw [e]
        exact h2, M.b⟩
      ⟨fun i x e => by
        have := M.e i x e
        show mg x = some (.ref (clsK K (m.clss[i]?.getD "")))
        rw [e]
        exact this, fun y hy => by
        have h := M.at_ hy
        exact ⟨h.xf, h.n1, h.n2⟩⟩
      ⟨fun i x e => by
        obtain ⟨h1, h2, fI, fd, ps, h3, h4, h5, h6⟩ := M.k i x e
        have q : ((m.pg K).rc k).ca i = clsK K x := by
          show clsK K (m.clss[i]?.getD "") = _
          rw [h1]
          rfl
        exact ⟨fI, fd, ps, q ▸ h2.o, q ▸ h3, h4, h5, hr.mono (by omega), h6⟩⟩
theorem ModOk.all (M : ModOk P w K mg base m) : ∀ (k i : Nat) (x : Str), m.fns[i]? = some x → ∃ (f : Addr) (fd : FuncData) (ps : List Str), FnOk P w K mg base (L2.CX P w) (k + 2) f fd ps (spC ((m.pg K).rc k) i) ∧ mg x = some (.ref f) ∧ PySem.W.keepIn K (.ref f) = true ∧ Binds K fd ps []
  | 0, i, x, e => by
    obtain ⟨fn, f, fd, N, ps, st, hi, D⟩ := M.f i x e
    exact ⟨f, fd, ps, fn_zero (p := m.pg K), D.g, D.F.kp, D.b⟩
  | k + 1, i, x, e => by
    obtain ⟨fn, f, fd, N, ps, st, hi, D⟩ := M.f i x e
    exact ⟨f, fd, ps, D.up M hi (ModOk.all M k), D.g, D.F.kp, D.b⟩
end
/-! ### the law -/
theorem ints_rps {K : PySem.W.Frag} {G : Hp} : ∀ ns : List Int, Rps K G (ns.map D.int) (ns.map V.int)
  | [] => rfl
  | n :: ns => ⟨.int n, ns.map V.int, rfl, rfl, ints_rps ns⟩
theorem law_sp {K : PySem.W.Frag} {m : Modu} {i k : Nat} {H : Hp} {a : Addr} {ns : List Int} {fn : Fn} (hi : m.code[i]? = some fn) (h1 : fn.ps = 1) (hS : SqL K H a (ns.map V.int))
    (h : ∃ as', callN (fun i => m.vals[i]?) m.sub (fun i => m.code[i]?) k i [.da (.fls (ns.map D.int))] = .ok (.da (.bl true)) as') :
    spC ((m.pg K).rc k) i [.ref a] H (fun v _ => v = .bl true) fun _ _ _ => False := by
  obtain ⟨as', h⟩ := h
  refine ⟨?_, H, [.da (.fls (ns.map D.int))], ⟨Ex.refl H, rfl, fun j d e => ?_, fun j c e => ?_, fun j j' c c' p _ e => ?_, fun q hq => (by cases hq), fun j e => ?_, fun _ _ z => nomatch z⟩, ?_⟩
  · show 1 = (m.pg K).ar i
    unfold Pg.ar
    show 1 = match m.code[i]? with | some fn => fn.ps | none => 0
    rw [hi]
    exact h1.symm
  · match j, e with
    | 0, e =>
      cases e
      exact ⟨.ref a, rfl, a, _, rfl, hS, ints_rps ns⟩
    | j + 1, e => cases e
  · match j, e with
    | 0, e => cases e
    | j + 1, e => cases e
  · match j, e with
    | 0, e => cases e
    | j + 1, e => cases e
  · match j, e with
    | 0, e => cases e
    | j + 1, e => cases e
  · show match callN (fun i => m.vals[i]?) m.sub (fun i => m.code[i]?) k i [.da (.fls (ns.map D.int))] with
      | .no => False
      | .ok r as' => ∀ v G' H', Aft K Pin.nil [some (V.ref a)] [.da (.fls (ns.map D.int))] H H [some (V.ref a)] as' G' H' → RetOk K H G' H' r v → v = .bl true
      | .er x as' => ∀ cls d G' H', Aft K Pin.nil [some (V.ref a)] [.da (.fls (ns.map D.int))] H H [some (V.ref a)] as' G' H' → ((m.pg K).rc k).xr x cls d H' → False
    rw [h]
    exact fun v G' H' _ r => r
theorem walk_mp {l : PySem.W.OpenLaw} {k i : Nat} {q : Program} {loose : List Str} {XP : (Str → Option Value) → Heap → Prop} {YP : World → Heap → Prop} {d : DefRec} {K : Params → PySem.W.Frag} {x : Str} {m : Modu} {fn : Fn}
    (hn : l.most = some 63) (hdf : d.params.defaults = []) (hr : Room (k + 2) callerA)
    (hY : ∀ (w : World) (h : Heap), YP w h → (K w.params).In h)
    (hi : m.code[i]? = some fn) (h1 : fn.ps = 1)
    (hrun : ∀ ns : List Int, ns.length ≤ 63 → ∃ as', callN (fun i => m.vals[i]?) m.sub (fun i => m.code[i]?) k i [.da (.fls (ns.map D.int))] = .ok (.da (.bl true)) as')
    (F : ∀ (w : World) (mg : Str → Option Value) (fa : Addr) (h : Heap), (K w.params).In h → h.Ns mainGlobals mg → mg d.name = some (.ref fa) →
      ∃ fd : FuncData, (∀ (s : Shared) (u : Value), BindsTo s fd ⟨[u], []⟩ [(x, u)]) ∧
        ∀ base : Heap, (K w.params).In base → base.Ns mainGlobals mg → FnOk l.prog w (K w.params) mg base (L2.CX l.prog w) (k + 2) fa fd [x] (spC ((m.pg (K w.params)).rc k) i)) :
    PySem.W.WalkO q loose XP YP l.row.toRowW d [] (fun f vs => PySem.call f vs) :=
  walk_of (CX := fun w => L2.CX l.prog w) (sp := fun w => spC ((m.pg (K w.params)).rc k) i) hn (by decide) hdf hr hY F (fun w H a ns hl _ hS => law_sp hi h1 hS (hrun ns hl)) fun w H s e s' h => by
    obtain ⟨_, _, _, _, _, _, _, _, _, _, _, _, z⟩ := h
    exact z.elim
end Mp
/-! The codes of the defs of law_k01_rules_with_a_bad_place, in the mini language (printed by gen.py). -/
namespace K01
open Mp PySem
def code__law_mix : Ss := (.cons (.asg (.nm 2) (.op2 .mod (.bif .int (.cons (.op2 .add (.op2 .add (.op2 .mul (.var 0) (.cst (.int 48271))) (.op2 .mul (.var 1) (.cst (.int 69621)))) (.cst (.int 11))) .nil)) (.cst (.int 2147483647)))) (.cons (.ret (.op2 .mod (.op2 .mod (.bif .int (.cons (.op2 .add (.op2 .add (.op2 .add (.op2 .mul (.var 2) (.var 2)) (.op2 .mul (.var 0) (.cst (.int 40692)))) (.op2 .mul (.var 1) (.cst (.int 7)))) (.cst (.int 3))) .nil)) (.cst (.int 1000003))) (.cst (.int 1000)))) .nil))
def fn__law_mix : Fn := ⟨3, 2, [], code__law_mix⟩
/-- 0 -/
abbrev i__law_mix : Nat := 0
def b1__law_stream : Ss := (.cons (.ite (.and (.val (.op2 .gt (.var 4) (.cst (.int 0)))) (.val (.op2 .lt (.bifo .len 2 .nil) (.var 1)))) (.cons (.app 2 (.op2 .mod (.bif .int (.cons (.var 4) .nil)) (.cst (.int 1000)))) (.cons (.asg (.nm 4) (.op2 .fdiv (.var 4) (.cst (.int 1000)))) .nil)) .nil) .nil)
def b2__law_stream : Ss := (.cons (.ite (.val (.op2 .lt (.bifo .len 2 .nil) (.var 1))) (.cons (.app 2 (.call 0 (.d (.var 4) (.d (.op2 .add (.op2 .mul (.cst (.int 64)) (.var 5)) (.var 3)) .nil)))) .nil) .nil) .nil)
def b3__law_stream : Ss := (.cons (.asg (.nm 4) (.op2 .idx (.var 0) (.var 3))) (.cons (.ite (.val (.op2 .ge (.var 4) (.op2 .pow (.cst (.int 10)) (.cst (.int 18))))) (.cons (.for_ (.nm 5) (.r1 (.cst (.int 60))) b1__law_stream) .nil) (.cons (.for_ (.nm 5) (.r1 (.cst (.int 3))) b2__law_stream) .nil)) .nil))
def code__law_stream : Ss := (.cons (.own 2 (.lst .nil)) (.cons (.for_ (.nm 3) (.r1 (.bif .min2 (.cons (.bif .len (.cons (.var 0) .nil)) (.cons (.cst (.int 63)) .nil)))) b3__law_stream) (.cons (.retf (.dct [((.str [114, 111, 119]), (.frz 2)), ((.str [97, 116]), (.cst (.int 0))), ((.str [115, 101, 101, 100]), (.bifo .len 2 .nil))])) .nil)))
def fn__law_stream : Fn := ⟨6, 2, [], code__law_stream⟩
/-- 1 -/
abbrev i__law_stream : Nat := 1
def code__law_pick : Ss := (.cons (.asg (.nm 2) (.dix 0 (.cst (.str [97, 116])))) (.cons (.dset 0 (.cst (.str [97, 116])) (.op2 .add (.var 2) (.cst (.int 1)))) (.cons (.asg (.nm 3) (.call 0 (.d (.dix 0 (.cst (.str [115, 101, 101, 100]))) (.d (.var 2) .nil)))) (.cons (.ite (.val (.op2 .lt (.var 2) (.bif .len (.cons (.dix 0 (.cst (.str [114, 111, 119]))) .nil)))) (.cons (.asg (.nm 3) (.op2 .idx (.dix 0 (.cst (.str [114, 111, 119]))) (.var 2))) .nil) .nil) (.cons (.ret (.op2 .mod (.bif .int (.cons (.var 3) .nil)) (.var 1))) .nil)))))
def fn__law_pick : Fn := ⟨4, 2, [0], code__law_pick⟩
/-- 2 -/
abbrev i__law_pick : Nat := 2
def code__comment_end : Ss := (.cons (.asg (.nm 2) (.mth .find3 (.var 0) (.cons (.cst (.str [10])) (.cons (.var 1) .nil)))) (.cons (.ite (.val (.op2 .lt (.var 2) (.cst (.int 0)))) (.cons (.ret (.bif .len (.cons (.var 0) .nil))) .nil) .nil) (.cons (.ret (.var 2)) .nil)))
def fn__comment_end : Fn := ⟨3, 2, [], code__comment_end⟩
/-- 3 -/
abbrev i__comment_end : Nat := 3
def code_is_sign : Ss := (.cons (.ret (.and (.chain .le .le (.cst (.str [32])) (.var 0) (.cst (.str [126]))) (.and (.op2 .ne (.bif .ord (.cons (.var 0) .nil)) (.glb 0)) (.op2 .ne (.bif .ord (.cons (.var 0) .nil)) (.glb 1))))) .nil)
def fn_is_sign : Fn := ⟨1, 1, [], code_is_sign⟩
/-- 4 -/
abbrev i_is_sign : Nat := 4
def t1__quoted : T := (.and (.val (.op2 .lt (.var 4) (.bif .len (.cons (.var 0) .nil)))) (.val (.op2 .ne (.op2 .idx (.var 0) (.var 4)) (.cst (.str [34])))))
def b2__quoted : Ss := (.cons (.ite (.not (.tru (.call 4 (.d (.op2 .idx (.var 0) (.var 4)) .nil)))) (.cons (.rs 2 (.var 2) (.var 3)) .nil) .nil) (.cons (.aug 4 .add (.cst (.int 1))) .nil))
def code__quoted : Ss := (.cons (.asg (.nm 4) (.op2 .add (.var 1) (.cst (.int 1)))) (.cons (.whl t1__quoted b2__quoted) (.cons (.ite (.or (.val (.op2 .eq (.var 4) (.bif .len (.cons (.var 0) .nil)))) (.val (.op2 .gt (.op2 .sub (.op2 .sub (.var 4) (.var 1)) (.cst (.int 1))) (.glb 2)))) (.cons (.rs 2 (.var 2) (.var 3)) .nil) .nil) (.cons (.ret (.slc (.var 0) (.so (.op2 .add (.var 1) (.cst (.int 1)))) (.so (.var 4)))) .nil))))
def fn__quoted : Fn := ⟨5, 4, [], code__quoted⟩
/-- 5 -/
abbrev i__quoted : Nat := 5
def t1_word_end : T := (.and (.val (.op2 .lt (.var 2) (.bif .len (.cons (.var 0) .nil)))) (.or (.val (.op2 .inn (.op2 .idx (.var 0) (.var 2)) (.glb 3))) (.or (.val (.op2 .inn (.op2 .idx (.var 0) (.var 2)) (.glb 4))) (.val (.op2 .eq (.op2 .idx (.var 0) (.var 2)) (.cst (.str [95])))))))
def b2_word_end : Ss := (.cons (.aug 2 .add (.cst (.int 1))) .nil)
def code_word_end : Ss := (.cons (.asg (.nm 2) (.var 1)) (.cons (.whl t1_word_end b2_word_end) (.cons (.ret (.var 2)) .nil)))
def fn_word_end : Fn := ⟨3, 2, [], code_word_end⟩
/-- 6 -/
abbrev i_word_end : Nat := 6
def b1_is_number : Ss := (.cons (.ite (.val (.op2 .nin (.var 1) (.glb 4))) (.cons (.ret (.cst (.bl false))) .nil) .nil) .nil)
def code_is_number : Ss := (.cons (.ite (.or (.val (.op2 .eq (.var 0) (.cst (.str [])))) (.or (.val (.op2 .gt (.bif .len (.cons (.var 0) .nil)) (.cst (.int 13)))) (.and (.val (.op2 .eq (.op2 .idx (.var 0) (.cst (.int 0))) (.cst (.str [48])))) (.val (.op2 .gt (.bif .len (.cons (.var 0) .nil)) (.cst (.int 1))))))) (.cons (.ret (.cst (.bl false))) .nil) .nil) (.cons (.for_ (.nm 1) (.str (.var 0)) b1_is_number) (.cons (.ret (.op2 .le (.bif .int (.cons (.var 0) .nil)) (.glb 5))) .nil)))
def fn_is_number : Fn := ⟨2, 1, [], code_is_number⟩
/-- 7 -/
abbrev i_is_number : Nat := 7
def code__word_kind : Ss := (.cons (.ite (.val (.op2 .inn (.op2 .idx (.var 0) (.cst (.int 0))) (.glb 4))) (.cons (.ite (.not (.tru (.call 7 (.d (.var 0) .nil)))) (.cons (.rs 1 (.var 1) (.var 2)) .nil) .nil) (.cons (.ret (.cst (.str [110, 117, 109, 98, 101, 114]))) .nil)) .nil) (.cons (.ite (.val (.op2 .inn (.var 0) (.glb 6))) (.cons (.ret (.cst (.str [107, 101, 121, 119, 111, 114, 100]))) .nil) .nil) (.cons (.ret (.cst (.str [110, 97, 109, 101]))) .nil)))
def fn__word_kind : Fn := ⟨3, 3, [], code__word_kind⟩
/-- 8 -/
abbrev i__word_kind : Nat := 8
def code__token_at : Ss := (.cons (.asg (.nm 4) (.op2 .idx (.var 0) (.var 1))) (.cons (.ite (.or (.val (.op2 .inn (.var 4) (.glb 3))) (.val (.op2 .inn (.var 4) (.glb 4)))) (.cons (.asg (.nm 5) (.slc (.var 0) (.so (.var 1)) (.so (.call 6 (.d (.var 0) (.d (.var 1) .nil)))))) (.cons (.ret (.tup (.cons (.tup (.cons (.call 8 (.d (.var 5) (.d (.var 2) (.d (.var 3) .nil)))) (.cons (.var 5) (.cons (.var 2) (.cons (.var 3) .nil))))) (.cons (.op2 .add (.var 1) (.bif .len (.cons (.var 5) .nil))) .nil)))) .nil)) .nil) (.cons (.ite (.val (.op2 .eq (.var 4) (.cst (.str [34])))) (.cons (.asg (.nm 6) (.call 5 (.d (.var 0) (.d (.var 1) (.d (.var 2) (.d (.var 3) .nil)))))) (.cons (.ret (.tup (.cons (.tup (.cons (.cst (.str [116, 101, 120, 116])) (.cons (.var 6) (.cons (.var 2) (.cons (.var 3) .nil))))) (.cons (.op2 .add (.op2 .add (.var 1) (.bif .len (.cons (.var 6) .nil))) (.cst (.int 2))) .nil)))) .nil)) .nil) (.cons (.ite (.val (.op2 .inn (.slc (.var 0) (.so (.var 1)) (.so (.op2 .add (.var 1) (.cst (.int 2))))) (.glb 8))) (.cons (.ret (.tup (.cons (.tup (.cons (.cst (.str [115, 105, 103, 110])) (.cons (.slc (.var 0) (.so (.var 1)) (.so (.op2 .add (.var 1) (.cst (.int 2))))) (.cons (.var 2) (.cons (.var 3) .nil))))) (.cons (.op2 .add (.var 1) (.cst (.int 2))) .nil)))) .nil) .nil) (.cons (.ite (.val (.op2 .inn (.var 4) (.glb 7))) (.cons (.ret (.tup (.cons (.tup (.cons (.cst (.str [115, 105, 103, 110])) (.cons (.var 4) (.cons (.var 2) (.cons (.var 3) .nil))))) (.cons (.op2 .add (.var 1) (.cst (.int 1))) .nil)))) .nil) .nil) (.cons (.rs 0 (.var 2) (.var 3)) .nil))))))
def fn__token_at : Fn := ⟨7, 4, [], code__token_at⟩
/-- 9 -/
abbrev i__token_at : Nat := 9
def t1_tokens : T := (.val (.op2 .lt (.var 2) (.bif .len (.cons (.var 0) .nil))))
def b2_tokens : Ss := (.cons (.ite (.val (.op2 .eq (.op2 .idx (.var 0) (.var 2)) (.cst (.str [10])))) (.cons (.aug 2 .add (.cst (.int 1))) (.cons (.aug 3 .add (.cst (.int 1))) (.cons (.asg (.nm 4) (.var 2)) .nil))) (.cons (.ite (.val (.op2 .eq (.op2 .idx (.var 0) (.var 2)) (.cst (.str [32])))) (.cons (.aug 2 .add (.cst (.int 1))) .nil) (.cons (.ite (.val (.op2 .eq (.op2 .idx (.var 0) (.var 2)) (.cst (.str [35])))) (.cons (.asg (.nm 2) (.call 3 (.d (.var 0) (.d (.var 2) .nil)))) .nil) (.cons (.asg (.tp [5, 2]) (.call 9 (.d (.var 0) (.d (.var 2) (.d (.var 3) (.d (.op2 .add (.op2 .sub (.var 2) (.var 4)) (.cst (.int 1))) .nil)))))) (.cons (.app 1 (.var 5)) .nil))) .nil)) .nil)) .nil)
def code_tokens : Ss := (.cons (.own 1 (.lst .nil)) (.cons (.asg (.nm 2) (.cst (.int 0))) (.cons (.asg (.nm 3) (.cst (.int 1))) (.cons (.asg (.nm 4) (.cst (.int 0))) (.cons (.whl t1_tokens b2_tokens) (.cons (.app 1 (.tup (.cons (.cst (.str [101, 110, 100])) (.cons (.cst (.str [])) (.cons (.var 3) (.cons (.op2 .add (.op2 .sub (.var 2) (.var 4)) (.cst (.int 1))) .nil)))))) (.cons (.ret (.frz 1)) .nil)))))))
def fn_tokens : Fn := ⟨6, 1, [], code_tokens⟩
/-- 10 -/
abbrev i_tokens : Nat := 10
def code__law_told : Ss := (.cons (.try_ (.cons (.ret (.tup (.cons (.cst (.str [116, 111, 107, 101, 110, 115])) (.cons (.bif .len (.cons (.call 10 (.d (.var 0) .nil)) .nil)) .nil)))) .nil) (.cons 0 1 (.cons (.ret (.tup (.cons (.cst (.str [99, 104, 97, 114, 97, 99, 116, 101, 114])) (.cons (.xf 0 1) (.cons (.xf 1 1) (.cons (.xt 1 [1, 2, 5]) (.cons (.xi 1 3) .nil))))))) .nil) (.cons 1 1 (.cons (.ret (.tup (.cons (.cst (.str [110, 117, 109, 98, 101, 114])) (.cons (.xf 0 1) (.cons (.xf 1 1) (.cons (.xt 1 [2, 5]) (.cons (.xi 1 3) .nil))))))) .nil) (.cons 2 1 (.cons (.ret (.tup (.cons (.cst (.str [113, 117, 111, 116, 101])) (.cons (.xf 0 1) (.cons (.xf 1 1) (.cons (.xi 1 5) (.cons (.and (.xi 1 3) (.xi 1 4)) .nil))))))) .nil) .nil)))) .nil)
def fn__law_told : Fn := ⟨2, 1, [], code__law_told⟩
/-- 11 -/
abbrev i__law_told : Nat := 11
def code__law_bad : Ss := (.cons (.asg (.nm 1) (.call 2 (.o 0 (.d (.cst (.int 3)) .nil)))) (.cons (.ite (.val (.op2 .eq (.var 1) (.cst (.int 0)))) (.cons (.asg (.nm 2) (.lst (.cons (.cst (.str [95])) (.cons (.cst (.str [39])) (.cons (.cst (.str [36])) (.cons (.cst (.str [94])) (.cons (.cst (.str [126])) (.cons (.cst (.str [124])) (.cons (.cst (.str [38])) (.cons (.cst (.str [123])) (.cons (.cst (.str [125])) (.cons (.cst (.str [95, 97])) (.cons (.cst (.str [9])) (.cons (.cst (.str [9, 97])) (.cons (.cst (.str [64, 120])) (.cons (.cst (.str [58])) (.cons (.cst (.str [33])) (.cons (.cst (.str [62])) (.cons (.cst (.str [63])) (.cons (.cst (.str [47])) (.cons (.cst (.str [96])) .nil))))))))))))))))))))) (.cons (.asg (.nm 2) (.op2 .add (.var 2) (.lst (.cons (.cst (.str [92])) (.cons (.cst (.str [92, 97])) .nil))))) (.cons (.ret (.tup (.cons (.cst (.str [99, 104, 97, 114, 97, 99, 116, 101, 114])) (.cons (.op2 .idx (.var 2) (.call 2 (.o 0 (.d (.bif .len (.cons (.var 2) .nil)) .nil)))) .nil)))) .nil))) .nil) (.cons (.ite (.val (.op2 .eq (.var 1) (.cst (.int 1)))) (.cons (.asg (.nm 3) (.lst (.cons (.cst (.str [48, 49])) (.cons (.cst (.str [48, 48])) (.cons (.cst (.str [49, 97])) (.cons (.cst (.str [50, 95])) (.cons (.cst (.str [51, 95, 52])) (.cons (.cst (.str [49, 48, 48, 48, 48, 48, 48, 48, 48, 48, 48, 48, 49])) (.cons (.cst (.str [57, 57, 57, 57, 57, 57, 57, 57, 57, 57, 57, 57, 57, 57, 57, 57, 57, 57, 57, 57])) (.cons (.cst (.str [48, 120])) (.cons (.cst (.str [55, 65])) (.cons (.cst (.str [49, 48, 110, 111, 116])) .nil)))))))))))) (.cons (.ret (.tup (.cons (.cst (.str [110, 117, 109, 98, 101, 114])) (.cons (.op2 .idx (.var 3) (.call 2 (.o 0 (.d (.cst (.int 10)) .nil)))) .nil)))) .nil)) .nil) (.cons (.asg (.nm 4) (.lst (.cons (.cst (.str [34])) (.cons (.cst (.str [34, 97, 98, 99])) (.cons (.cst (.str [34, 97, 10, 98, 34])) (.cons (.op2 .add (.op2 .add (.cst (.str [34])) (.op2 .mul (.cst (.str [97])) (.cst (.int 41)))) (.cst (.str [34]))) (.cons (.cst (.str [34, 120, 9, 34])) (.cons (.cst (.str [34, 9, 121, 34])) (.cons (.cst (.str [34, 10, 34])) .nil))))))))) (.cons (.asg (.nm 4) (.op2 .add (.var 4) (.lst (.cons (.cst (.str [34, 120, 92, 34])) (.cons (.cst (.str [34, 92, 34])) .nil))))) (.cons (.ret (.tup (.cons (.cst (.str [113, 117, 111, 116, 101])) (.cons (.op2 .idx (.var 4) (.call 2 (.o 0 (.d (.bif .len (.cons (.var 4) .nil)) .nil)))) .nil)))) .nil))))))
def fn__law_bad : Fn := ⟨5, 1, [0], code__law_bad⟩
/-- 12 -/
abbrev i__law_bad : Nat := 12
def code__law_between : Ss := (.cons (.ret (.op2 .idx (.lst (.cons (.cst (.str [32])) (.cons (.cst (.str [10])) (.cons (.cst (.str [32, 32])) (.cons (.cst (.str [10, 32, 35, 32, 95, 32, 48, 49, 32, 34, 32, 33, 10])) (.cons (.cst (.str [32, 35, 10, 32, 32])) .nil)))))) (.call 2 (.o 0 (.d (.cst (.int 5)) .nil))))) .nil)
def fn__law_between : Fn := ⟨1, 1, [0], code__law_between⟩
/-- 13 -/
abbrev i__law_between : Nat := 13
def code__law_good : Ss := (.cons (.asg (.nm 1) (.lst (.cons (.cst (.str [97])) (.cons (.cst (.str [103, 111, 95])) (.cons (.cst (.str [34, 120, 32, 121, 34])) (.cons (.cst (.str [49, 48])) (.cons (.cst (.str [119, 97, 116, 99, 104])) (.cons (.cst (.str [110, 111, 116])) (.cons (.cst (.str [61])) (.cons (.cst (.str [60, 61])) (.cons (.cst (.str [46])) (.cons (.cst (.str [40])) (.cons (.cst (.str [93])) (.cons (.cst (.str [44])) (.cons (.cst (.str [120, 95, 49])) (.cons (.cst (.str [49, 48, 48, 48, 48, 48, 48, 48, 48, 48, 48, 48, 48])) (.cons (.cst (.str [48])) (.cons (.cst (.str [34, 34])) .nil)))))))))))))))))) (.cons (.ret (.op2 .idx (.var 1) (.call 2 (.o 0 (.d (.cst (.int 16)) .nil))))) .nil))
def fn__law_good : Fn := ⟨2, 1, [0], code__law_good⟩
/-- 14 -/
abbrev i__law_good : Nat := 14
def b1_law : Ss := (.cons (.ite (.val (.op2 .ne (.call 11 (.d (.op2 .add (.op2 .add (.var 12) (.var 11)) (.cst (.str [98]))) .nil)) (.tup (.cons (.cst (.str [99, 104, 97, 114, 97, 99, 116, 101, 114])) (.cons (.cst (.int 1)) (.cons (.op2 .add (.bif .len (.cons (.var 12) .nil)) (.cst (.int 1))) (.cons (.cst (.bl false)) (.cons (.cst (.bl true)) .nil)))))))) (.cons (.ret (.cst (.bl false))) .nil) .nil) .nil)
def b2_law : Ss := (.cons (.for_ (.nm 12) (.lst (.lst (.cons (.cst (.str [97, 49])) (.cons (.cst (.str [55])) (.cons (.cst (.str [60])) (.cons (.cst (.str [119, 97, 116, 99, 104])) .nil)))))) b1_law) (.cons (.ite (.val (.op2 .ne (.call 11 (.d (.op2 .add (.op2 .add (.cst (.str [97, 32, 35, 32, 49])) (.var 11)) (.cst (.str [10, 32, 98]))) .nil)) (.tup (.cons (.cst (.str [116, 111, 107, 101, 110, 115])) (.cons (.cst (.int 3)) .nil))))) (.cons (.ret (.cst (.bl false))) .nil) .nil) .nil))
def b3_law : Ss := (.cons (.asg (.nm 10) (.op2 .add (.op2 .add (.var 10) (.op2 .idx (.lst (.cons (.cst (.str [32])) (.cons (.cst (.str [10])) .nil))) (.call 2 (.o 1 (.d (.cst (.int 2)) .nil))))) (.op2 .idx (.lst (.cons (.call 14 (.o 1 .nil)) (.cons (.cst (.str [36])) (.cons (.cst (.str [48, 50])) (.cons (.cst (.str [95])) .nil))))) (.call 2 (.o 1 (.d (.cst (.int 4)) .nil)))))) .nil)
def b4_law : Ss := (.cons (.asg (.tp [6, 7]) (.call 12 (.o 1 .nil))) (.cons (.asg (.nm 8) (.op2 .add (.mth .count (.var 2) (.cons (.cst (.str [10])) .nil)) (.cst (.int 1)))) (.cons (.asg (.nm 9) (.op2 .sub (.bif .len (.cons (.var 2) .nil)) (.mth .rfind (.var 2) (.cons (.cst (.str [10])) .nil)))) (.cons (.asg (.nm 10) (.cst (.str []))) (.cons (.ite (.val (.op2 .inn (.var 7) (.tup (.cons (.cst (.str [34])) (.cons (.cst (.str [34, 97, 98, 99])) .nil))))) (.cons (.asg (.nm 10) (.cst (.str [10]))) .nil) (.cons (.for_ (.nm 4) (.r1 (.call 2 (.o 1 (.d (.cst (.int 4)) .nil)))) b3_law) .nil)) (.cons (.ite (.val (.op2 .ne (.call 11 (.d (.op2 .add (.op2 .add (.var 2) (.var 7)) (.var 10)) .nil)) (.tup (.cons (.var 6) (.cons (.var 8) (.cons (.var 9) (.cons (.cst (.bl false)) (.cons (.cst (.bl true)) .nil)))))))) (.cons (.ret (.cst (.bl false))) .nil) .nil) .nil))))))
def b5_law : Ss := (.cons (.asg (.nm 2) (.op2 .add (.op2 .add (.var 2) (.call 14 (.o 1 .nil))) (.call 13 (.o 1 .nil)))) .nil)
def code_law : Ss := (.cons (.own 1 (.call 1 (.d (.var 0) (.d (.cst (.int 200)) .nil)))) (.cons (.asg (.nm 2) (.cst (.str []))) (.cons (.asg (.nm 3) (.call 2 (.o 1 (.d (.cst (.int 31)) .nil)))) (.cons (.for_ (.nm 4) (.r1 (.var 3)) b5_law) (.cons (.ite (.val (.op2 .ne (.call 11 (.d (.var 2) .nil)) (.tup (.cons (.cst (.str [116, 111, 107, 101, 110, 115])) (.cons (.op2 .add (.var 3) (.cst (.int 1))) .nil))))) (.cons (.ret (.cst (.bl false))) .nil) .nil) (.cons (.for_ (.nm 5) (.r1 (.cst (.int 12))) b4_law) (.cons (.for_ (.nm 11) (.lst (.lst (.cons (.cst (.str [92])) (.cons (.cst (.str [63])) (.cons (.cst (.str [47])) (.cons (.cst (.str [96])) (.cons (.cst (.str [36])) (.cons (.cst (.str [9])) .nil)))))))) b2_law) (.cons (.ret (.cst (.bl true))) .nil))))))))
def fn_law : Fn := ⟨13, 1, [], code_law⟩
/-- 15 -/
abbrev i_law : Nat := 15
def md : Modu where
  fns := ["_law_mix", "_law_stream", "_law_pick", "_comment_end", "is_sign", "_quoted", "word_end", "is_number", "_word_kind", "_token_at", "tokens", "_law_told", "_law_bad", "_law_between", "_law_good", "law"]
  code := [fn__law_mix, fn__law_stream, fn__law_pick, fn__comment_end, fn_is_sign, fn__quoted, fn_word_end, fn_is_number, fn__word_kind, fn__token_at, fn_tokens, fn__law_told, fn__law_bad, fn__law_between, fn__law_good, fn_law]
  cons := ["PERCENT", "BACKSLASH", "LONGEST", "LETTERS", "DIGITS", "MOST", "KEYWORDS", "SHORT_SIGNS", "LONG_SIGNS"]
  vals := [(.int 37), (.int 92), (.int 40), (.str [97, 98, 99, 100, 101, 102, 103, 104, 105, 106, 107, 108, 109, 110, 111, 112, 113, 114, 115, 116, 117, 118, 119, 120, 121, 122, 65, 66, 67, 68, 69, 70, 71, 72, 73, 74, 75, 76, 77, 78, 79, 80, 81, 82, 83, 84, 85, 86, 87, 88, 89, 90]), (.str [48, 49, 50, 51, 52, 53, 54, 55, 56, 57]), (.int 1000000000000), (.tup [(.str [101, 118, 101, 110, 116]), (.str [100, 101, 102]), (.str [119, 97, 116, 99, 104]), (.str [110, 117, 109, 98, 101, 114]), (.str [119, 111, 114, 100]), (.str [105, 109, 112, 108, 105, 101, 115]), (.str [111, 114]), (.str [97, 110, 100]), (.str [115, 105, 110, 99, 101]), (.str [117, 110, 116, 105, 108]), (.str [110, 111, 116]), (.str [115, 111, 109, 101]), (.str [97, 108, 108]), (.str [98, 101, 102, 111, 114, 101]), (.str [110, 101, 120, 116]), (.str [111, 110, 99, 101]), (.str [104, 101, 108, 100]), (.str [115, 111, 111, 110]), (.str [107, 101, 112, 116]), (.str [99, 111, 117, 110, 116]), (.str [115, 117, 109]), (.str [108, 101, 97, 115, 116]), (.str [109, 111, 115, 116]), (.str [111, 102]), (.str [116, 114, 117, 101]), (.str [102, 97, 108, 115, 101])]), (.str [40, 41, 91, 93, 44, 59, 46, 42, 61, 60, 43, 45]), (.tup [(.str [60, 61])])]
  blts := ["int", "len", "range", "min", "ord", "isinstance"]
  clss := ["BadCharacter", "BadNumber", "BadQuote", "TextError", "WatchError", "Unexpected"]
  subs := [[true, false, false, true, true, false], [false, true, false, true, true, false], [false, false, true, true, true, false]]
  mks := ["BadCharacter", "BadNumber", "BadQuote"]
  f1 := "row"
  f2 := "column"
end K01
def K01.depth : Nat := 8
/-! The derivations of law_k01_rules_with_a_bad_place (printed by gen.py). -/
namespace K01
open PySem PySem.Spec PyProof.Rows L2 Mp
def topS (i : Nat) : Stmt := PySem.Challenge.pw_sheetwatch_k01_rules_with_a_bad_place.main.body.getD i (.Pass ⟨0, 0, 0, 0⟩)
abbrev s__law_mix : Stmt := topS 26
theorem sc__law_mix : FnScope ["cell", "k", "low"] ["cell", "k"] (defScope s__law_mix) := ⟨rfl, rfl, rfl, by decide +kernel, rfl, by decide +kernel, by decide +kernel⟩
abbrev s__law_stream : Stmt := topS 27
theorem sc__law_stream : FnScope ["script", "most", "row", "k", "rest", "j"] ["script", "most"] (defScope s__law_stream) := ⟨rfl, rfl, rfl, by decide +kernel, rfl, by decide +kernel, by decide +kernel⟩
abbrev s__law_pick : Stmt := topS 28
theorem sc__law_pick : FnScope ["draws", "many", "at", "number"] ["draws", "many"] (defScope s__law_pick) := ⟨rfl, rfl, rfl, by decide +kernel, rfl, by decide +kernel, by decide +kernel⟩
abbrev s__comment_end : Stmt := topS 23
theorem sc__comment_end : FnScope ["text", "start", "end"] ["text", "start"] (defScope s__comment_end) := ⟨rfl, rfl, rfl, by decide +kernel, rfl, by decide +kernel, by decide +kernel⟩
abbrev s_is_sign : Stmt := topS 17
theorem sc_is_sign : FnScope ["char"] ["char"] (defScope s_is_sign) := ⟨rfl, rfl, rfl, by decide +kernel, rfl, by decide +kernel, by decide +kernel⟩
abbrev s__quoted : Stmt := topS 21
theorem sc__quoted : FnScope ["text", "start", "row", "column", "end"] ["text", "start", "row", "column"] (defScope s__quoted) := ⟨rfl, rfl, rfl, by decide +kernel, rfl, by decide +kernel, by decide +kernel⟩
abbrev s_word_end : Stmt := topS 18
theorem sc_word_end : FnScope ["text", "start", "end"] ["text", "start"] (defScope s_word_end) := ⟨rfl, rfl, rfl, by decide +kernel, rfl, by decide +kernel, by decide +kernel⟩
abbrev s_is_number : Stmt := topS 19
theorem sc_is_number : FnScope ["word", "char"] ["word"] (defScope s_is_number) := ⟨rfl, rfl, rfl, by decide +kernel, rfl, by decide +kernel, by decide +kernel⟩
abbrev s__word_kind : Stmt := topS 20
theorem sc__word_kind : FnScope ["word", "row", "column"] ["word", "row", "column"] (defScope s__word_kind) := ⟨rfl, rfl, rfl, by decide +kernel, rfl, by decide +kernel, by decide +kernel⟩
abbrev s__token_at : Stmt := topS 22
theorem sc__token_at : FnScope ["text", "start", "row", "column", "char", "word", "quoted"] ["text", "start", "row", "column"] (defScope s__token_at) := ⟨rfl, rfl, rfl, by decide +kernel, rfl, by decide +kernel, by decide +kernel⟩
abbrev s_tokens : Stmt := topS 24
theorem sc_tokens : FnScope ["text", "found", "at", "row", "begin", "token"] ["text"] (defScope s_tokens) := ⟨rfl, rfl, rfl, by decide +kernel, rfl, by decide +kernel, by decide +kernel⟩
abbrev s__law_told : Stmt := topS 32
theorem sc__law_told : FnScope ["text", "e"] ["text"] (defScope s__law_told) := ⟨rfl, rfl, rfl, by decide +kernel, rfl, by decide +kernel, by decide +kernel⟩
abbrev s__law_bad : Stmt := topS 30
theorem sc__law_bad : FnScope ["draws", "pick", "signs", "words", "quotes"] ["draws"] (defScope s__law_bad) := ⟨rfl, rfl, rfl, by decide +kernel, rfl, by decide +kernel, by decide +kernel⟩
abbrev s__law_between : Stmt := topS 31
theorem sc__law_between : FnScope ["draws"] ["draws"] (defScope s__law_between) := ⟨rfl, rfl, rfl, by decide +kernel, rfl, by decide +kernel, by decide +kernel⟩
abbrev s__law_good : Stmt := topS 29
theorem sc__law_good : FnScope ["draws", "words"] ["draws"] (defScope s__law_good) := ⟨rfl, rfl, rfl, by decide +kernel, rfl, by decide +kernel, by decide +kernel⟩
abbrev s_law : Stmt := topS 33
theorem sc_law : FnScope ["script", "draws", "text", "many", "k", "turn", "kind", "word", "row", "column", "rest", "sign", "head"] ["script"] (defScope s_law) := ⟨rfl, rfl, rfl, by decide +kernel, rfl, by decide +kernel, by decide +kernel⟩
section
variable {P : Program} {w : World} {K : PySem.W.Frag} {mg : Str → Option Value} {base : Heap}
theorem der__law_mix (f : Addr) (k : Nat) (cdv : Value) (A : Around) (outer : List Env) (s : Shared) (H : Hp) (E : XK) (c : Cxt (cxOf (L2.CX P w) P w K mg base ["cell", "k", "low"] "_law_mix" (defScope s__law_mix) f cdv A outer s H E) ((md.pg K).rc k) (fun cls d _ H => E cls d H) k)
    (m : Md (cxOf (L2.CX P w) P w K mg base ["cell", "k", "low"] "_law_mix" (defScope s__law_mix) f cdv A outer s H E) ((md.pg K).rc k) k md.fns md.cons md.blts) (me : Me (cxOf (L2.CX P w) P w K mg base ["cell", "k", "low"] "_law_mix" (defScope s__law_mix) f cdv A outer s H E) ((md.pg K).rc k) md.clss) (mr : Mr (cxOf (L2.CX P w) P w K mg base ["cell", "k", "low"] "_law_mix" (defScope s__law_mix) f cdv A outer s H E) ((md.pg K).rc k) md.mks) : PSs (cxOf (L2.CX P w) P w K mg base ["cell", "k", "low"] "_law_mix" (defScope s__law_mix) f cdv A outer s H E) (defBody s__law_mix) (code__law_mix.rd ((md.pg K).rc k) (fun cls d _ H => E cls d H)) :=
  (ss_cons (z_asg c 2 (d_mod c (d_bifT m (b_int c) 0 (s_cons (d_add c (d_add c (d_mul c (d_var 0) d_int) (d_mul c (d_var 1) d_int)) d_int) s_nil)) d_int)) (ss_cons (z_ret (d_mod c (d_mod c (d_bifT m (b_int c) 0 (s_cons (d_add c (d_add c (d_add c (d_mul c (d_var 2) (d_var 2)) (d_mul c (d_var 0) d_int)) (d_mul c (d_var 1) d_int)) d_int) s_nil)) d_int) d_int)) ss_nil))
theorem der__law_stream (f : Addr) (k : Nat) (cdv : Value) (A : Around) (outer : List Env) (s : Shared) (H : Hp) (E : XK) (c : Cxt (cxOf (L2.CX P w) P w K mg base ["script", "most", "row", "k", "rest", "j"] "_law_stream" (defScope s__law_stream) f cdv A outer s H E) ((md.pg K).rc k) (fun cls d _ H => E cls d H) k)
    (m : Md (cxOf (L2.CX P w) P w K mg base ["script", "most", "row", "k", "rest", "j"] "_law_stream" (defScope s__law_stream) f cdv A outer s H E) ((md.pg K).rc k) k md.fns md.cons md.blts) (me : Me (cxOf (L2.CX P w) P w K mg base ["script", "most", "row", "k", "rest", "j"] "_law_stream" (defScope s__law_stream) f cdv A outer s H E) ((md.pg K).rc k) md.clss) (mr : Mr (cxOf (L2.CX P w) P w K mg base ["script", "most", "row", "k", "rest", "j"] "_law_stream" (defScope s__law_stream) f cdv A outer s H E) ((md.pg K).rc k) md.mks) : PSs (cxOf (L2.CX P w) P w K mg base ["script", "most", "row", "k", "rest", "j"] "_law_stream" (defScope s__law_stream) f cdv A outer s H E) (defBody s__law_stream) (code__law_stream.rd ((md.pg K).rc k) (fun cls d _ H => E cls d H)) :=
  (ss_cons (z_own c 2 (f_lst s_nil)) (ss_cons (z_for c (i_r1 m 2 (d_bif m (b_min c) 3 (s_cons (d_bif m (b_len c) 1 (s_cons (d_var 0) s_nil)) (s_cons d_int s_nil)))) (g_nm c 3) (ss_cons (z_asg c 4 (d_ix c (d_var 0) (d_var 3))) (ss_cons (z_if (t_cmp (k_ge c) (d_var 4) (d_pow c d_int d_int) (nomark _)) (ss_cons (z_for c (i_r1 m 2 d_int) (g_nm c 5) (ss_cons (z_if (PW.pt (w_and (t_cmp (k_gt c) (d_var 4) d_int (nomark _)) (w_and1 (t_cmp (k_lt c) (d_bifo m (b_len c) 1 2 (d_var 2) s_nil) (d_var 1) (nomark _))))) (ss_cons (z_app c 2 (d_var 2) (d_mod c (d_bifT m (b_int c) 0 (s_cons (d_var 4) s_nil)) d_int)) (ss_cons (z_asg c 4 (d_fdiv c (d_var 4) d_int)) ss_nil)) ss_nil) ss_nil)) ss_nil) (ss_cons (z_for c (i_r1 m 2 d_int) (g_nm c 5) (ss_cons (z_if (t_cmp (k_lt c) (d_bifo m (b_len c) 1 2 (d_var 2) s_nil) (d_var 1) (nomark _)) (ss_cons (z_app c 2 (d_var 2) (d_call c m 0 (a_d (d_var 4) (a_d (d_add c (d_mul c d_int (d_var 5)) (d_var 3)) a_nil)))) ss_nil) ss_nil) ss_nil)) ss_nil)) ss_nil))) (ss_cons (z_retf (f_dct (p_cons d_str (d_frz 2) (p_cons d_str d_int (p_cons d_str (d_bifo m (b_len c) 1 2 (d_var 2) s_nil) p_nil))))) ss_nil)))
theorem der__law_pick (f : Addr) (k : Nat) (cdv : Value) (A : Around) (outer : List Env) (s : Shared) (H : Hp) (E : XK) (c : Cxt (cxOf (L2.CX P w) P w K mg base ["draws", "many", "at", "number"] "_law_pick" (defScope s__law_pick) f cdv A outer s H E) ((md.pg K).rc k) (fun cls d _ H => E cls d H) k)
    (m : Md (cxOf (L2.CX P w) P w K mg base ["draws", "many", "at", "number"] "_law_pick" (defScope s__law_pick) f cdv A outer s H E) ((md.pg K).rc k) k md.fns md.cons md.blts) (me : Me (cxOf (L2.CX P w) P w K mg base ["draws", "many", "at", "number"] "_law_pick" (defScope s__law_pick) f cdv A outer s H E) ((md.pg K).rc k) md.clss) (mr : Mr (cxOf (L2.CX P w) P w K mg base ["draws", "many", "at", "number"] "_law_pick" (defScope s__law_pick) f cdv A outer s H E) ((md.pg K).rc k) md.mks) : PSs (cxOf (L2.CX P w) P w K mg base ["draws", "many", "at", "number"] "_law_pick" (defScope s__law_pick) f cdv A outer s H E) (defBody s__law_pick) (code__law_pick.rd ((md.pg K).rc k) (fun cls d _ H => E cls d H)) :=
  (ss_cons (z_asg c 2 (d_dix c 0 (d_var 0) d_str)) (ss_cons (z_dset c 0 (d_var 0) d_str (d_add c (d_var 2) d_int)) (ss_cons (z_asg c 3 (d_call c m 0 (a_d (d_dix c 0 (d_var 0) d_str) (a_d (d_var 2) a_nil)))) (ss_cons (z_if (t_cmp (k_lt c) (d_var 2) (d_bif m (b_len c) 1 (s_cons (d_dix c 0 (d_var 0) d_str) s_nil)) (nomark _)) (ss_cons (z_asg c 3 (d_ix c (d_dix c 0 (d_var 0) d_str) (d_var 2))) ss_nil) ss_nil) (ss_cons (z_ret (d_mod c (d_bifT m (b_int c) 0 (s_cons (d_var 3) s_nil)) (d_var 1))) ss_nil)))))
theorem der__comment_end (f : Addr) (k : Nat) (cdv : Value) (A : Around) (outer : List Env) (s : Shared) (H : Hp) (E : XK) (c : Cxt (cxOf (L2.CX P w) P w K mg base ["text", "start", "end"] "_comment_end" (defScope s__comment_end) f cdv A outer s H E) ((md.pg K).rc k) (fun cls d _ H => E cls d H) k)
    (m : Md (cxOf (L2.CX P w) P w K mg base ["text", "start", "end"] "_comment_end" (defScope s__comment_end) f cdv A outer s H E) ((md.pg K).rc k) k md.fns md.cons md.blts) (me : Me (cxOf (L2.CX P w) P w K mg base ["text", "start", "end"] "_comment_end" (defScope s__comment_end) f cdv A outer s H E) ((md.pg K).rc k) md.clss) (mr : Mr (cxOf (L2.CX P w) P w K mg base ["text", "start", "end"] "_comment_end" (defScope s__comment_end) f cdv A outer s H E) ((md.pg K).rc k) md.mks) : PSs (cxOf (L2.CX P w) P w K mg base ["text", "start", "end"] "_comment_end" (defScope s__comment_end) f cdv A outer s H E) (defBody s__comment_end) (code__comment_end.rd ((md.pg K).rc k) (fun cls d _ H => E cls d H)) :=
  (ss_cons (z_asg c 2 (d_mth c (m_find3 c) (d_var 0) (s_cons d_str (s_cons (d_var 1) s_nil)))) (ss_cons (z_if (t_cmp (k_lt c) (d_var 2) d_int (nomark _)) (ss_cons (z_ret (d_bif m (b_len c) 1 (s_cons (d_var 0) s_nil))) ss_nil) ss_nil) (ss_cons (z_ret (d_var 2)) ss_nil)))
theorem der_is_sign (f : Addr) (k : Nat) (cdv : Value) (A : Around) (outer : List Env) (s : Shared) (H : Hp) (E : XK) (c : Cxt (cxOf (L2.CX P w) P w K mg base ["char"] "is_sign" (defScope s_is_sign) f cdv A outer s H E) ((md.pg K).rc k) (fun cls d _ H => E cls d H) k)
    (m : Md (cxOf (L2.CX P w) P w K mg base ["char"] "is_sign" (defScope s_is_sign) f cdv A outer s H E) ((md.pg K).rc k) k md.fns md.cons md.blts) (me : Me (cxOf (L2.CX P w) P w K mg base ["char"] "is_sign" (defScope s_is_sign) f cdv A outer s H E) ((md.pg K).rc k) md.clss) (mr : Mr (cxOf (L2.CX P w) P w K mg base ["char"] "is_sign" (defScope s_is_sign) f cdv A outer s H E) ((md.pg K).rc k) md.mks) : PSs (cxOf (L2.CX P w) P w K mg base ["char"] "is_sign" (defScope s_is_sign) f cdv A outer s H E) (defBody s_is_sign) (code_is_sign.rd ((md.pg K).rc k) (fun cls d _ H => E cls d H)) :=
  (ss_cons (z_ret (d_and c (d_chain (k_le c) (k_le c) d_str (d_var 0) d_str) (d_and c (d_cmp (k_ne c) (d_bif m (b_ord c) 4 (s_cons (d_var 0) s_nil)) (d_glb m 0) (nomark _)) (d_one (d_cmp (k_ne c) (d_bif m (b_ord c) 4 (s_cons (d_var 0) s_nil)) (d_glb m 1) (nomark _)))))) ss_nil)
theorem der__quoted (f : Addr) (k : Nat) (cdv : Value) (A : Around) (outer : List Env) (s : Shared) (H : Hp) (E : XK) (c : Cxt (cxOf (L2.CX P w) P w K mg base ["text", "start", "row", "column", "end"] "_quoted" (defScope s__quoted) f cdv A outer s H E) ((md.pg K).rc k) (fun cls d _ H => E cls d H) k)
    (m : Md (cxOf (L2.CX P w) P w K mg base ["text", "start", "row", "column", "end"] "_quoted" (defScope s__quoted) f cdv A outer s H E) ((md.pg K).rc k) k md.fns md.cons md.blts) (me : Me (cxOf (L2.CX P w) P w K mg base ["text", "start", "row", "column", "end"] "_quoted" (defScope s__quoted) f cdv A outer s H E) ((md.pg K).rc k) md.clss) (mr : Mr (cxOf (L2.CX P w) P w K mg base ["text", "start", "row", "column", "end"] "_quoted" (defScope s__quoted) f cdv A outer s H E) ((md.pg K).rc k) md.mks) : PSs (cxOf (L2.CX P w) P w K mg base ["text", "start", "row", "column", "end"] "_quoted" (defScope s__quoted) f cdv A outer s H E) (defBody s__quoted) (code__quoted.rd ((md.pg K).rc k) (fun cls d _ H => E cls d H)) :=
  (ss_cons (z_asg c 4 (d_add c (d_var 1) d_int)) (ss_cons (z_whl c (PW.pt (w_and (t_cmp (k_lt c) (d_var 4) (d_bif m (b_len c) 1 (s_cons (d_var 0) s_nil)) (nomark _)) (w_and1 (t_cmp (k_ne c) (d_ix c (d_var 0) (d_var 4)) d_str (nomark _))))) (ss_cons (z_if (t_not (t_tru c (d_call c m 4 (a_d (d_ix c (d_var 0) (d_var 4)) a_nil)))) (ss_cons (z_rs c me mr 2 (d_var 2) (d_var 3)) ss_nil) ss_nil) (ss_cons (z_add c 4 d_int) ss_nil))) (ss_cons (z_if (PW.pt (w_or (t_cmp (k_eq c) (d_var 4) (d_bif m (b_len c) 1 (s_cons (d_var 0) s_nil)) (nomark _)) (w_or1 (t_cmp (k_gt c) (d_sub c (d_sub c (d_var 4) (d_var 1)) d_int) (d_glb m 2) (nomark _))))) (ss_cons (z_rs c me mr 2 (d_var 2) (d_var 3)) ss_nil) ss_nil) (ss_cons (z_ret (d_slc c (d_var 0) (o_so (d_add c (d_var 1) d_int)) (o_so (d_var 4)))) ss_nil))))
theorem der_word_end (f : Addr) (k : Nat) (cdv : Value) (A : Around) (outer : List Env) (s : Shared) (H : Hp) (E : XK) (c : Cxt (cxOf (L2.CX P w) P w K mg base ["text", "start", "end"] "word_end" (defScope s_word_end) f cdv A outer s H E) ((md.pg K).rc k) (fun cls d _ H => E cls d H) k)
    (m : Md (cxOf (L2.CX P w) P w K mg base ["text", "start", "end"] "word_end" (defScope s_word_end) f cdv A outer s H E) ((md.pg K).rc k) k md.fns md.cons md.blts) (me : Me (cxOf (L2.CX P w) P w K mg base ["text", "start", "end"] "word_end" (defScope s_word_end) f cdv A outer s H E) ((md.pg K).rc k) md.clss) (mr : Mr (cxOf (L2.CX P w) P w K mg base ["text", "start", "end"] "word_end" (defScope s_word_end) f cdv A outer s H E) ((md.pg K).rc k) md.mks) : PSs (cxOf (L2.CX P w) P w K mg base ["text", "start", "end"] "word_end" (defScope s_word_end) f cdv A outer s H E) (defBody s_word_end) (code_word_end.rd ((md.pg K).rc k) (fun cls d _ H => E cls d H)) :=
  (ss_cons (z_asg c 2 (d_var 1)) (ss_cons (z_whl c (PW.pt (w_and (t_cmp (k_lt c) (d_var 2) (d_bif m (b_len c) 1 (s_cons (d_var 0) s_nil)) (nomark _)) (w_and1 (PW.pt (w_or (t_cmp (k_in c) (d_ix c (d_var 0) (d_var 2)) (d_glb m 3)) (w_or (t_cmp (k_in c) (d_ix c (d_var 0) (d_var 2)) (d_glb m 4)) (w_or1 (t_cmp (k_eq c) (d_ix c (d_var 0) (d_var 2)) d_str (nomark _))))))))) (ss_cons (z_add c 2 d_int) ss_nil)) (ss_cons (z_ret (d_var 2)) ss_nil)))
theorem der_is_number (f : Addr) (k : Nat) (cdv : Value) (A : Around) (outer : List Env) (s : Shared) (H : Hp) (E : XK) (c : Cxt (cxOf (L2.CX P w) P w K mg base ["word", "char"] "is_number" (defScope s_is_number) f cdv A outer s H E) ((md.pg K).rc k) (fun cls d _ H => E cls d H) k)
    (m : Md (cxOf (L2.CX P w) P w K mg base ["word", "char"] "is_number" (defScope s_is_number) f cdv A outer s H E) ((md.pg K).rc k) k md.fns md.cons md.blts) (me : Me (cxOf (L2.CX P w) P w K mg base ["word", "char"] "is_number" (defScope s_is_number) f cdv A outer s H E) ((md.pg K).rc k) md.clss) (mr : Mr (cxOf (L2.CX P w) P w K mg base ["word", "char"] "is_number" (defScope s_is_number) f cdv A outer s H E) ((md.pg K).rc k) md.mks) : PSs (cxOf (L2.CX P w) P w K mg base ["word", "char"] "is_number" (defScope s_is_number) f cdv A outer s H E) (defBody s_is_number) (code_is_number.rd ((md.pg K).rc k) (fun cls d _ H => E cls d H)) :=
  (ss_cons (z_if (PW.pt (w_or (t_cmp (k_eq c) (d_var 0) d_str (nomark _)) (w_or (t_cmp (k_gt c) (d_bif m (b_len c) 1 (s_cons (d_var 0) s_nil)) d_int (nomark _)) (w_or1 (PW.pt (w_and (t_cmp (k_eq c) (d_ix c (d_var 0) d_int) d_str (nomark _)) (w_and1 (t_cmp (k_gt c) (d_bif m (b_len c) 1 (s_cons (d_var 0) s_nil)) d_int (nomark _))))))))) (ss_cons (z_ret d_bl) ss_nil) ss_nil) (ss_cons (z_for c (i_str (d_var 0)) (g_nm c 1) (ss_cons (z_if (t_cmp (k_nin c) (d_var 1) (d_glb m 4)) (ss_cons (z_ret d_bl) ss_nil) ss_nil) ss_nil)) (ss_cons (z_ret (d_cmp (k_le c) (d_bifT m (b_int c) 0 (s_cons (d_var 0) s_nil)) (d_glb m 5) (nomark _))) ss_nil)))
theorem der__word_kind (f : Addr) (k : Nat) (cdv : Value) (A : Around) (outer : List Env) (s : Shared) (H : Hp) (E : XK) (c : Cxt (cxOf (L2.CX P w) P w K mg base ["word", "row", "column"] "_word_kind" (defScope s__word_kind) f cdv A outer s H E) ((md.pg K).rc k) (fun cls d _ H => E cls d H) k)
    (m : Md (cxOf (L2.CX P w) P w K mg base ["word", "row", "column"] "_word_kind" (defScope s__word_kind) f cdv A outer s H E) ((md.pg K).rc k) k md.fns md.cons md.blts) (me : Me (cxOf (L2.CX P w) P w K mg base ["word", "row", "column"] "_word_kind" (defScope s__word_kind) f cdv A outer s H E) ((md.pg K).rc k) md.clss) (mr : Mr (cxOf (L2.CX P w) P w K mg base ["word", "row", "column"] "_word_kind" (defScope s__word_kind) f cdv A outer s H E) ((md.pg K).rc k) md.mks) : PSs (cxOf (L2.CX P w) P w K mg base ["word", "row", "column"] "_word_kind" (defScope s__word_kind) f cdv A outer s H E) (defBody s__word_kind) (code__word_kind.rd ((md.pg K).rc k) (fun cls d _ H => E cls d H)) :=
  (ss_cons (z_if (t_cmp (k_in c) (d_ix c (d_var 0) d_int) (d_glb m 4)) (ss_cons (z_if (t_not (t_tru c (d_call c m 7 (a_d (d_var 0) a_nil)))) (ss_cons (z_rs c me mr 1 (d_var 1) (d_var 2)) ss_nil) ss_nil) (ss_cons (z_ret d_str) ss_nil)) ss_nil) (ss_cons (z_if (t_cmp (k_in c) (d_var 0) (d_glb m 6)) (ss_cons (z_ret d_str) ss_nil) ss_nil) (ss_cons (z_ret d_str) ss_nil)))
theorem der__token_at (f : Addr) (k : Nat) (cdv : Value) (A : Around) (outer : List Env) (s : Shared) (H : Hp) (E : XK) (c : Cxt (cxOf (L2.CX P w) P w K mg base ["text", "start", "row", "column", "char", "word", "quoted"] "_token_at" (defScope s__token_at) f cdv A outer s H E) ((md.pg K).rc k) (fun cls d _ H => E cls d H) k)
    (m : Md (cxOf (L2.CX P w) P w K mg base ["text", "start", "row", "column", "char", "word", "quoted"] "_token_at" (defScope s__token_at) f cdv A outer s H E) ((md.pg K).rc k) k md.fns md.cons md.blts) (me : Me (cxOf (L2.CX P w) P w K mg base ["text", "start", "row", "column", "char", "word", "quoted"] "_token_at" (defScope s__token_at) f cdv A outer s H E) ((md.pg K).rc k) md.clss) (mr : Mr (cxOf (L2.CX P w) P w K mg base ["text", "start", "row", "column", "char", "word", "quoted"] "_token_at" (defScope s__token_at) f cdv A outer s H E) ((md.pg K).rc k) md.mks) : PSs (cxOf (L2.CX P w) P w K mg base ["text", "start", "row", "column", "char", "word", "quoted"] "_token_at" (defScope s__token_at) f cdv A outer s H E) (defBody s__token_at) (code__token_at.rd ((md.pg K).rc k) (fun cls d _ H => E cls d H)) :=
  (ss_cons (z_asg c 4 (d_ix c (d_var 0) (d_var 1))) (ss_cons (z_if (PW.pt (w_or (t_cmp (k_in c) (d_var 4) (d_glb m 3)) (w_or1 (t_cmp (k_in c) (d_var 4) (d_glb m 4))))) (ss_cons (z_asg c 5 (d_slc c (d_var 0) (o_so (d_var 1)) (o_so (d_call c m 6 (a_d (d_var 0) (a_d (d_var 1) a_nil)))))) (ss_cons (z_ret (d_tup (s_cons (d_tup (s_cons (d_call c m 8 (a_d (d_var 5) (a_d (d_var 2) (a_d (d_var 3) a_nil)))) (s_cons (d_var 5) (s_cons (d_var 2) (s_cons (d_var 3) s_nil))))) (s_cons (d_add c (d_var 1) (d_bif m (b_len c) 1 (s_cons (d_var 5) s_nil))) s_nil)))) ss_nil)) ss_nil) (ss_cons (z_if (t_cmp (k_eq c) (d_var 4) d_str (nomark _)) (ss_cons (z_asg c 6 (d_call c m 5 (a_d (d_var 0) (a_d (d_var 1) (a_d (d_var 2) (a_d (d_var 3) a_nil)))))) (ss_cons (z_ret (d_tup (s_cons (d_tup (s_cons d_str (s_cons (d_var 6) (s_cons (d_var 2) (s_cons (d_var 3) s_nil))))) (s_cons (d_add c (d_add c (d_var 1) (d_bif m (b_len c) 1 (s_cons (d_var 6) s_nil))) d_int) s_nil)))) ss_nil)) ss_nil) (ss_cons (z_if (t_cmp (k_in c) (d_slc c (d_var 0) (o_so (d_var 1)) (o_so (d_add c (d_var 1) d_int))) (d_glb m 8)) (ss_cons (z_ret (d_tup (s_cons (d_tup (s_cons d_str (s_cons (d_slc c (d_var 0) (o_so (d_var 1)) (o_so (d_add c (d_var 1) d_int))) (s_cons (d_var 2) (s_cons (d_var 3) s_nil))))) (s_cons (d_add c (d_var 1) d_int) s_nil)))) ss_nil) ss_nil) (ss_cons (z_if (t_cmp (k_in c) (d_var 4) (d_glb m 7)) (ss_cons (z_ret (d_tup (s_cons (d_tup (s_cons d_str (s_cons (d_var 4) (s_cons (d_var 2) (s_cons (d_var 3) s_nil))))) (s_cons (d_add c (d_var 1) d_int) s_nil)))) ss_nil) ss_nil) (ss_cons (z_rs c me mr 0 (d_var 2) (d_var 3)) ss_nil))))))
theorem der_tokens (f : Addr) (k : Nat) (cdv : Value) (A : Around) (outer : List Env) (s : Shared) (H : Hp) (E : XK) (c : Cxt (cxOf (L2.CX P w) P w K mg base ["text", "found", "at", "row", "begin", "token"] "tokens" (defScope s_tokens) f cdv A outer s H E) ((md.pg K).rc k) (fun cls d _ H => E cls d H) k)
    (m : Md (cxOf (L2.CX P w) P w K mg base ["text", "found", "at", "row", "begin", "token"] "tokens" (defScope s_tokens) f cdv A outer s H E) ((md.pg K).rc k) k md.fns md.cons md.blts) (me : Me (cxOf (L2.CX P w) P w K mg base ["text", "found", "at", "row", "begin", "token"] "tokens" (defScope s_tokens) f cdv A outer s H E) ((md.pg K).rc k) md.clss) (mr : Mr (cxOf (L2.CX P w) P w K mg base ["text", "found", "at", "row", "begin", "token"] "tokens" (defScope s_tokens) f cdv A outer s H E) ((md.pg K).rc k) md.mks) : PSs (cxOf (L2.CX P w) P w K mg base ["text", "found", "at", "row", "begin", "token"] "tokens" (defScope s_tokens) f cdv A outer s H E) (defBody s_tokens) (code_tokens.rd ((md.pg K).rc k) (fun cls d _ H => E cls d H)) :=
  (ss_cons (z_own c 1 (f_lst s_nil)) (ss_cons (z_asg c 2 d_int) (ss_cons (z_asg c 3 d_int) (ss_cons (z_asg c 4 d_int) (ss_cons (z_whl c (t_cmp (k_lt c) (d_var 2) (d_bif m (b_len c) 1 (s_cons (d_var 0) s_nil)) (nomark _)) (ss_cons (z_if (t_cmp (k_eq c) (d_ix c (d_var 0) (d_var 2)) d_str (nomark _)) (ss_cons (z_add c 2 d_int) (ss_cons (z_add c 3 d_int) (ss_cons (z_asg c 4 (d_var 2)) ss_nil))) (ss_cons (z_if (t_cmp (k_eq c) (d_ix c (d_var 0) (d_var 2)) d_str (nomark _)) (ss_cons (z_add c 2 d_int) ss_nil) (ss_cons (z_if (t_cmp (k_eq c) (d_ix c (d_var 0) (d_var 2)) d_str (nomark _)) (ss_cons (z_asg c 2 (d_call c m 3 (a_d (d_var 0) (a_d (d_var 2) a_nil)))) ss_nil) (ss_cons (z_asgt (d_call c m 9 (a_d (d_var 0) (a_d (d_var 2) (a_d (d_var 3) (a_d (d_add c (d_sub c (d_var 2) (d_var 4)) d_int) a_nil))))) (g_tp c (gs_cons (g_nm c 5) (gs_cons (g_nm c 2) gs_nil)))) (ss_cons (z_app c 1 (d_var 1) (d_var 5)) ss_nil))) ss_nil)) ss_nil)) ss_nil)) (ss_cons (z_app c 1 (d_var 1) (d_tup (s_cons d_str (s_cons d_str (s_cons (d_var 3) (s_cons (d_add c (d_sub c (d_var 2) (d_var 4)) d_int) s_nil)))))) (ss_cons (z_ret (d_frz 1)) ss_nil)))))))
theorem der__law_told (f : Addr) (k : Nat) (cdv : Value) (A : Around) (outer : List Env) (s : Shared) (H : Hp) (E : XK) (c : Cxt (cxOf (L2.CX P w) P w K mg base ["text", "e"] "_law_told" (defScope s__law_told) f cdv A outer s H E) ((md.pg K).rc k) (fun cls d _ H => E cls d H) k)
    (m : Md (cxOf (L2.CX P w) P w K mg base ["text", "e"] "_law_told" (defScope s__law_told) f cdv A outer s H E) ((md.pg K).rc k) k md.fns md.cons md.blts) (me : Me (cxOf (L2.CX P w) P w K mg base ["text", "e"] "_law_told" (defScope s__law_told) f cdv A outer s H E) ((md.pg K).rc k) md.clss) (mr : Mr (cxOf (L2.CX P w) P w K mg base ["text", "e"] "_law_told" (defScope s__law_told) f cdv A outer s H E) ((md.pg K).rc k) md.mks) : PSs (cxOf (L2.CX P w) P w K mg base ["text", "e"] "_law_told" (defScope s__law_told) f cdv A outer s H E) (defBody s__law_told) (code__law_told.rd ((md.pg K).rc k) (fun cls d _ H => E cls d H)) :=
  (ss_cons (z_try c (fun W1 pl1 xe1 c => have m := Md.tr (pl := pl1) (xe := xe1) m; have me := Me.tr (pl := pl1) (xe := xe1) me; have mr := Mr.tr (pl := pl1) (xe := xe1) mr; (ss_cons (z_ret (d_tup (s_cons d_str (s_cons (d_bif m (b_len c) 1 (s_cons (d_call c m 10 (a_d (d_var 0) a_nil)) s_nil)) s_nil)))) ss_nil)) (h_cons c m me 0 1 (fun a1 oe1 cls1 d1 pl1 c m me cz => (ss_cons (z_ret (d_tup (s_cons d_str (s_cons (d_xf cz me 0 1 (d_var 1)) (s_cons (d_xf cz me 1 1 (d_var 1)) (s_cons (d_xt cz m 1 5 (d_var 1) (x_cons me 1 (x_cons me 2 (x_cons me 5 x_nil)))) (s_cons (d_xi cz m me 1 3 5 (d_var 1)) s_nil))))))) ss_nil)) (h_cons c m me 1 1 (fun a1 oe1 cls1 d1 pl1 c m me cz => (ss_cons (z_ret (d_tup (s_cons d_str (s_cons (d_xf cz me 0 1 (d_var 1)) (s_cons (d_xf cz me 1 1 (d_var 1)) (s_cons (d_xt cz m 1 5 (d_var 1) (x_cons me 2 (x_cons me 5 x_nil))) (s_cons (d_xi cz m me 1 3 5 (d_var 1)) s_nil))))))) ss_nil)) (h_cons c m me 2 1 (fun a1 oe1 cls1 d1 pl1 c m me cz => (ss_cons (z_ret (d_tup (s_cons d_str (s_cons (d_xf cz me 0 1 (d_var 1)) (s_cons (d_xf cz me 1 1 (d_var 1)) (s_cons (d_xi cz m me 1 5 5 (d_var 1)) (s_cons (d_and c (d_xi cz m me 1 3 5 (d_var 1)) (d_one (d_xi cz m me 1 4 5 (d_var 1)))) s_nil))))))) ss_nil)) h_nil)))) ss_nil)
theorem der__law_bad (f : Addr) (k : Nat) (cdv : Value) (A : Around) (outer : List Env) (s : Shared) (H : Hp) (E : XK) (c : Cxt (cxOf (L2.CX P w) P w K mg base ["draws", "pick", "signs", "words", "quotes"] "_law_bad" (defScope s__law_bad) f cdv A outer s H E) ((md.pg K).rc k) (fun cls d _ H => E cls d H) k)
    (m : Md (cxOf (L2.CX P w) P w K mg base ["draws", "pick", "signs", "words", "quotes"] "_law_bad" (defScope s__law_bad) f cdv A outer s H E) ((md.pg K).rc k) k md.fns md.cons md.blts) (me : Me (cxOf (L2.CX P w) P w K mg base ["draws", "pick", "signs", "words", "quotes"] "_law_bad" (defScope s__law_bad) f cdv A outer s H E) ((md.pg K).rc k) md.clss) (mr : Mr (cxOf (L2.CX P w) P w K mg base ["draws", "pick", "signs", "words", "quotes"] "_law_bad" (defScope s__law_bad) f cdv A outer s H E) ((md.pg K).rc k) md.mks) : PSs (cxOf (L2.CX P w) P w K mg base ["draws", "pick", "signs", "words", "quotes"] "_law_bad" (defScope s__law_bad) f cdv A outer s H E) (defBody s__law_bad) (code__law_bad.rd ((md.pg K).rc k) (fun cls d _ H => E cls d H)) :=
  (ss_cons (z_asg c 1 (d_call c m 2 (a_o 0 (d_var 0) (a_d d_int a_nil)))) (ss_cons (z_if (t_cmp (k_eq c) (d_var 1) d_int (nomark _)) (ss_cons (z_asg c 2 (d_lst (s_cons d_str (s_cons d_str (s_cons d_str (s_cons d_str (s_cons d_str (s_cons d_str (s_cons d_str (s_cons d_str (s_cons d_str (s_cons d_str (s_cons d_str (s_cons d_str (s_cons d_str (s_cons d_str (s_cons d_str (s_cons d_str (s_cons d_str (s_cons d_str (s_cons d_str s_nil))))))))))))))))))))) (ss_cons (z_asg c 2 (d_add c (d_var 2) (d_lst (s_cons d_str (s_cons d_str s_nil))))) (ss_cons (z_ret (d_tup (s_cons d_str (s_cons (d_ix c (d_var 2) (d_call c m 2 (a_o 0 (d_var 0) (a_d (d_bif m (b_len c) 1 (s_cons (d_var 2) s_nil)) a_nil)))) s_nil)))) ss_nil))) ss_nil) (ss_cons (z_if (t_cmp (k_eq c) (d_var 1) d_int (nomark _)) (ss_cons (z_asg c 3 (d_lst (s_cons d_str (s_cons d_str (s_cons d_str (s_cons d_str (s_cons d_str (s_cons d_str (s_cons d_str (s_cons d_str (s_cons d_str (s_cons d_str s_nil)))))))))))) (ss_cons (z_ret (d_tup (s_cons d_str (s_cons (d_ix c (d_var 3) (d_call c m 2 (a_o 0 (d_var 0) (a_d d_int a_nil)))) s_nil)))) ss_nil)) ss_nil) (ss_cons (z_asg c 4 (d_lst (s_cons d_str (s_cons d_str (s_cons d_str (s_cons (d_add c (d_add c d_str (d_mul c d_str d_int)) d_str) (s_cons d_str (s_cons d_str (s_cons d_str s_nil))))))))) (ss_cons (z_asg c 4 (d_add c (d_var 4) (d_lst (s_cons d_str (s_cons d_str s_nil))))) (ss_cons (z_ret (d_tup (s_cons d_str (s_cons (d_ix c (d_var 4) (d_call c m 2 (a_o 0 (d_var 0) (a_d (d_bif m (b_len c) 1 (s_cons (d_var 4) s_nil)) a_nil)))) s_nil)))) ss_nil))))))
theorem der__law_between (f : Addr) (k : Nat) (cdv : Value) (A : Around) (outer : List Env) (s : Shared) (H : Hp) (E : XK) (c : Cxt (cxOf (L2.CX P w) P w K mg base ["draws"] "_law_between" (defScope s__law_between) f cdv A outer s H E) ((md.pg K).rc k) (fun cls d _ H => E cls d H) k)
    (m : Md (cxOf (L2.CX P w) P w K mg base ["draws"] "_law_between" (defScope s__law_between) f cdv A outer s H E) ((md.pg K).rc k) k md.fns md.cons md.blts) (me : Me (cxOf (L2.CX P w) P w K mg base ["draws"] "_law_between" (defScope s__law_between) f cdv A outer s H E) ((md.pg K).rc k) md.clss) (mr : Mr (cxOf (L2.CX P w) P w K mg base ["draws"] "_law_between" (defScope s__law_between) f cdv A outer s H E) ((md.pg K).rc k) md.mks) : PSs (cxOf (L2.CX P w) P w K mg base ["draws"] "_law_between" (defScope s__law_between) f cdv A outer s H E) (defBody s__law_between) (code__law_between.rd ((md.pg K).rc k) (fun cls d _ H => E cls d H)) :=
  (ss_cons (z_ret (d_ix c (d_lst (s_cons d_str (s_cons d_str (s_cons d_str (s_cons d_str (s_cons d_str s_nil)))))) (d_call c m 2 (a_o 0 (d_var 0) (a_d d_int a_nil))))) ss_nil)
theorem der__law_good (f : Addr) (k : Nat) (cdv : Value) (A : Around) (outer : List Env) (s : Shared) (H : Hp) (E : XK) (c : Cxt (cxOf (L2.CX P w) P w K mg base ["draws", "words"] "_law_good" (defScope s__law_good) f cdv A outer s H E) ((md.pg K).rc k) (fun cls d _ H => E cls d H) k)
    (m : Md (cxOf (L2.CX P w) P w K mg base ["draws", "words"] "_law_good" (defScope s__law_good) f cdv A outer s H E) ((md.pg K).rc k) k md.fns md.cons md.blts) (me : Me (cxOf (L2.CX P w) P w K mg base ["draws", "words"] "_law_good" (defScope s__law_good) f cdv A outer s H E) ((md.pg K).rc k) md.clss) (mr : Mr (cxOf (L2.CX P w) P w K mg base ["draws", "words"] "_law_good" (defScope s__law_good) f cdv A outer s H E) ((md.pg K).rc k) md.mks) : PSs (cxOf (L2.CX P w) P w K mg base ["draws", "words"] "_law_good" (defScope s__law_good) f cdv A outer s H E) (defBody s__law_good) (code__law_good.rd ((md.pg K).rc k) (fun cls d _ H => E cls d H)) :=
  (ss_cons (z_asg c 1 (d_lst (s_cons d_str (s_cons d_str (s_cons d_str (s_cons d_str (s_cons d_str (s_cons d_str (s_cons d_str (s_cons d_str (s_cons d_str (s_cons d_str (s_cons d_str (s_cons d_str (s_cons d_str (s_cons d_str (s_cons d_str (s_cons d_str s_nil)))))))))))))))))) (ss_cons (z_ret (d_ix c (d_var 1) (d_call c m 2 (a_o 0 (d_var 0) (a_d d_int a_nil))))) ss_nil))
theorem der_law (f : Addr) (k : Nat) (cdv : Value) (A : Around) (outer : List Env) (s : Shared) (H : Hp) (E : XK) (c : Cxt (cxOf (L2.CX P w) P w K mg base ["script", "draws", "text", "many", "k", "turn", "kind", "word", "row", "column", "rest", "sign", "head"] "law" (defScope s_law) f cdv A outer s H E) ((md.pg K).rc k) (fun cls d _ H => E cls d H) k)
    (m : Md (cxOf (L2.CX P w) P w K mg base ["script", "draws", "text", "many", "k", "turn", "kind", "word", "row", "column", "rest", "sign", "head"] "law" (defScope s_law) f cdv A outer s H E) ((md.pg K).rc k) k md.fns md.cons md.blts) (me : Me (cxOf (L2.CX P w) P w K mg base ["script", "draws", "text", "many", "k", "turn", "kind", "word", "row", "column", "rest", "sign", "head"] "law" (defScope s_law) f cdv A outer s H E) ((md.pg K).rc k) md.clss) (mr : Mr (cxOf (L2.CX P w) P w K mg base ["script", "draws", "text", "many", "k", "turn", "kind", "word", "row", "column", "rest", "sign", "head"] "law" (defScope s_law) f cdv A outer s H E) ((md.pg K).rc k) md.mks) : PSs (cxOf (L2.CX P w) P w K mg base ["script", "draws", "text", "many", "k", "turn", "kind", "word", "row", "column", "rest", "sign", "head"] "law" (defScope s_law) f cdv A outer s H E) (defBody s_law) (code_law.rd ((md.pg K).rc k) (fun cls d _ H => E cls d H)) :=
  (ss_cons (z_own c 1 (f_call c m 1 (a_d (d_var 0) (a_d d_int a_nil)))) (ss_cons (z_asg c 2 d_str) (ss_cons (z_asg c 3 (d_call c m 2 (a_o 1 (d_var 1) (a_d d_int a_nil)))) (ss_cons (z_for c (i_r1 m 2 (d_var 3)) (g_nm c 4) (ss_cons (z_asg c 2 (d_add c (d_add c (d_var 2) (d_call c m 14 (a_o 1 (d_var 1) a_nil))) (d_call c m 13 (a_o 1 (d_var 1) a_nil)))) ss_nil)) (ss_cons (z_if (t_cmp (k_ne c) (d_call c m 11 (a_d (d_var 2) a_nil)) (d_tup (s_cons d_str (s_cons (d_add c (d_var 3) d_int) s_nil))) (nomark _)) (ss_cons (z_ret d_bl) ss_nil) ss_nil) (ss_cons (z_for c (i_r1 m 2 d_int) (g_nm c 5) (ss_cons (z_asgt (d_call c m 12 (a_o 1 (d_var 1) a_nil)) (g_tp c (gs_cons (g_nm c 6) (gs_cons (g_nm c 7) gs_nil)))) (ss_cons (z_asg c 8 (d_add c (d_mth c (m_count c) (d_var 2) (s_cons d_str s_nil)) d_int)) (ss_cons (z_asg c 9 (d_sub c (d_bif m (b_len c) 1 (s_cons (d_var 2) s_nil)) (d_mth c (m_rfind c) (d_var 2) (s_cons d_str s_nil)))) (ss_cons (z_asg c 10 d_str) (ss_cons (z_if (t_cmp (k_in c) (d_var 7) (d_tup (s_cons d_str (s_cons d_str s_nil)))) (ss_cons (z_asg c 10 d_str) ss_nil) (ss_cons (z_for c (i_r1 m 2 (d_call c m 2 (a_o 1 (d_var 1) (a_d d_int a_nil)))) (g_nm c 4) (ss_cons (z_asg c 10 (d_add c (d_add c (d_var 10) (d_ix c (d_lst (s_cons d_str (s_cons d_str s_nil))) (d_call c m 2 (a_o 1 (d_var 1) (a_d d_int a_nil))))) (d_ix c (d_lst (s_cons (d_call c m 14 (a_o 1 (d_var 1) a_nil)) (s_cons d_str (s_cons d_str (s_cons d_str s_nil))))) (d_call c m 2 (a_o 1 (d_var 1) (a_d d_int a_nil)))))) ss_nil)) ss_nil)) (ss_cons (z_if (t_cmp (k_ne c) (d_call c m 11 (a_d (d_add c (d_add c (d_var 2) (d_var 7)) (d_var 10)) a_nil)) (d_tup (s_cons (d_var 6) (s_cons (d_var 8) (s_cons (d_var 9) (s_cons d_bl (s_cons d_bl s_nil)))))) (nomark _)) (ss_cons (z_ret d_bl) ss_nil) ss_nil) ss_nil))))))) (ss_cons (z_for c (i_lst c (d_lst (s_cons d_str (s_cons d_str (s_cons d_str (s_cons d_str (s_cons d_str (s_cons d_str s_nil)))))))) (g_nm c 11) (ss_cons (z_for c (i_lst c (d_lst (s_cons d_str (s_cons d_str (s_cons d_str (s_cons d_str s_nil)))))) (g_nm c 12) (ss_cons (z_if (t_cmp (k_ne c) (d_call c m 11 (a_d (d_add c (d_add c (d_var 12) (d_var 11)) d_str) a_nil)) (d_tup (s_cons d_str (s_cons d_int (s_cons (d_add c (d_bif m (b_len c) 1 (s_cons (d_var 12) s_nil)) d_int) (s_cons d_bl (s_cons d_bl s_nil)))))) (nomark _)) (ss_cons (z_ret d_bl) ss_nil) ss_nil) ss_nil)) (ss_cons (z_if (t_cmp (k_ne c) (d_call c m 11 (a_d (d_add c (d_add c d_str (d_var 11)) d_str) a_nil)) (d_tup (s_cons d_str (s_cons d_int s_nil))) (nomark _)) (ss_cons (z_ret d_bl) ss_nil) ss_nil) ss_nil))) (ss_cons (z_ret d_bl) ss_nil))))))))
abbrev s_init : Stmt := inClass (topS 2) 0
theorem sc_init : FnScope ["self", "row", "column"] ["self", "row", "column"] (defScope s_init) := ⟨rfl, rfl, rfl, by decide +kernel, rfl, by decide +kernel, by decide +kernel⟩
theorem der_init (f : Addr) (cdv : Value) (A : Around) (outer : List Env) (s : Shared) (H : Hp) (E : XK) {B : Addr} (hm : mg "WatchError" = some (.ref B)) (rB : PySem.W.readsIn K B (.type "type") = true) (gB : PySem.W.specialIn K (.ref B) "__getattribute__" = some (some (.builtin "type.__getattribute__"))) (vB : PySem.W.findCls K (.ref B) (.type "type") "__init__" = some (.val (.builtin "ValueError.__init__"))) :
    PSs (cxOf (L2.CX P w) P w K mg base ["self", "row", "column"] "TextError.__init__" (defScope s_init) f cdv A outer s H E) (defBody s_init) (rdXI K "row" "column" "error in the text") :=
  pss_cons (ps_expr (pe_binit (X := cxOf (L2.CX P w) P w K mg base ["self", "row", "column"] "TextError.__init__" (defScope s_init) f cdv A outer s H E) (by rfl) hm rB gB vB (pa_cons (pv 0) (pa_cons pe_str pa_nil)))) (pss_cons (ps_ost (pv 0) (pv 1)) (pss_cons (ps_ost (pv 0) (pv 2)) pss_nil))
end
theorem all_mk {P : Program} {w : World} {K : PySem.W.Frag} {h : Heap} {mg : Str → Option Value} {fa f0 f1 f2 f3 f4 f5 f6 f7 f8 f9 f10 f11 f12 f13 f14 f15 : Addr} (X : K.In h) (G : h.Ns mainGlobals mg) (hfa : mg "law" = some (.ref fa))
    {od0 an0 od1 an1 od2 an2 od3 an3 od4 an4 od5 an5 od6 an6 od7 an7 od8 an8 od9 an9 od10 an10 od11 an11 od12 an12 od13 an13 od14 an14 od15 an15 : Option Addr} {sl0 sl1 sl2 sl3 sl4 sl5 sl6 sl7 sl8 sl9 sl10 sl11 sl12 sl13 sl14 sl15 : Array (Option Value)} {oc0 kV0 dc0 pm0 cd0 ct0 oc1 kV1 dc1 pm1 cd1 ct1 oc2 kV2 dc2 pm2 cd2 ct2 oc3 kV3 dc3 pm3 cd3 ct3 oc4 kV4 dc4 pm4 cd4 ct4 oc5 kV5 dc5 pm5 cd5 ct5 oc6 kV6 dc6 pm6 cd6 ct6 oc7 kV7 dc7 pm7 cd7 ct7 oc8 kV8 dc8 pm8 cd8 ct8 oc9 kV9 dc9 pm9 cd9 ct9 oc10 kV10 dc10 pm10 cd10 ct10 oc11 kV11 dc11 pm11 cd11 ct11 oc12 kV12 dc12 pm12 cd12 ct12 oc13 kV13 dc13 pm13 cd13 ct13 oc14 kV14 dc14 pm14 cd14 ct14 oc15 kV15 dc15 pm15 cd15 ct15 : Value}
    (a0 : PySem.W.nsIn K mainGlobals "_law_mix" = some (some (.ref f0))) (l0 : K.lookup f0 = some ⟨oc0, od0, .func (PySem.W.fnOf "_law_mix" "_law_mix" (defArgs s__law_mix) (defBody s__law_mix) (defScope s__law_mix) .none kV0 dc0 pm0 an0 cd0 ct0), sl0⟩) (c0 : PySem.W.codeIn K cd0 "_law_mix" = true) (k0 : PySem.W.keepIn K (.ref f0) = true)
    (a1 : PySem.W.nsIn K mainGlobals "_law_stream" = some (some (.ref f1))) (l1 : K.lookup f1 = some ⟨oc1, od1, .func (PySem.W.fnOf "_law_stream" "_law_stream" (defArgs s__law_stream) (defBody s__law_stream) (defScope s__law_stream) .none kV1 dc1 pm1 an1 cd1 ct1), sl1⟩) (c1 : PySem.W.codeIn K cd1 "_law_stream" = true) (k1 : PySem.W.keepIn K (.ref f1) = true)
    (a2 : PySem.W.nsIn K mainGlobals "_law_pick" = some (some (.ref f2))) (l2 : K.lookup f2 = some ⟨oc2, od2, .func (PySem.W.fnOf "_law_pick" "_law_pick" (defArgs s__law_pick) (defBody s__law_pick) (defScope s__law_pick) .none kV2 dc2 pm2 an2 cd2 ct2), sl2⟩) (c2 : PySem.W.codeIn K cd2 "_law_pick" = true) (k2 : PySem.W.keepIn K (.ref f2) = true)
    (a3 : PySem.W.nsIn K mainGlobals "_comment_end" = some (some (.ref f3))) (l3 : K.lookup f3 = some ⟨oc3, od3, .func (PySem.W.fnOf "_comment_end" "_comment_end" (defArgs s__comment_end) (defBody s__comment_end) (defScope s__comment_end) .none kV3 dc3 pm3 an3 cd3 ct3), sl3⟩) (c3 : PySem.W.codeIn K cd3 "_comment_end" = true) (k3 : PySem.W.keepIn K (.ref f3) = true)
    (a4 : PySem.W.nsIn K mainGlobals "is_sign" = some (some (.ref f4))) (l4 : K.lookup f4 = some ⟨oc4, od4, .func (PySem.W.fnOf "is_sign" "is_sign" (defArgs s_is_sign) (defBody s_is_sign) (defScope s_is_sign) .none kV4 dc4 pm4 an4 cd4 ct4), sl4⟩) (c4 : PySem.W.codeIn K cd4 "is_sign" = true) (k4 : PySem.W.keepIn K (.ref f4) = true)
    (a5 : PySem.W.nsIn K mainGlobals "_quoted" = some (some (.ref f5))) (l5 : K.lookup f5 = some ⟨oc5, od5, .func (PySem.W.fnOf "_quoted" "_quoted" (defArgs s__quoted) (defBody s__quoted) (defScope s__quoted) .none kV5 dc5 pm5 an5 cd5 ct5), sl5⟩) (c5 : PySem.W.codeIn K cd5 "_quoted" = true) (k5 : PySem.W.keepIn K (.ref f5) = true)
    (a6 : PySem.W.nsIn K mainGlobals "word_end" = some (some (.ref f6))) (l6 : K.lookup f6 = some ⟨oc6, od6, .func (PySem.W.fnOf "word_end" "word_end" (defArgs s_word_end) (defBody s_word_end) (defScope s_word_end) .none kV6 dc6 pm6 an6 cd6 ct6), sl6⟩) (c6 : PySem.W.codeIn K cd6 "word_end" = true) (k6 : PySem.W.keepIn K (.ref f6) = true)
    (a7 : PySem.W.nsIn K mainGlobals "is_number" = some (some (.ref f7))) (l7 : K.lookup f7 = some ⟨oc7, od7, .func (PySem.W.fnOf "is_number" "is_number" (defArgs s_is_number) (defBody s_is_number) (defScope s_is_number) .none kV7 dc7 pm7 an7 cd7 ct7), sl7⟩) (c7 : PySem.W.codeIn K cd7 "is_number" = true) (k7 : PySem.W.keepIn K (.ref f7) = true)
    (a8 : PySem.W.nsIn K mainGlobals "_word_kind" = some (some (.ref f8))) (l8 : K.lookup f8 = some ⟨oc8, od8, .func (PySem.W.fnOf "_word_kind" "_word_kind" (defArgs s__word_kind) (defBody s__word_kind) (defScope s__word_kind) .none kV8 dc8 pm8 an8 cd8 ct8), sl8⟩) (c8 : PySem.W.codeIn K cd8 "_word_kind" = true) (k8 : PySem.W.keepIn K (.ref f8) = true)
    (a9 : PySem.W.nsIn K mainGlobals "_token_at" = some (some (.ref f9))) (l9 : K.lookup f9 = some ⟨oc9, od9, .func (PySem.W.fnOf "_token_at" "_token_at" (defArgs s__token_at) (defBody s__token_at) (defScope s__token_at) .none kV9 dc9 pm9 an9 cd9 ct9), sl9⟩) (c9 : PySem.W.codeIn K cd9 "_token_at" = true) (k9 : PySem.W.keepIn K (.ref f9) = true)
    (a10 : PySem.W.nsIn K mainGlobals "tokens" = some (some (.ref f10))) (l10 : K.lookup f10 = some ⟨oc10, od10, .func (PySem.W.fnOf "tokens" "tokens" (defArgs s_tokens) (defBody s_tokens) (defScope s_tokens) .none kV10 dc10 pm10 an10 cd10 ct10), sl10⟩) (c10 : PySem.W.codeIn K cd10 "tokens" = true) (k10 : PySem.W.keepIn K (.ref f10) = true)
    (a11 : PySem.W.nsIn K mainGlobals "_law_told" = some (some (.ref f11))) (l11 : K.lookup f11 = some ⟨oc11, od11, .func (PySem.W.fnOf "_law_told" "_law_told" (defArgs s__law_told) (defBody s__law_told) (defScope s__law_told) .none kV11 dc11 pm11 an11 cd11 ct11), sl11⟩) (c11 : PySem.W.codeIn K cd11 "_law_told" = true) (k11 : PySem.W.keepIn K (.ref f11) = true)
    (a12 : PySem.W.nsIn K mainGlobals "_law_bad" = some (some (.ref f12))) (l12 : K.lookup f12 = some ⟨oc12, od12, .func (PySem.W.fnOf "_law_bad" "_law_bad" (defArgs s__law_bad) (defBody s__law_bad) (defScope s__law_bad) .none kV12 dc12 pm12 an12 cd12 ct12), sl12⟩) (c12 : PySem.W.codeIn K cd12 "_law_bad" = true) (k12 : PySem.W.keepIn K (.ref f12) = true)
    (a13 : PySem.W.nsIn K mainGlobals "_law_between" = some (some (.ref f13))) (l13 : K.lookup f13 = some ⟨oc13, od13, .func (PySem.W.fnOf "_law_between" "_law_between" (defArgs s__law_between) (defBody s__law_between) (defScope s__law_between) .none kV13 dc13 pm13 an13 cd13 ct13), sl13⟩) (c13 : PySem.W.codeIn K cd13 "_law_between" = true) (k13 : PySem.W.keepIn K (.ref f13) = true)
    (a14 : PySem.W.nsIn K mainGlobals "_law_good" = some (some (.ref f14))) (l14 : K.lookup f14 = some ⟨oc14, od14, .func (PySem.W.fnOf "_law_good" "_law_good" (defArgs s__law_good) (defBody s__law_good) (defScope s__law_good) .none kV14 dc14 pm14 an14 cd14 ct14), sl14⟩) (c14 : PySem.W.codeIn K cd14 "_law_good" = true) (k14 : PySem.W.keepIn K (.ref f14) = true)
    (a15 : PySem.W.nsIn K mainGlobals "law" = some (some (.ref f15))) (l15 : K.lookup f15 = some ⟨oc15, od15, .func (PySem.W.fnOf "law" "law" (defArgs s_law) (defBody s_law) (defScope s_law) .none kV15 dc15 pm15 an15 cd15 ct15), sl15⟩) (c15 : PySem.W.codeIn K cd15 "law" = true) (k15 : PySem.W.keepIn K (.ref f15) = true)
    {u0 : Value} (v0 : PySem.W.nsIn K mainGlobals "PERCENT" = some (some u0)) (x0 : absD u0 = some (.int 37))
    {u1 : Value} (v1 : PySem.W.nsIn K mainGlobals "BACKSLASH" = some (some u1)) (x1 : absD u1 = some (.int 92))
    {u2 : Value} (v2 : PySem.W.nsIn K mainGlobals "LONGEST" = some (some u2)) (x2 : absD u2 = some (.int 40))
    {u3 : Value} (v3 : PySem.W.nsIn K mainGlobals "LETTERS" = some (some u3)) (x3 : absD u3 = some (.str [97, 98, 99, 100, 101, 102, 103, 104, 105, 106, 107, 108, 109, 110, 111, 112, 113, 114, 115, 116, 117, 118, 119, 120, 121, 122, 65, 66, 67, 68, 69, 70, 71, 72, 73, 74, 75, 76, 77, 78, 79, 80, 81, 82, 83, 84, 85, 86, 87, 88, 89, 90]))
    {u4 : Value} (v4 : PySem.W.nsIn K mainGlobals "DIGITS" = some (some u4)) (x4 : absD u4 = some (.str [48, 49, 50, 51, 52, 53, 54, 55, 56, 57]))
    {u5 : Value} (v5 : PySem.W.nsIn K mainGlobals "MOST" = some (some u5)) (x5 : absD u5 = some (.int 1000000000000))
    {tp6 : Addr} {td6 : Option Addr} {ti6 : Array Value} {tn6 : Nat} {ts6 : Array (Option Value)} (v6 : PySem.W.nsIn K mainGlobals "KEYWORDS" = some (some (.ref tp6))) (w6 : K.lookup tp6 = some ⟨.type "tuple", td6, .seq ti6 tn6, ts6⟩) (y6 : ti6.size ≤ 16777216) (x6 : ti6.toList.map absD = ([(.str [101, 118, 101, 110, 116]), (.str [100, 101, 102]), (.str [119, 97, 116, 99, 104]), (.str [110, 117, 109, 98, 101, 114]), (.str [119, 111, 114, 100]), (.str [105, 109, 112, 108, 105, 101, 115]), (.str [111, 114]), (.str [97, 110, 100]), (.str [115, 105, 110, 99, 101]), (.str [117, 110, 116, 105, 108]), (.str [110, 111, 116]), (.str [115, 111, 109, 101]), (.str [97, 108, 108]), (.str [98, 101, 102, 111, 114, 101]), (.str [110, 101, 120, 116]), (.str [111, 110, 99, 101]), (.str [104, 101, 108, 100]), (.str [115, 111, 111, 110]), (.str [107, 101, 112, 116]), (.str [99, 111, 117, 110, 116]), (.str [115, 117, 109]), (.str [108, 101, 97, 115, 116]), (.str [109, 111, 115, 116]), (.str [111, 102]), (.str [116, 114, 117, 101]), (.str [102, 97, 108, 115, 101])] : List D).map some)
    {u7 : Value} (v7 : PySem.W.nsIn K mainGlobals "SHORT_SIGNS" = some (some u7)) (x7 : absD u7 = some (.str [40, 41, 91, 93, 44, 59, 46, 42, 61, 60, 43, 45]))
    {tp8 : Addr} {td8 : Option Addr} {ti8 : Array Value} {tn8 : Nat} {ts8 : Array (Option Value)} (v8 : PySem.W.nsIn K mainGlobals "LONG_SIGNS" = some (some (.ref tp8))) (w8 : K.lookup tp8 = some ⟨.type "tuple", td8, .seq ti8 tn8, ts8⟩) (y8 : ti8.size ≤ 16777216) (x8 : ti8.toList.map absD = ([(.str [60, 61])] : List D).map some)
    (z0 : PySem.W.nsIn K mainGlobals "int" = some none)
    (z1 : PySem.W.nsIn K mainGlobals "len" = some none)
    (z2 : PySem.W.nsIn K mainGlobals "range" = some none)
    (z3 : PySem.W.nsIn K mainGlobals "min" = some none)
    (z4 : PySem.W.nsIn K mainGlobals "ord" = some none)
    (z5 : PySem.W.nsIn K mainGlobals "isinstance" = some none)
    {fI B : Addr} {odI anI : Option Addr} {slI : Array (Option Value)} {ocI kVI dcI pmI cdI ctI : Value} (lI : K.lookup fI = some ⟨ocI, odI, .func (PySem.W.fnOf "__init__" "TextError.__init__" (defArgs s_init) (defBody s_init) (defScope s_init) .none kVI dcI pmI anI cdI ctI), slI⟩) (cI : PySem.W.codeIn K cdI "TextError.__init__" = true) (kI : PySem.W.keepIn K (.ref fI) = true) (tI : PySem.W.typeIn K (.ref fI) = some (.type "function"))
    (eB : PySem.W.nsIn K mainGlobals "WatchError" = some (some (.ref B))) (rB : PySem.W.readsIn K B (.type "type") = true) (gB : PySem.W.specialIn K (.ref B) "__getattribute__" = some (some (.builtin "type.__getattribute__"))) (vB : PySem.W.findCls K (.ref B) (.type "type") "__init__" = some (.val (.builtin "ValueError.__init__")))
    {C0 : Addr} (e0 : PySem.W.nsIn K mainGlobals "BadCharacter" = some (some (.ref C0))) (b0X : PySem.W.subIn K (.ref C0) (.type "BaseException") = some true) (h0X : PySem.W.hasDictIn K C0 = true) (t0X : PySem.W.typeIn K (.ref C0) = some (.type "type"))
    {nm0 q0 : Str} {N0 : Addr} {bs0 bm0 : List Value} {sn0 : List Str} {su0 : List Value} {ab0 : Bool} {co0 : Option Bool} {dd0 : Option Addr} {m00 m10 m20 m30 m50 : Option Value}
    (x0L : K.lookup C0 = some (excClassObj nm0 q0 C0 N0 bs0 bm0 true sn0 su0 ab0 co0 dd0 m00 m10 m20 m30 m50 "ValueError.__new__")) (r0L : PySem.HandSPX.refsVE bm0 = true)
    (s0A : PySem.W.findIn K (.ref C0) "__setattr__" = some (some (.builtin "object.__setattr__"))) (k0C : PySem.W.keepIn K (.ref C0) = true) (i0C : PySem.W.findIn K (.ref C0) "__init__" = some (some (.ref fI)))
    (n0A : PySem.W.findIn K (.ref C0) "row" = some none) (n0B : PySem.W.findIn K (.ref C0) "column" = some none)
    (g0A : PySem.W.findIn K (.ref C0) "__getattribute__" = some (some (.builtin "BaseException.__getattribute__"))) (g0B : PySem.W.findIn K (.ref C0) "__getattr__" = some none) (a0C : PySem.W.findIn K (.ref C0) "__class__" = some (some (.builtin "object.__class__"))) (o0C : PySem.W.mroIn K C0 (.type "object") = some true)
    {C1 : Addr} (e1 : PySem.W.nsIn K mainGlobals "BadNumber" = some (some (.ref C1))) (b1X : PySem.W.subIn K (.ref C1) (.type "BaseException") = some true) (h1X : PySem.W.hasDictIn K C1 = true) (t1X : PySem.W.typeIn K (.ref C1) = some (.type "type"))
    {nm1 q1 : Str} {N1 : Addr} {bs1 bm1 : List Value} {sn1 : List Str} {su1 : List Value} {ab1 : Bool} {co1 : Option Bool} {dd1 : Option Addr} {m01 m11 m21 m31 m51 : Option Value}
    (x1L : K.lookup C1 = some (excClassObj nm1 q1 C1 N1 bs1 bm1 true sn1 su1 ab1 co1 dd1 m01 m11 m21 m31 m51 "ValueError.__new__")) (r1L : PySem.HandSPX.refsVE bm1 = true)
    (s1A : PySem.W.findIn K (.ref C1) "__setattr__" = some (some (.builtin "object.__setattr__"))) (k1C : PySem.W.keepIn K (.ref C1) = true) (i1C : PySem.W.findIn K (.ref C1) "__init__" = some (some (.ref fI)))
    (n1A : PySem.W.findIn K (.ref C1) "row" = some none) (n1B : PySem.W.findIn K (.ref C1) "column" = some none)
    (g1A : PySem.W.findIn K (.ref C1) "__getattribute__" = some (some (.builtin "BaseException.__getattribute__"))) (g1B : PySem.W.findIn K (.ref C1) "__getattr__" = some none) (a1C : PySem.W.findIn K (.ref C1) "__class__" = some (some (.builtin "object.__class__"))) (o1C : PySem.W.mroIn K C1 (.type "object") = some true)
    {C2 : Addr} (e2 : PySem.W.nsIn K mainGlobals "BadQuote" = some (some (.ref C2))) (b2X : PySem.W.subIn K (.ref C2) (.type "BaseException") = some true) (h2X : PySem.W.hasDictIn K C2 = true) (t2X : PySem.W.typeIn K (.ref C2) = some (.type "type"))
    {nm2 q2 : Str} {N2 : Addr} {bs2 bm2 : List Value} {sn2 : List Str} {su2 : List Value} {ab2 : Bool} {co2 : Option Bool} {dd2 : Option Addr} {m02 m12 m22 m32 m52 : Option Value}
    (x2L : K.lookup C2 = some (excClassObj nm2 q2 C2 N2 bs2 bm2 true sn2 su2 ab2 co2 dd2 m02 m12 m22 m32 m52 "ValueError.__new__")) (r2L : PySem.HandSPX.refsVE bm2 = true)
    (s2A : PySem.W.findIn K (.ref C2) "__setattr__" = some (some (.builtin "object.__setattr__"))) (k2C : PySem.W.keepIn K (.ref C2) = true) (i2C : PySem.W.findIn K (.ref C2) "__init__" = some (some (.ref fI)))
    (n2A : PySem.W.findIn K (.ref C2) "row" = some none) (n2B : PySem.W.findIn K (.ref C2) "column" = some none)
    (g2A : PySem.W.findIn K (.ref C2) "__getattribute__" = some (some (.builtin "BaseException.__getattribute__"))) (g2B : PySem.W.findIn K (.ref C2) "__getattr__" = some none) (a2C : PySem.W.findIn K (.ref C2) "__class__" = some (some (.builtin "object.__class__"))) (o2C : PySem.W.mroIn K C2 (.type "object") = some true)
    {C3 : Addr} (e3 : PySem.W.nsIn K mainGlobals "TextError" = some (some (.ref C3))) (b3X : PySem.W.subIn K (.ref C3) (.type "BaseException") = some true) (h3X : PySem.W.hasDictIn K C3 = true) (t3X : PySem.W.typeIn K (.ref C3) = some (.type "type"))
    {C4 : Addr} (e4 : PySem.W.nsIn K mainGlobals "WatchError" = some (some (.ref C4))) (b4X : PySem.W.subIn K (.ref C4) (.type "BaseException") = some true) (h4X : PySem.W.hasDictIn K C4 = true) (t4X : PySem.W.typeIn K (.ref C4) = some (.type "type"))
    {C5 : Addr} (e5 : PySem.W.nsIn K mainGlobals "Unexpected" = some (some (.ref C5))) (b5X : PySem.W.subIn K (.ref C5) (.type "BaseException") = some true) (h5X : PySem.W.hasDictIn K C5 = true) (t5X : PySem.W.typeIn K (.ref C5) = some (.type "type"))
    (sG : PySem.W.specialIn K (.builtin "object.__class__") "__get__" = some (some (.builtin "getset_descriptor.__get__"))) (sT : PySem.W.takesIn K (.builtin "object.__class__") = some true)
    (u0_0 : PySem.W.subIn K (.ref C0) (.ref C0) = some true)
    (u0_1 : PySem.W.subIn K (.ref C0) (.ref C1) = some false)
    (u0_2 : PySem.W.subIn K (.ref C0) (.ref C2) = some false)
    (u0_3 : PySem.W.subIn K (.ref C0) (.ref C3) = some true)
    (u0_4 : PySem.W.subIn K (.ref C0) (.ref C4) = some true)
    (u0_5 : PySem.W.subIn K (.ref C0) (.ref C5) = some false)
    (u1_0 : PySem.W.subIn K (.ref C1) (.ref C0) = some false)
    (u1_1 : PySem.W.subIn K (.ref C1) (.ref C1) = some true)
    (u1_2 : PySem.W.subIn K (.ref C1) (.ref C2) = some false)
    (u1_3 : PySem.W.subIn K (.ref C1) (.ref C3) = some true)
    (u1_4 : PySem.W.subIn K (.ref C1) (.ref C4) = some true)
    (u1_5 : PySem.W.subIn K (.ref C1) (.ref C5) = some false)
    (u2_0 : PySem.W.subIn K (.ref C2) (.ref C0) = some false)
    (u2_1 : PySem.W.subIn K (.ref C2) (.ref C1) = some false)
    (u2_2 : PySem.W.subIn K (.ref C2) (.ref C2) = some true)
    (u2_3 : PySem.W.subIn K (.ref C2) (.ref C3) = some true)
    (u2_4 : PySem.W.subIn K (.ref C2) (.ref C4) = some true)
    (u2_5 : PySem.W.subIn K (.ref C2) (.ref C5) = some false)
    : ∃ fd : FuncData, (∀ (s : Shared) (v : Value), BindsTo s fd ⟨[v], []⟩ [("script", v)]) ∧ ∀ base : Heap, K.In base → base.Ns mainGlobals mg → FnOk P w K mg base (L2.CX P w) (depth + 1 + 2) fa fd ["script"] (spC ((md.pg K).rc (depth + 1)) 15) := by
  have e := hfa.symm.trans (PySem.W.mg_of X G a15)
  cases e
  have F0 := fun_mk (st := s__law_mix) l0 c0 k0
  have b0 := F0.binds (ps := ["cell", "k"]) fun _ _ _ _ _ _ us hl => match us, hl with | [_, _], _ => rfl
  have F1 := fun_mk (st := s__law_stream) l1 c1 k1
  have b1 := F1.binds (ps := ["script", "most"]) fun _ _ _ _ _ _ us hl => match us, hl with | [_, _], _ => rfl
  have F2 := fun_mk (st := s__law_pick) l2 c2 k2
  have b2 := F2.binds (ps := ["draws", "many"]) fun _ _ _ _ _ _ us hl => match us, hl with | [_, _], _ => rfl
  have F3 := fun_mk (st := s__comment_end) l3 c3 k3
  have b3 := F3.binds (ps := ["text", "start"]) fun _ _ _ _ _ _ us hl => match us, hl with | [_, _], _ => rfl
  have F4 := fun_mk (st := s_is_sign) l4 c4 k4
  have b4 := F4.binds (ps := ["char"]) fun _ _ _ _ _ _ us hl => match us, hl with | [_], _ => rfl
  have F5 := fun_mk (st := s__quoted) l5 c5 k5
  have b5 := F5.binds (ps := ["text", "start", "row", "column"]) fun _ _ _ _ _ _ us hl => match us, hl with | [_, _, _, _], _ => rfl
  have F6 := fun_mk (st := s_word_end) l6 c6 k6
  have b6 := F6.binds (ps := ["text", "start"]) fun _ _ _ _ _ _ us hl => match us, hl with | [_, _], _ => rfl
  have F7 := fun_mk (st := s_is_number) l7 c7 k7
  have b7 := F7.binds (ps := ["word"]) fun _ _ _ _ _ _ us hl => match us, hl with | [_], _ => rfl
  have F8 := fun_mk (st := s__word_kind) l8 c8 k8
  have b8 := F8.binds (ps := ["word", "row", "column"]) fun _ _ _ _ _ _ us hl => match us, hl with | [_, _, _], _ => rfl
  have F9 := fun_mk (st := s__token_at) l9 c9 k9
  have b9 := F9.binds (ps := ["text", "start", "row", "column"]) fun _ _ _ _ _ _ us hl => match us, hl with | [_, _, _, _], _ => rfl
  have F10 := fun_mk (st := s_tokens) l10 c10 k10
  have b10 := F10.binds (ps := ["text"]) fun _ _ _ _ _ _ us hl => match us, hl with | [_], _ => rfl
  have F11 := fun_mk (st := s__law_told) l11 c11 k11
  have b11 := F11.binds (ps := ["text"]) fun _ _ _ _ _ _ us hl => match us, hl with | [_], _ => rfl
  have F12 := fun_mk (st := s__law_bad) l12 c12 k12
  have b12 := F12.binds (ps := ["draws"]) fun _ _ _ _ _ _ us hl => match us, hl with | [_], _ => rfl
  have F13 := fun_mk (st := s__law_between) l13 c13 k13
  have b13 := F13.binds (ps := ["draws"]) fun _ _ _ _ _ _ us hl => match us, hl with | [_], _ => rfl
  have F14 := fun_mk (st := s__law_good) l14 c14 k14
  have b14 := F14.binds (ps := ["draws"]) fun _ _ _ _ _ _ us hl => match us, hl with | [_], _ => rfl
  have F15 := fun_mk (st := s_law) l15 c15 k15
  have b15 := F15.binds (ps := ["script"]) fun _ _ _ _ _ _ us hl => match us, hl with | [_], _ => rfl
  have Qc0 : ConOk K "PERCENT" (.int 37) := con_flat v0 x0
  have Qc1 : ConOk K "BACKSLASH" (.int 92) := con_flat v1 x1
  have Qc2 : ConOk K "LONGEST" (.int 40) := con_flat v2 x2
  have Qc3 : ConOk K "LETTERS" (.str [97, 98, 99, 100, 101, 102, 103, 104, 105, 106, 107, 108, 109, 110, 111, 112, 113, 114, 115, 116, 117, 118, 119, 120, 121, 122, 65, 66, 67, 68, 69, 70, 71, 72, 73, 74, 75, 76, 77, 78, 79, 80, 81, 82, 83, 84, 85, 86, 87, 88, 89, 90]) := con_flat v3 x3
  have Qc4 : ConOk K "DIGITS" (.str [48, 49, 50, 51, 52, 53, 54, 55, 56, 57]) := con_flat v4 x4
  have Qc5 : ConOk K "MOST" (.int 1000000000000) := con_flat v5 x5
  have Qc6 : ConOk K "KEYWORDS" (.tup [(.str [101, 118, 101, 110, 116]), (.str [100, 101, 102]), (.str [119, 97, 116, 99, 104]), (.str [110, 117, 109, 98, 101, 114]), (.str [119, 111, 114, 100]), (.str [105, 109, 112, 108, 105, 101, 115]), (.str [111, 114]), (.str [97, 110, 100]), (.str [115, 105, 110, 99, 101]), (.str [117, 110, 116, 105, 108]), (.str [110, 111, 116]), (.str [115, 111, 109, 101]), (.str [97, 108, 108]), (.str [98, 101, 102, 111, 114, 101]), (.str [110, 101, 120, 116]), (.str [111, 110, 99, 101]), (.str [104, 101, 108, 100]), (.str [115, 111, 111, 110]), (.str [107, 101, 112, 116]), (.str [99, 111, 117, 110, 116]), (.str [115, 117, 109]), (.str [108, 101, 97, 115, 116]), (.str [109, 111, 115, 116]), (.str [111, 102]), (.str [116, 114, 117, 101]), (.str [102, 97, 108, 115, 101])]) := con_tup v6 w6 y6 x6
  have Qc7 : ConOk K "SHORT_SIGNS" (.str [40, 41, 91, 93, 44, 59, 46, 42, 61, 60, 43, 45]) := con_flat v7 x7
  have Qc8 : ConOk K "LONG_SIGNS" (.tup [(.str [60, 61])]) := con_tup v8 w8 y8 x8
  have D : ∀ base : Heap, AllI (fun i x => ∃ fn f fd N ps st, md.code[i]? = some fn ∧ DefOk P w K mg base md x fn f fd N ps st) 0 md.fns := fun base =>
    ⟨⟨fn__law_mix, f0, _, ["cell", "k", "low"], ["cell", "k"], s__law_mix, rfl, ⟨F0, PySem.W.mg_of X G a0, b0, sc__law_mix, rfl, rfl, der__law_mix f0⟩⟩, ⟨fn__law_stream, f1, _, ["script", "most", "row", "k", "rest", "j"], ["script", "most"], s__law_stream, rfl, ⟨F1, PySem.W.mg_of X G a1, b1, sc__law_stream, rfl, rfl, der__law_stream f1⟩⟩, ⟨fn__law_pick, f2, _, ["draws", "many", "at", "number"], ["draws", "many"], s__law_pick, rfl, ⟨F2, PySem.W.mg_of X G a2, b2, sc__law_pick, rfl, rfl, der__law_pick f2⟩⟩, ⟨fn__comment_end, f3, _, ["text", "start", "end"], ["text", "start"], s__comment_end, rfl, ⟨F3, PySem.W.mg_of X G a3, b3, sc__comment_end, rfl, rfl, der__comment_end f3⟩⟩, ⟨fn_is_sign, f4, _, ["char"], ["char"], s_is_sign, rfl, ⟨F4, PySem.W.mg_of X G a4, b4, sc_is_sign, rfl, rfl, der_is_sign f4⟩⟩, ⟨fn__quoted, f5, _, ["text", "start", "row", "column", "end"], ["text", "start", "row", "column"], s__quoted, rfl, ⟨F5, PySem.W.mg_of X G a5, b5, sc__quoted, rfl, rfl, der__quoted f5⟩⟩, ⟨fn_word_end, f6, _, ["text", "start", "end"], ["text", "start"], s_word_end, rfl, ⟨F6, PySem.W.mg_of X G a6, b6, sc_word_end, rfl, rfl, der_word_end f6⟩⟩, ⟨fn_is_number, f7, _, ["word", "char"], ["word"], s_is_number, rfl, ⟨F7, PySem.W.mg_of X G a7, b7, sc_is_number, rfl, rfl, der_is_number f7⟩⟩, ⟨fn__word_kind, f8, _, ["word", "row", "column"], ["word", "row", "column"], s__word_kind, rfl, ⟨F8, PySem.W.mg_of X G a8, b8, sc__word_kind, rfl, rfl, der__word_kind f8⟩⟩, ⟨fn__token_at, f9, _, ["text", "start", "row", "column", "char", "word", "quoted"], ["text", "start", "row", "column"], s__token_at, rfl, ⟨F9, PySem.W.mg_of X G a9, b9, sc__token_at, rfl, rfl, der__token_at f9⟩⟩, ⟨fn_tokens, f10, _, ["text", "found", "at", "row", "begin", "token"], ["text"], s_tokens, rfl, ⟨F10, PySem.W.mg_of X G a10, b10, sc_tokens, rfl, rfl, der_tokens f10⟩⟩, ⟨fn__law_told, f11, _, ["text", "e"], ["text"], s__law_told, rfl, ⟨F11, PySem.W.mg_of X G a11, b11, sc__law_told, rfl, rfl, der__law_told f11⟩⟩, ⟨fn__law_bad, f12, _, ["draws", "pick", "signs", "words", "quotes"], ["draws"], s__law_bad, rfl, ⟨F12, PySem.W.mg_of X G a12, b12, sc__law_bad, rfl, rfl, der__law_bad f12⟩⟩, ⟨fn__law_between, f13, _, ["draws"], ["draws"], s__law_between, rfl, ⟨F13, PySem.W.mg_of X G a13, b13, sc__law_between, rfl, rfl, der__law_between f13⟩⟩, ⟨fn__law_good, f14, _, ["draws", "words"], ["draws"], s__law_good, rfl, ⟨F14, PySem.W.mg_of X G a14, b14, sc__law_good, rfl, rfl, der__law_good f14⟩⟩, ⟨fn_law, fa, _, ["script", "draws", "text", "many", "k", "turn", "kind", "word", "row", "column", "rest", "sign", "head"], ["script"], s_law, rfl, ⟨F15, PySem.W.mg_of X G a15, b15, sc_law, rfl, rfl, der_law fa⟩⟩, trivial⟩
  have Cs : AllI (fun _ x => ∃ u, mg x = some u ∧ RelV (gvK K x) u) 0 md.cons := ⟨(have ⟨u, h1, h2, _⟩ := Qc0; ⟨u, PySem.W.mg_of X G h1, h2⟩), (have ⟨u, h1, h2, _⟩ := Qc1; ⟨u, PySem.W.mg_of X G h1, h2⟩), (have ⟨u, h1, h2, _⟩ := Qc2; ⟨u, PySem.W.mg_of X G h1, h2⟩), (have ⟨u, h1, h2, _⟩ := Qc3; ⟨u, PySem.W.mg_of X G h1, h2⟩), (have ⟨u, h1, h2, _⟩ := Qc4; ⟨u, PySem.W.mg_of X G h1, h2⟩), (have ⟨u, h1, h2, _⟩ := Qc5; ⟨u, PySem.W.mg_of X G h1, h2⟩), (have ⟨u, h1, h2, _⟩ := Qc6; ⟨u, PySem.W.mg_of X G h1, h2⟩), (have ⟨u, h1, h2, _⟩ := Qc7; ⟨u, PySem.W.mg_of X G h1, h2⟩), (have ⟨u, h1, h2, _⟩ := Qc8; ⟨u, PySem.W.mg_of X G h1, h2⟩), trivial⟩
  have Vs : AllI (fun i d => ∀ G, Rp K G d (gvK K (md.cons[i]?.getD ""))) 0 md.vals := ⟨(have ⟨_, _, _, h3⟩ := Qc0; h3), (have ⟨_, _, _, h3⟩ := Qc1; h3), (have ⟨_, _, _, h3⟩ := Qc2; h3), (have ⟨_, _, _, h3⟩ := Qc3; h3), (have ⟨_, _, _, h3⟩ := Qc4; h3), (have ⟨_, _, _, h3⟩ := Qc5; h3), (have ⟨_, _, _, h3⟩ := Qc6; h3), (have ⟨_, _, _, h3⟩ := Qc7; h3), (have ⟨_, _, _, h3⟩ := Qc8; h3), trivial⟩
  have Bs : AllI (fun _ x => mg x = none) 0 md.blts := ⟨PySem.W.mg_none_of X G z0, PySem.W.mg_none_of X G z1, PySem.W.mg_none_of X G z2, PySem.W.mg_none_of X G z3, PySem.W.mg_none_of X G z4, PySem.W.mg_none_of X G z5, trivial⟩
  have q0 : clsK K "BadCharacter" = C0 := by unfold clsK; rw [e0]
  have q1 : clsK K "BadNumber" = C1 := by unfold clsK; rw [e1]
  have q2 : clsK K "BadQuote" = C2 := by unfold clsK; rw [e2]
  have q3 : clsK K "TextError" = C3 := by unfold clsK; rw [e3]
  have q4 : clsK K "WatchError" = C4 := by unfold clsK; rw [e4]
  have q5 : clsK K "Unexpected" = C5 := by unfold clsK; rw [e5]
  have O0 : ClsOk K "row" "column" C0 := ⟨⟨⟨_, _, _, _, _, _, _, _, _, _, _, _, _, _, _, x0L, r0L⟩, s0A, b0X, t0X, k0C⟩, n0A, n0B, ⟨g0A, g0B, b0X, h0X, a0C, sG, sT, o0C⟩⟩
  have O1 : ClsOk K "row" "column" C1 := ⟨⟨⟨_, _, _, _, _, _, _, _, _, _, _, _, _, _, _, x1L, r1L⟩, s1A, b1X, t1X, k1C⟩, n1A, n1B, ⟨g1A, g1B, b1X, h1X, a1C, sG, sT, o1C⟩⟩
  have O2 : ClsOk K "row" "column" C2 := ⟨⟨⟨_, _, _, _, _, _, _, _, _, _, _, _, _, _, _, x2L, r2L⟩, s2A, b2X, t2X, k2C⟩, n2A, n2B, ⟨g2A, g2B, b2X, h2X, a2C, sG, sT, o2C⟩⟩
  have FI := fun_mk (st := s_init) lI cI kI
  have bI := FI.binds (ps := ["self", "row", "column"]) fun _ _ _ _ _ _ us hl => match us, hl with | [_, _, _], _ => rfl
  have hB := PySem.W.mg_of X G eB
  have GI : ∀ base : Heap, FnOk P w K mg base (L2.CX P w) 1 fI _ ["self", "row", "column"] (spXI K "row" "column") := fun base => init_ok FI sc_init rfl rfl fun cdv A outer s H E => der_init fI cdv A outer s H E hB rB gB vB
  have Es : AllI (fun _ x => mg x = some (.ref (clsK K x))) 0 md.clss := ⟨(show mg "BadCharacter" = some (.ref (clsK K "BadCharacter")) from by rw [q0]; exact PySem.W.mg_of X G e0), (show mg "BadNumber" = some (.ref (clsK K "BadNumber")) from by rw [q1]; exact PySem.W.mg_of X G e1), (show mg "BadQuote" = some (.ref (clsK K "BadQuote")) from by rw [q2]; exact PySem.W.mg_of X G e2), (show mg "TextError" = some (.ref (clsK K "TextError")) from by rw [q3]; exact PySem.W.mg_of X G e3), (show mg "WatchError" = some (.ref (clsK K "WatchError")) from by rw [q4]; exact PySem.W.mg_of X G e4), (show mg "Unexpected" = some (.ref (clsK K "Unexpected")) from by rw [q5]; exact PySem.W.mg_of X G e5), trivial⟩
  have Ks : ∀ base : Heap, AllI (fun i x => md.clss[i]? = some x ∧ ClsOk K md.f1 md.f2 (clsK K x) ∧ ∃ (fI : Addr) (fd : FuncData) (ps : List Str), PySem.W.findIn K (.ref (clsK K x)) "__init__" = some (some (.ref fI)) ∧ PySem.W.typeIn K (.ref fI) = some (.type "function") ∧ FnOk P w K mg base (L2.CX P w) 1 fI fd ps (spXI K md.f1 md.f2) ∧ Binds K fd ps []) 0 md.mks := fun base => ⟨⟨rfl, (show ClsOk K "row" "column" (clsK K "BadCharacter") from by rw [q0]; exact O0), fI, _, _, (show PySem.W.findIn K (.ref (clsK K "BadCharacter")) "__init__" = some (some (.ref fI)) from by rw [q0]; exact i0C), tI, GI base, bI⟩, ⟨rfl, (show ClsOk K "row" "column" (clsK K "BadNumber") from by rw [q1]; exact O1), fI, _, _, (show PySem.W.findIn K (.ref (clsK K "BadNumber")) "__init__" = some (some (.ref fI)) from by rw [q1]; exact i1C), tI, GI base, bI⟩, ⟨rfl, (show ClsOk K "row" "column" (clsK K "BadQuote") from by rw [q2]; exact O2), fI, _, _, (show PySem.W.findIn K (.ref (clsK K "BadQuote")) "__init__" = some (some (.ref fI)) from by rw [q2]; exact i2C), tI, GI base, bI⟩, trivial⟩
  have Ss : AllI (fun i row => AllI (fun j b => SubOk K (clsK K (md.clss[i]?.getD "")) (clsK K (md.clss[j]?.getD "")) b) 0 row) 0 md.subs := ⟨⟨(show SubOk K (clsK K "BadCharacter") (clsK K "BadCharacter") true from by rw [q0]; exact sub_mk b0X h0X t0X u0_0 u0_0), (show SubOk K (clsK K "BadCharacter") (clsK K "BadNumber") false from by rw [q0, q1]; exact sub_mk b1X h1X t1X u0_0 u0_1), (show SubOk K (clsK K "BadCharacter") (clsK K "BadQuote") false from by rw [q0, q2]; exact sub_mk b2X h2X t2X u0_0 u0_2), (show SubOk K (clsK K "BadCharacter") (clsK K "TextError") true from by rw [q0, q3]; exact sub_mk b3X h3X t3X u0_0 u0_3), (show SubOk K (clsK K "BadCharacter") (clsK K "WatchError") true from by rw [q0, q4]; exact sub_mk b4X h4X t4X u0_0 u0_4), (show SubOk K (clsK K "BadCharacter") (clsK K "Unexpected") false from by rw [q0, q5]; exact sub_mk b5X h5X t5X u0_0 u0_5), trivial⟩, ⟨(show SubOk K (clsK K "BadNumber") (clsK K "BadCharacter") false from by rw [q1, q0]; exact sub_mk b0X h0X t0X u1_1 u1_0), (show SubOk K (clsK K "BadNumber") (clsK K "BadNumber") true from by rw [q1]; exact sub_mk b1X h1X t1X u1_1 u1_1), (show SubOk K (clsK K "BadNumber") (clsK K "BadQuote") false from by rw [q1, q2]; exact sub_mk b2X h2X t2X u1_1 u1_2), (show SubOk K (clsK K "BadNumber") (clsK K "TextError") true from by rw [q1, q3]; exact sub_mk b3X h3X t3X u1_1 u1_3), (show SubOk K (clsK K "BadNumber") (clsK K "WatchError") true from by rw [q1, q4]; exact sub_mk b4X h4X t4X u1_1 u1_4), (show SubOk K (clsK K "BadNumber") (clsK K "Unexpected") false from by rw [q1, q5]; exact sub_mk b5X h5X t5X u1_1 u1_5), trivial⟩, ⟨(show SubOk K (clsK K "BadQuote") (clsK K "BadCharacter") false from by rw [q2, q0]; exact sub_mk b0X h0X t0X u2_2 u2_0), (show SubOk K (clsK K "BadQuote") (clsK K "BadNumber") false from by rw [q2, q1]; exact sub_mk b1X h1X t1X u2_2 u2_1), (show SubOk K (clsK K "BadQuote") (clsK K "BadQuote") true from by rw [q2]; exact sub_mk b2X h2X t2X u2_2 u2_2), (show SubOk K (clsK K "BadQuote") (clsK K "TextError") true from by rw [q2, q3]; exact sub_mk b3X h3X t3X u2_2 u2_3), (show SubOk K (clsK K "BadQuote") (clsK K "WatchError") true from by rw [q2, q4]; exact sub_mk b4X h4X t4X u2_2 u2_4), (show SubOk K (clsK K "BadQuote") (clsK K "Unexpected") false from by rw [q2, q5]; exact sub_mk b5X h5X t5X u2_2 u2_5), trivial⟩, trivial⟩
  have Su : ∀ (i j : Nat) (b : Bool), md.sub i j = some b → i < md.mks.length ∧ SubOk K (clsK K (md.clss[i]?.getD "")) (clsK K (md.clss[j]?.getD "")) b := fun i j b h => by
    obtain ⟨row, h1, h2⟩ := Option.bind_eq_some_iff.mp h
    exact ⟨(List.getElem?_eq_some_iff.mp h1).1, (Ss.get h1).get h2⟩
  have M : ∀ base : Heap, ModOk P w K mg base md := fun base => ⟨fun i x e => (D base).get e, fun i x e => Cs.get e, fun i d e => Vs.get e, fun i x e => Bs.get e, fun i x e => Es.get e, fun i x e => (Ks base).get e, Su, by decide⟩
  exact ⟨_, fun s v => .of_eq rfl, fun base _ _ => DefOk.up (M base) (k := depth) (fn := fn_law) ⟨F15, PySem.W.mg_of X G a15, b15, sc_law, rfl, rfl, der_law fa⟩ rfl ((M base).all depth)⟩
end K01
/-! Sheetwatch k01: what the defs of the law's own side compute. -/
namespace K01
open Mp PySem L2
def C (k : Nat) : Cn := { call := callN (fun i => md.vals[i]?) md.sub (fun i => md.code[i]?) k, gl := fun i => md.vals[i]?, sub := md.sub }
theorem C_call {k f : Nat} {fn : Fn} {as : En} (h : md.code[f]? = some fn) : (C (k + 1)).call f as = runF (C k) fn as := by
  show callN _ _ _ (k + 1) f as = _
  unfold callN
  rw [h]
  rfl
def mix (a b : Int) : Int := ((((a * 48271 + b * 69621 + 11) % 2147483647) * ((a * 48271 + b * 69621 + 11) % 2147483647) + a * 40692 + b * 7 + 3) % 1000003) % 1000
theorem mulR {a b : Int} (h : -(2 ^ 64) < b ∧ b < 2 ^ 64) : mulD (.int a) (.int b) = some (.int (a * b)) := by
  show (if (decide (-(2 ^ 64) < a) && decide (a < 2 ^ 64)) || (decide (-(2 ^ 64) < b) && decide (b < 2 ^ 64)) then some (D.int (a * b)) else none) = _
  rw [if_pos]
  rw [decide_eq_true h.1, decide_eq_true h.2, Bool.and_self, Bool.or_true]
theorem mulL {a b : Int} (h : -(2 ^ 64) < a ∧ a < 2 ^ 64) : mulD (.int a) (.int b) = some (.int (a * b)) := by
  show (if (decide (-(2 ^ 64) < a) && decide (a < 2 ^ 64)) || (decide (-(2 ^ 64) < b) && decide (b < 2 ^ 64)) then some (D.int (a * b)) else none) = _
  rw [if_pos]
  rw [decide_eq_true h.1, decide_eq_true h.2, Bool.and_self, Bool.true_or]
theorem mix_run (c : Cn) (a b : Int) : runF c fn__law_mix [.da (.int a), .da (.int b)] = .ok (.da (.int (mix a b))) [.da (.int a), .da (.int b)] := by
  have h1 : ∀ x : Int, -(2 ^ 64) < x % 2147483647 ∧ x % 2147483647 < 2 ^ 64 := fun x => by omega
  have m1 : mulD (.int a) (.int 48271) = some (.int (a * 48271)) := mulR (by decide)
  have m2 : mulD (.int b) (.int 69621) = some (.int (b * 69621)) := mulR (by decide)
  have m3 : mulD (.int a) (.int 40692) = some (.int (a * 40692)) := mulR (by decide)
  have m4 : mulD (.int b) (.int 7) = some (.int (b * 7)) := mulR (by decide)
  have m5 : ∀ x : Int, mulD (.int (x % 2147483647)) (.int (x % 2147483647)) = some (.int (x % 2147483647 * (x % 2147483647))) := fun x => mulR (h1 x)
  simp [runF, fn__law_mix, code__law_mix, Ss.run, S_.run, E.run, Es.run, R.bind, R.of, Op2.run, addD, i2, Bif.run, ioOk, isOw, flat, Pt.run, outs, m1, m2, m3, m4, m5, mix, List.range, List.range.loop]
theorem mix_call (k : Nat) (a b : Int) : (C (k + 1)).call 0 [.da (.int a), .da (.int b)] = .ok (.da (.int (mix a b))) [.da (.int a), .da (.int b)] := (C_call rfl).trans (mix_run _ a b)
/-- the law's draws -/
abbrev DR (rs : List Int) (at_ s : Int) : Sl := .ow (.dk [(.inr [114, 111, 119], .lst (rs.map D.int)), (.inr [97, 116], .int at_), (.inr [115, 101, 101, 100], .int s)])
def pickV (rs : List Int) (i : Nat) (s many : Int) : Int := (if i < rs.length then rs.getD i 0 else mix s i) % many
theorem pickV_lt {rs : List Int} {i : Nat} {s many : Int} (h : 0 < many) : 0 ≤ pickV rs i s many ∧ pickV rs i s many < many := ⟨Int.emod_nonneg _ (by omega), Int.emod_lt_of_pos _ h⟩
theorem atI_nat' {α : Type} (l : List α) (i : Nat) (h : i < l.length) : atI l (i : Int) = some l[i] := by
  unfold atI ixN
  simp [h]
theorem pick_run (k : Nat) (rs : List Int) (i : Nat) (s many : Int) (h : 0 < many) : runF (C (k + 1)) fn__law_pick [DR rs i s, .da (.int many)] = .ok (.da (.int (pickV rs i s many))) [DR rs (i + 1 : Nat) s, .da (.int many)] := by
  have m := mix_call k s i
  by_cases hi : i < rs.length
  · have g : atI (rs.map D.int) (i : Int) = some (.int (rs.getD i 0)) := by
      rw [atI_nat' _ _ (by rw [List.length_map]; exact hi)]
      simp [hi]
    have hi2 : (i : Int) < (rs.length : Int) := by omega
    simp [runF, fn__law_pick, code__law_pick, Ss.run, S_.run, E.run, Es.run, As.run, T.run, R.bind, R.of, Op2.run, addD, i2, Bif.run, ioOk, isOw, flat, Pt.run, outs, List.range, List.range.loop, lookK, getD', kyD, putKy, callR, refsOf, resolve, m, keepOw, putBack, ordD, lenD, idxD, g, hi, hi2, pickV, h]
  · have hi2 : ¬ (i : Int) < (rs.length : Int) := by omega
    simp [runF, fn__law_pick, code__law_pick, Ss.run, S_.run, E.run, Es.run, As.run, T.run, R.bind, R.of, Op2.run, addD, i2, Bif.run, ioOk, isOw, flat, Pt.run, outs, List.range, List.range.loop, lookK, getD', kyD, putKy, callR, refsOf, resolve, m, keepOw, putBack, ordD, lenD, idxD, hi, hi2, pickV, h]
theorem pick_call (k : Nat) (rs : List Int) (i : Nat) (s many : Int) (h : 0 < many) : (C (k + 2)).call 2 [DR rs i s, .da (.int many)] = .ok (.da (.int (pickV rs i s many))) [DR rs (i + 1 : Nat) s, .da (.int many)] := (C_call rfl).trans (pick_run k rs i s many h)
end K01
/-! Sheetwatch k01: the draws. -/
namespace K01
open Mp PySem L2
def NO (s : Sl) : Prop := ∀ c, s ≠ .ow c
theorem NO.no : NO .no := fun _ h => nomatch h
theorem NO.da {d : D} : NO (.da d) := fun _ h => nomatch h
theorem b1_loop (k : Nat) (A : D) (kk : Sl) : ∀ (items : List Int) (rs : List Int) (rest : Int) (j : Sl), NO j → ∃ (rs' : List Int) (rest' : Int) (j' : Sl), NO j' ∧
    forRun (.nm 5) (b1__law_stream.run (C k) []) (items.map D.int) [.da A, .da (.int 200), .ow (.ls (rs.map D.int)), kk, .da (.int rest), j] = .ok .nxt [.da A, .da (.int 200), .ow (.ls (rs'.map D.int)), kk, .da (.int rest'), j']
  | [], rs, rest, j, hj => ⟨rs, rest, j, hj, rfl⟩
  | i :: is, rs, rest, j, hj => by
    have hp : Pt.run (.nm 5) (.int i) [.da A, .da (.int 200), .ow (.ls (rs.map D.int)), kk, .da (.int rest), j] = .ok () [.da A, .da (.int 200), .ow (.ls (rs.map D.int)), kk, .da (.int rest), .da (.int i)] := by
      cases j with
      | ow c => exact absurd rfl (hj c)
      | no => rfl
      | ex => rfl
      | da d => rfl
    by_cases h1 : 0 < rest
    · by_cases h2 : (rs.length : Int) < 200
      · have h3 : rs.length < 16777216 := by omega
        obtain ⟨rs', rest', j', n', e⟩ := b1_loop k A kk is (rs ++ [rest % 1000]) (rest / 1000) (.da (.int i)) NO.da
        rw [List.map_append] at e
        refine ⟨rs', rest', j', n', Eq.trans ?_ e⟩
        rw [List.map_cons]
        conv => lhs; unfold forRun
        rw [hp]
        simp [b1__law_stream, runF, Ss.run, S_.run, E.run, Es.run, As.run, T.run, Ts.run, It.run, OE.run, F.run, pairsRun, R.bind, R.of, R.noEr, Op2.run, addD, i2, Bif.run, ioOk, isOw, hasV, getL, flat, Pt.run, outs, List.range, List.range.loop, lookK, getD', kyD, putKy, callR, refsOf, resolve, keepOw, putBack, ordD, lenD, idxD, truD, small, rngD, setAll, itemsD, Mth.run, sliceD, h1, h2, h3]
      · obtain ⟨rs', rest', j', n', e⟩ := b1_loop k A kk is rs rest (.da (.int i)) NO.da
        refine ⟨rs', rest', j', n', Eq.trans ?_ e⟩
        rw [List.map_cons]
        conv => lhs; unfold forRun
        rw [hp]
        simp [b1__law_stream, runF, Ss.run, S_.run, E.run, Es.run, As.run, T.run, Ts.run, It.run, OE.run, F.run, pairsRun, R.bind, R.of, R.noEr, Op2.run, addD, i2, Bif.run, ioOk, isOw, hasV, getL, flat, Pt.run, outs, List.range, List.range.loop, lookK, getD', kyD, putKy, callR, refsOf, resolve, keepOw, putBack, ordD, lenD, idxD, truD, small, rngD, setAll, itemsD, Mth.run, sliceD, h1, h2]
    · obtain ⟨rs', rest', j', n', e⟩ := b1_loop k A kk is rs rest (.da (.int i)) NO.da
      refine ⟨rs', rest', j', n', Eq.trans ?_ e⟩
      rw [List.map_cons]
      conv => lhs; unfold forRun
      rw [hp]
      simp [b1__law_stream, runF, Ss.run, S_.run, E.run, Es.run, As.run, T.run, Ts.run, It.run, OE.run, F.run, pairsRun, R.bind, R.of, R.noEr, Op2.run, addD, i2, Bif.run, ioOk, isOw, hasV, getL, flat, Pt.run, outs, List.range, List.range.loop, lookK, getD', kyD, putKy, callR, refsOf, resolve, keepOw, putBack, ordD, lenD, idxD, truD, small, rngD, setAll, itemsD, Mth.run, sliceD, h1]
theorem b2_loop (k : Nat) (A : D) (kk rest : Int) : ∀ (items : List Int) (rs : List Int) (j : Sl), NO j → ∃ (rs' : List Int) (j' : Sl), NO j' ∧
    forRun (.nm 5) (b2__law_stream.run (C (k + 1)) []) (items.map D.int) [.da A, .da (.int 200), .ow (.ls (rs.map D.int)), .da (.int kk), .da (.int rest), j] = .ok .nxt [.da A, .da (.int 200), .ow (.ls (rs'.map D.int)), .da (.int kk), .da (.int rest), j']
  | [], rs, j, hj => ⟨rs, j, hj, rfl⟩
  | i :: is, rs, j, hj => by
    have hp : Pt.run (.nm 5) (.int i) [.da A, .da (.int 200), .ow (.ls (rs.map D.int)), .da (.int kk), .da (.int rest), j] = .ok () [.da A, .da (.int 200), .ow (.ls (rs.map D.int)), .da (.int kk), .da (.int rest), .da (.int i)] := by
      cases j with
      | ow c => exact absurd rfl (hj c)
      | no => rfl
      | ex => rfl
      | da d => rfl
    by_cases h2 : (rs.length : Int) < 200
    · have h3 : rs.length < 16777216 := by omega
      obtain ⟨rs', j', n', e⟩ := b2_loop k A kk rest is (rs ++ [mix rest (64 * i + kk)]) (.da (.int i)) NO.da
      rw [List.map_append] at e
      have m := mix_call k rest (64 * i + kk)
      have mm : mulD (.int 64) (.int i) = some (.int (64 * i)) := by
        exact mulL (by decide)
      refine ⟨rs', j', n', Eq.trans ?_ e⟩
      rw [List.map_cons]
      conv => lhs; unfold forRun
      rw [hp]
      simp [b2__law_stream, runF, Ss.run, S_.run, E.run, Es.run, As.run, T.run, Ts.run, It.run, OE.run, F.run, pairsRun, R.bind, R.of, R.noEr, Op2.run, addD, i2, Bif.run, ioOk, isOw, hasV, getL, flat, Pt.run, outs, List.range, List.range.loop, lookK, getD', kyD, putKy, callR, refsOf, resolve, keepOw, putBack, ordD, lenD, idxD, truD, small, rngD, setAll, itemsD, Mth.run, sliceD, h2, h3, m, mm]
    · obtain ⟨rs', j', n', e⟩ := b2_loop k A kk rest is rs (.da (.int i)) NO.da
      refine ⟨rs', j', n', Eq.trans ?_ e⟩
      rw [List.map_cons]
      conv => lhs; unfold forRun
      rw [hp]
      simp [b2__law_stream, runF, Ss.run, S_.run, E.run, Es.run, As.run, T.run, Ts.run, It.run, OE.run, F.run, pairsRun, R.bind, R.of, R.noEr, Op2.run, addD, i2, Bif.run, ioOk, isOw, hasV, getL, flat, Pt.run, outs, List.range, List.range.loop, lookK, getD', kyD, putKy, callR, refsOf, resolve, keepOw, putBack, ordD, lenD, idxD, truD, small, rngD, setAll, itemsD, Mth.run, sliceD, h2]
theorem b3_loop (k : Nat) (ns : List Int) : ∀ (items : List Nat) (rs : List Int) (s3 s4 s5 : Sl), (∀ i ∈ items, i < ns.length) → NO s3 → NO s4 → NO s5 → ∃ (rs' : List Int) (s3' s4' s5' : Sl), NO s3' ∧ NO s4' ∧ NO s5' ∧
    forRun (.nm 3) (b3__law_stream.run (C (k + 1)) []) (items.map fun i => D.int (i : Nat)) [.da (.fls (ns.map D.int)), .da (.int 200), .ow (.ls (rs.map D.int)), s3, s4, s5] = .ok .nxt [.da (.fls (ns.map D.int)), .da (.int 200), .ow (.ls (rs'.map D.int)), s3', s4', s5']
  | [], rs, s3, s4, s5, _, n3, n4, n5 => ⟨rs, s3, s4, s5, n3, n4, n5, rfl⟩
  | i :: is, rs, s3, s4, s5, hi, n3, n4, n5 => by
    have hp : Pt.run (.nm 3) (.int (i : Nat)) [.da (.fls (ns.map D.int)), .da (.int 200), .ow (.ls (rs.map D.int)), s3, s4, s5] = .ok () [.da (.fls (ns.map D.int)), .da (.int 200), .ow (.ls (rs.map D.int)), .da (.int (i : Nat)), s4, s5] := by
      cases s3 with
      | ow c => exact absurd rfl (n3 c)
      | no => rfl
      | ex => rfl
      | da d => rfl
    have hlt := hi i List.mem_cons_self
    have g : atI (ns.map D.int) (i : Int) = some (.int ns[i]) := by
      rw [atI_nat' _ _ (by rw [List.length_map]; exact hlt)]
      simp
    have hset : ∀ d, Pt.run (.nm 4) d [.da (.fls (ns.map D.int)), .da (.int 200), .ow (.ls (rs.map D.int)), .da (.int (i : Nat)), s4, s5] = .ok () [.da (.fls (ns.map D.int)), .da (.int 200), .ow (.ls (rs.map D.int)), .da (.int (i : Nat)), .da d, s5] := fun d => by
      cases s4 with
      | ow c => exact absurd rfl (n4 c)
      | no => rfl
      | ex => rfl
      | da d => rfl
    -- the body
    have body : ∃ (rs' : List Int) (r' : Int) (j' : Sl), NO j' ∧ b3__law_stream.run (C (k + 1)) [] [.da (.fls (ns.map D.int)), .da (.int 200), .ow (.ls (rs.map D.int)), .da (.int (i : Nat)), s4, s5] = .ok .nxt [.da (.fls (ns.map D.int)), .da (.int 200), .ow (.ls (rs'.map D.int)), .da (.int (i : Nat)), .da (.int r'), j'] := by
      have r60 : rngD 0 60 = ((List.range 60).map fun (i : Nat) => (i : Int)).map D.int := by rfl
      have r3 : rngD 0 3 = ((List.range 3).map fun (i : Nat) => (i : Int)).map D.int := by rfl
      by_cases hb : (10 : Int) ^ 18 ≤ ns[i]
      · obtain ⟨rs', r', j', n', e⟩ := b1_loop (k + 1) (.fls (ns.map D.int)) (.da (.int (i : Nat))) ((List.range 60).map fun (i : Nat) => (i : Int)) rs ns[i] s5 n5
        rw [← r60] at e
        refine ⟨rs', r', j', n', ?_⟩
        have hb' : (1000000000000000000 : Int) ≤ ns[i] := by simpa using hb
        simp [b3__law_stream, runF, Ss.run, S_.run, E.run, Es.run, As.run, T.run, Ts.run, It.run, OE.run, F.run, pairsRun, R.bind, R.of, R.noEr, Op2.run, addD, i2, Bif.run, ioOk, isOw, hasV, getL, flat, outs, List.range, List.range.loop, lookK, getD', kyD, putKy, callR, refsOf, resolve, keepOw, putBack, ordD, lenD, idxD, truD, small, setAll, itemsD, Mth.run, sliceD, g, hset, hb, hb', e]
      · obtain ⟨rs', j', n', e⟩ := b2_loop k (.fls (ns.map D.int)) (i : Nat) ns[i] ((List.range 3).map fun (i : Nat) => (i : Int)) rs s5 n5
        rw [← r3] at e
        refine ⟨rs', ns[i], j', n', ?_⟩
        have hb' : ¬ (1000000000000000000 : Int) ≤ ns[i] := by simpa using hb
        simp [b3__law_stream, runF, Ss.run, S_.run, E.run, Es.run, As.run, T.run, Ts.run, It.run, OE.run, F.run, pairsRun, R.bind, R.of, R.noEr, Op2.run, addD, i2, Bif.run, ioOk, isOw, hasV, getL, flat, outs, List.range, List.range.loop, lookK, getD', kyD, putKy, callR, refsOf, resolve, keepOw, putBack, ordD, lenD, idxD, truD, small, setAll, itemsD, Mth.run, sliceD, g, hset, hb, hb', e]
    obtain ⟨rs1, r1, j1, nj, eb⟩ := body
    obtain ⟨rs', s3', s4', s5', m3, m4, m5, e⟩ := b3_loop k ns is rs1 (.da (.int (i : Nat))) (.da (.int r1)) j1 (fun x hx => hi x (List.mem_cons_of_mem _ hx)) NO.da NO.da nj
    refine ⟨rs', s3', s4', s5', m3, m4, m5, Eq.trans ?_ e⟩
    rw [List.map_cons]
    conv => lhs; unfold forRun
    rw [hp]
    show (b3__law_stream.run (C (k + 1)) [] _).bind _ = _
    rw [eb]
    rfl
end K01
/-! Sheetwatch k01: the menus. -/
namespace K01
open Mp PySem L2
theorem stream_call (k : Nat) (ns : List Int) (hn : ns.length ≤ 63) : ∃ rs : List Int, (C (k + 2)).call 1 [.da (.fls (ns.map D.int)), .da (.int 200)] = .ok (DR rs 0 rs.length) [.da (.fls (ns.map D.int)), .da (.int 200)] := by
  have hmin : (if (63 : Int) < (ns.length : Int) then (63 : Int) else (ns.length : Int)) = (ns.length : Int) := if_neg (by omega)
  have hr : rngD 0 (ns.length : Int) = (List.range ns.length).map fun i => D.int (i : Nat) := by
    unfold rngD
    rw [show ((ns.length : Int) - 0).toNat = ns.length by omega]
    refine List.map_congr_left fun i _ => ?_
    rw [Int.zero_add]
  obtain ⟨rs, s3, s4, s5, n3, n4, n5, e⟩ := b3_loop k ns (List.range ns.length) [] .no .no .no (fun i hi => List.mem_range.mp hi) NO.no NO.no NO.no
  rw [← hr, List.map_nil] at e
  have hs : small (ns.length : Int) = true := by
    unfold small
    rw [decide_eq_true (by omega), decide_eq_true (by omega)]
    rfl
  refine ⟨rs, (C_call rfl).trans ?_⟩
  simp [fn__law_stream, code__law_stream, runF, Ss.run, S_.run, E.run, Es.run, As.run, T.run, Ts.run, It.run, OE.run, F.run, pairsRun, R.bind, R.of, R.noEr, Op2.run, addD, i2, Bif.run, ioOk, isOw, hasV, getL, flat, Pt.run, outs, List.range, List.range.loop, lookK, getD', kyD, putKy, callR, refsOf, resolve, keepOw, putBack, ordD, lenD, idxD, truD, setAll, itemsD, Mth.run, sliceD, hmin, hs, e]
theorem eqI (a b : Int) : eqD (.int a) (.int b) = some (decide (a = b)) := rfl
def ok1 (a : List Nat) : Bool := a.all (fun c => decide (c < 1114112))
theorem shpS {a : List Nat} (h : ok1 a = true) : shp (.str a) = true := by
  have h1 := List.all_eq_true.mp h
  simp [shp, D.py, SeqAt.shaped, PyData.canLay0, PyData.depth, PyData.strOk, SX.S]
  intro x hx
  exact of_decide_eq_true (h1 x hx)
theorem eqS {a b : List Nat} (ha : ok1 a = true) (hb : ok1 b = true) : eqD (.str a) (.str b) = some (decide (a = b)) := by
  unfold eqD
  rw [shpS ha, shpS hb, Bool.and_self, if_pos rfl]
  show some (SX.S a == SX.S b) = _
  by_cases h : a = b
  · rw [decide_eq_true h, h, beq_self_eq_true]
  · rw [decide_eq_false h, beq_eq_false_iff_ne.mpr fun z => h (SX.S_inj z)]
theorem pick_any (k : Nat) (rs : List Int) {i : Int} (s : Int) {many : Int} (hi : 0 ≤ i) (h : 0 < many) : ∃ r j : Int, 0 ≤ r ∧ r < many ∧ 0 ≤ j ∧ (C (k + 2)).call 2 [DR rs i s, .da (.int many)] = .ok (.da (.int r)) [DR rs j s, .da (.int many)] := by
  obtain ⟨n, rfl⟩ : ∃ n : Nat, i = n := ⟨i.toNat, by omega⟩
  exact ⟨_, ((n + 1 : Nat) : Int), (pickV_lt h).1, (pickV_lt h).2, by omega, pick_call k rs n s many h⟩
theorem menu (ws : List (List Nat)) {r : Int} (h0 : 0 ≤ r) (h1 : r < ws.length) : ∃ w ∈ ws, atI (ws.map D.str) r = some (.str w) := by
  obtain ⟨i, rfl⟩ : ∃ i : Nat, r = i := ⟨r.toNat, by omega⟩
  have hi : i < ws.length := by omega
  refine ⟨ws[i], List.getElem_mem hi, ?_⟩
  rw [atI_nat' _ _ (by rw [List.length_map]; exact hi)]
  simp
end K01
/-! Sheetwatch k01: parts of the reader of texts. -/
namespace K01
open Mp PySem L2
structure Tx (T : List Nat) : Prop where
  len : T.length ≤ 16777216
  ok : ∀ c ∈ T, c < 1114112
def letters : List Nat := [97, 98, 99, 100, 101, 102, 103, 104, 105, 106, 107, 108, 109, 110, 111, 112, 113, 114, 115, 116, 117, 118, 119, 120, 121, 122, 65, 66, 67, 68, 69, 70, 71, 72, 73, 74, 75, 76, 77, 78, 79, 80, 81, 82, 83, 84, 85, 86, 87, 88, 89, 90]
def digits : List Nat := [48, 49, 50, 51, 52, 53, 54, 55, 56, 57]
def shorts : List Nat := [40, 41, 91, 93, 44, 59, 46, 42, 61, 60, 43, 45]
theorem gl2 (k : Nat) : (C k).gl 2 = some (.int 40) := rfl
theorem gl3 (k : Nat) : (C k).gl 3 = some (.str letters) := rfl
theorem gl4 (k : Nat) : (C k).gl 4 = some (.str digits) := rfl
theorem gl7 (k : Nat) : (C k).gl 7 = some (.str shorts) := rfl
theorem gl8 (k : Nat) : (C k).gl 8 = some (.tup [.str [60, 61]]) := rfl
theorem memC (c : Nat) (l : List Nat) : memD (.str [c]) (.str l) = some (decide (c ∈ l)) := rfl
theorem eqC {c d : Nat} (hc : c < 1114112) (hd : d < 1114112) : eqD (.str [c]) (.str [d]) = some (decide (c = d)) := by
  rw [eqS (by simp [ok1, hc]) (by simp [ok1, hd])]
  simp
theorem at_app (pre r : List Nat) (c : Nat) : atI (pre ++ c :: r) (pre.length : Int) = some c := by
  rw [atI_nat' _ _ (by simp)]
  simp
theorem cut_mid (pre w rest : List Nat) : cutL (pre ++ (w ++ rest)) (some (pre.length : Int)) (some ((pre.length + w.length : Nat) : Int)) = w := by
  unfold cutL
  rw [HT.sIx_nat, HT.sIx_nat]
  rw [Nat.min_eq_left (by simp), Nat.min_eq_left (by simp), List.drop_left, Nat.add_sub_cancel_left, List.take_left]
theorem cut_two (pre r : List Nat) : cutL (pre ++ r) (some (pre.length : Int)) (some ((pre.length + 2 : Nat) : Int)) = r.take 2 := by
  unfold cutL
  rw [HT.sIx_nat, HT.sIx_nat]
  have e : min pre.length (pre ++ r).length = pre.length := Nat.min_eq_left (by simp)
  rw [e, List.drop_left]
  by_cases h : r.length < 2
  · rw [List.take_of_length_le, List.take_of_length_le (by omega)]
    rw [List.length_append]
    omega
  · have e2 : min (pre.length + 2) (pre ++ r).length = pre.length + 2 := Nat.min_eq_left (by rw [List.length_append]; omega)
    rw [e2, Nat.add_sub_cancel_left]
def wc (c : Nat) : Bool := decide (c ∈ letters) || (decide (c ∈ digits) || decide (c = 95))
def stops (p : Nat → Bool) : List Nat → Bool
  | [] => true
  | c :: _ => !p c
theorem we_loop (k : Nat) (st : D) : ∀ (w pre rest : List Nat) (n : Nat), Tx (pre ++ (w ++ rest)) → (∀ c ∈ w, wc c = true) → stops wc rest = true →
    whlRun (t1_word_end.run (C k) []) (b2_word_end.run (C k) []) (n + 1 + w.length) [.da (.str (pre ++ (w ++ rest))), .da st, .da (.int (pre.length : Nat))] =
      .ok .nxt [.da (.str (pre ++ (w ++ rest))), .da st, .da (.int ((pre.length + w.length : Nat) : Int))]
  | [], pre, rest, n, hT, _, hs => by
    unfold whlRun
    cases rest with
    | nil =>
      have hl : pre.length ≤ 16777216 := by simpa using hT.len
      simp [t1_word_end, runF, Ss.run, S_.run, E.run, Es.run, As.run, T.run, Ts.run, It.run, OE.run, F.run, pairsRun, R.bind, R.of, R.noEr, Op2.run, addD, i2, Bif.run, ioOk, isOw, hasV, getL, flat, Pt.run, outs, List.range, List.range.loop, lookK, getD', kyD, putKy, callR, refsOf, resolve, keepOw, putBack, ordD, lenD, idxD, truD, small, rngD, setAll, itemsD, Mth.run, sliceD, hl]
    | cons c r =>
      have hc := hT.ok c (by simp)
      have hl := hT.len
      simp only [List.nil_append] at hl ⊢
      have g := at_app pre r c
      have hs : wc c = false := by simpa [stops] using hs
      unfold wc at hs
      simp only [Bool.or_eq_false_iff, decide_eq_false_iff_not] at hs
      have e := eqC hc (show 95 < 1114112 by decide)
      have hlt : ((pre.length : Nat) : Int) < (((pre ++ c :: r).length : Nat) : Int) := by simp; omega
      generalize hTT : pre ++ c :: r = TT at *
      simp [t1_word_end, runF, Ss.run, S_.run, E.run, Es.run, As.run, T.run, Ts.run, It.run, OE.run, F.run, pairsRun, R.bind, R.of, R.noEr, Op2.run, addD, i2, Bif.run, ioOk, isOw, hasV, getL, flat, Pt.run, outs, List.range, List.range.loop, lookK, getD', kyD, putKy, callR, refsOf, resolve, keepOw, putBack, ordD, lenD, idxD, truD, small, rngD, setAll, itemsD, Mth.run, sliceD, hl, g, hlt, gl3, gl4, memC, e, hs]
  | c :: w, pre, rest, n, hT, hw, hs => by
    have ih := we_loop k st w (pre ++ [c]) rest n (by simpa using hT) (fun x hx => hw x (List.mem_cons_of_mem _ hx)) hs
    rw [show pre ++ [c] ++ (w ++ rest) = pre ++ (c :: w ++ rest) by simp, show (((pre ++ [c]).length : Nat) : Int) = (pre.length : Int) + 1 by simp,
      show ((pre ++ [c]).length + w.length : Nat) = pre.length + (c :: w).length by simp; omega] at ih
    rw [show n + 1 + (c :: w).length = (n + 1 + w.length) + 1 by simp; omega]
    refine Eq.trans ?_ ih
    conv => lhs; unfold whlRun
    have hc := hT.ok c (by simp)
    have hl := hT.len
    have g := at_app pre (w ++ rest) c
    rw [← List.cons_append] at g
    have hs : wc c = true := hw c List.mem_cons_self
    unfold wc at hs
    simp only [Bool.or_eq_true, decide_eq_true_eq] at hs
    have e := eqC hc (show 95 < 1114112 by decide)
    have hlt : ((pre.length : Nat) : Int) < (((pre ++ (c :: w ++ rest)).length : Nat) : Int) := by simp; omega
    generalize hTT : pre ++ (c :: w ++ rest) = TT at *
    by_cases h1 : c ∈ letters
    · simp [t1_word_end, b2_word_end, runF, Ss.run, S_.run, E.run, Es.run, As.run, T.run, Ts.run, It.run, OE.run, F.run, pairsRun, R.bind, R.of, R.noEr, Op2.run, addD, i2, Bif.run, ioOk, isOw, hasV, getL, flat, Pt.run, outs, List.range, List.range.loop, lookK, getD', kyD, putKy, callR, refsOf, resolve, keepOw, putBack, ordD, lenD, idxD, truD, small, rngD, setAll, itemsD, Mth.run, sliceD, hl, g, hlt, gl3, gl4, memC, e, h1]
    · by_cases h2 : c ∈ digits
      · simp [t1_word_end, b2_word_end, runF, Ss.run, S_.run, E.run, Es.run, As.run, T.run, Ts.run, It.run, OE.run, F.run, pairsRun, R.bind, R.of, R.noEr, Op2.run, addD, i2, Bif.run, ioOk, isOw, hasV, getL, flat, Pt.run, outs, List.range, List.range.loop, lookK, getD', kyD, putKy, callR, refsOf, resolve, keepOw, putBack, ordD, lenD, idxD, truD, small, rngD, setAll, itemsD, Mth.run, sliceD, hl, g, hlt, gl3, gl4, memC, e, h1, h2]
      · have h3 : c = 95 := by rcases hs with h | h | h; exact absurd h h1; exact absurd h h2; exact h
        subst h3
        simp [t1_word_end, b2_word_end, runF, Ss.run, S_.run, E.run, Es.run, As.run, T.run, Ts.run, It.run, OE.run, F.run, pairsRun, R.bind, R.of, R.noEr, Op2.run, addD, i2, Bif.run, ioOk, isOw, hasV, getL, flat, Pt.run, outs, List.range, List.range.loop, lookK, getD', kyD, putKy, callR, refsOf, resolve, keepOw, putBack, ordD, lenD, idxD, truD, small, rngD, setAll, itemsD, Mth.run, sliceD, hl, g, hlt, gl3, gl4, memC, e, h1, h2]
theorem wf_split {a : Nat} (h : a ≤ 16777217) : WF = (WF - 1 - a) + 1 + a := by
  have : WF = 100000000 := rfl
  omega
theorem we_call (k : Nat) {w pre rest : List Nat} (hT : Tx (pre ++ (w ++ rest))) (hw : ∀ c ∈ w, wc c = true) (hs : stops wc rest = true) :
    (C (k + 1)).call 6 [.da (.str (pre ++ (w ++ rest))), .da (.int (pre.length : Nat))] = .ok (.da (.int ((pre.length + w.length : Nat) : Int))) [.da (.str (pre ++ (w ++ rest))), .da (.int (pre.length : Nat))] := by
  have hlen : w.length ≤ 16777217 := by have := hT.len; simp at this; omega
  have e := we_loop k (.int (pre.length : Nat)) w pre rest (WF - 1 - w.length) hT hw hs
  rw [← wf_split hlen] at e
  refine (C_call rfl).trans ?_
  simp [fn_word_end, code_word_end, runF, Ss.run, S_.run, E.run, Es.run, As.run, T.run, Ts.run, It.run, OE.run, F.run, pairsRun, R.bind, R.of, R.noEr, Op2.run, addD, i2, Bif.run, ioOk, isOw, hasV, getL, flat, Pt.run, outs, List.range, List.range.loop, lookK, getD', kyD, putKy, callR, refsOf, resolve, keepOw, putBack, ordD, lenD, idxD, truD, small, rngD, setAll, itemsD, Mth.run, sliceD, e]
end K01
/-! Sheetwatch k01: a token at a place. -/
namespace K01
open Mp PySem L2
abbrev QC : List Nat := [97, 35, 32, 110, 111, 120, 121, 49, 50, 116, 59, 40, 126, 98, 99]
theorem sign_call (k : Nat) : ∀ c ∈ QC, (C (k + 1)).call 4 [.da (.str [c])] = .ok (.da (.bl true)) [.da (.str [c])] := by
  intro c hc
  simp only [QC, List.mem_cons, List.not_mem_nil, or_false] at hc
  rcases hc with rfl | rfl | rfl | rfl | rfl | rfl | rfl | rfl | rfl | rfl | rfl | rfl | rfl | rfl | rfl <;> exact (C_call rfl).trans rfl
theorem q_loop (k : Nat) (st r cl : D) : ∀ (q pre rest : List Nat) (n : Nat), Tx (pre ++ (q ++ 34 :: rest)) → (∀ c ∈ q, c ∈ QC) →
    whlRun (t1__quoted.run (C (k + 1)) []) (b2__quoted.run (C (k + 1)) []) (n + 1 + q.length) [.da (.str (pre ++ (q ++ 34 :: rest))), .da st, .da r, .da cl, .da (.int (pre.length : Nat))] =
      .ok .nxt [.da (.str (pre ++ (q ++ 34 :: rest))), .da st, .da r, .da cl, .da (.int ((pre.length + q.length : Nat) : Int))]
  | [], pre, rest, n, hT, _ => by
    unfold whlRun
    have hl := hT.len
    simp only [List.nil_append] at hl ⊢
    have g := at_app pre rest 34
    have e := eqC (c := 34) (d := 34) (by decide) (by decide)
    have hlt : ((pre.length : Nat) : Int) < (((pre ++ 34 :: rest).length : Nat) : Int) := by simp; omega
    generalize hTT : pre ++ 34 :: rest = TT at *
    simp [t1__quoted, runF, Ss.run, S_.run, E.run, Es.run, As.run, T.run, Ts.run, It.run, OE.run, F.run, pairsRun, R.bind, R.of, R.noEr, Op2.run, addD, i2, Bif.run, ioOk, isOw, hasV, getL, flat, Pt.run, outs, List.range, List.range.loop, lookK, getD', kyD, putKy, callR, refsOf, resolve, keepOw, putBack, ordD, lenD, idxD, truD, small, rngD, setAll, itemsD, Mth.run, sliceD, hl, g, hlt, e]
  | c :: q, pre, rest, n, hT, hq => by
    have ih := q_loop k st r cl q (pre ++ [c]) rest n (by simpa using hT) (fun x hx => hq x (List.mem_cons_of_mem _ hx))
    rw [show pre ++ [c] ++ (q ++ 34 :: rest) = pre ++ (c :: q ++ 34 :: rest) by simp, show (((pre ++ [c]).length : Nat) : Int) = (pre.length : Int) + 1 by simp,
      show ((pre ++ [c]).length + q.length : Nat) = pre.length + (c :: q).length by simp; omega] at ih
    rw [show n + 1 + (c :: q).length = (n + 1 + q.length) + 1 by simp; omega]
    refine Eq.trans ?_ ih
    conv => lhs; unfold whlRun
    have hc := hT.ok c (by simp)
    have hl := hT.len
    have g := at_app pre (q ++ 34 :: rest) c
    rw [← List.cons_append] at g
    have sc := sign_call k c (hq c List.mem_cons_self)
    have h34 : ¬ c = 34 := fun z => absurd (hq c List.mem_cons_self) (by rw [z]; decide)
    have e := eqC hc (show 34 < 1114112 by decide)
    have hlt : ((pre.length : Nat) : Int) < (((pre ++ (c :: q ++ 34 :: rest)).length : Nat) : Int) := by simp; omega
    generalize hTT : pre ++ (c :: q ++ 34 :: rest) = TT at *
    simp [t1__quoted, b2__quoted, runF, Ss.run, S_.run, E.run, Es.run, As.run, T.run, Ts.run, It.run, OE.run, F.run, pairsRun, R.bind, R.of, R.noEr, Op2.run, addD, i2, Bif.run, ioOk, isOw, hasV, getL, flat, Pt.run, outs, List.range, List.range.loop, lookK, getD', kyD, putKy, callR, refsOf, resolve, keepOw, putBack, ordD, lenD, idxD, truD, small, rngD, setAll, itemsD, Mth.run, sliceD, hl, g, hlt, e, h34, sc]
theorem quoted_call (k : Nat) (r cl : D) {q pre rest : List Nat} (hT : Tx (pre ++ (34 :: (q ++ 34 :: rest)))) (hq : ∀ c ∈ q, c ∈ QC) (h40 : q.length ≤ 40) :
    (C (k + 2)).call 5 [.da (.str (pre ++ (34 :: (q ++ 34 :: rest)))), .da (.int (pre.length : Nat)), .da r, .da cl] = .ok (.da (.str q)) [.da (.str (pre ++ (34 :: (q ++ 34 :: rest)))), .da (.int (pre.length : Nat)), .da r, .da cl] := by
  have e := q_loop k (.int (pre.length : Nat)) r cl q (pre ++ [34]) rest (WF - 1 - q.length) (by simpa using hT) hq
  rw [← wf_split (by omega)] at e
  have cm := cut_mid (pre ++ [34]) q (34 :: rest)
  rw [show pre ++ [34] ++ (q ++ 34 :: rest) = pre ++ (34 :: (q ++ 34 :: rest)) by simp] at e cm
  have e0 : (((pre ++ ([34] : List Nat)).length : Nat) : Int) = (pre.length : Int) + 1 := by simp
  rw [e0] at e cm
  have hl := hT.len
  have e1 : (((pre ++ ([34] : List Nat)).length + q.length : Nat) : Int) = (pre.length : Int) + 1 + (q.length : Nat) := by simp
  rw [e1] at e cm
  have hne : ¬ (pre.length : Int) + 1 + (q.length : Nat) = (((pre ++ (34 :: (q ++ 34 :: rest))).length : Nat) : Int) := by simp; omega
  have hle : ¬ (40 : Int) < (pre.length : Int) + 1 + (q.length : Nat) - (pre.length : Nat) - 1 := by omega
  refine (C_call rfl).trans ?_
  generalize hTT : pre ++ (34 :: (q ++ 34 :: rest)) = TT at *
  simp [fn__quoted, code__quoted, runF, Ss.run, S_.run, E.run, Es.run, As.run, T.run, Ts.run, It.run, OE.run, F.run, pairsRun, R.bind, R.of, R.noEr, Op2.run, addD, i2, Bif.run, ioOk, isOw, hasV, getL, flat, Pt.run, outs, List.range, List.range.loop, lookK, getD', kyD, putKy, callR, refsOf, resolve, keepOw, putBack, ordD, lenD, idxD, truD, small, rngD, setAll, itemsD, Mth.run, sliceD, e, cm, hl, eqI, hne, hle, gl2]
/-! ### a token -/
theorem neL {c : Nat} {l : List Nat} (h : c ∉ l) {d : Nat} (hd : d ∈ l) : ¬ c = d := fun z => h (z ▸ hd)
theorem tok_word (k : Nat) (r cl : D) {kd w pre rest : List Nat} {c : Nat} {w' : List Nat} (hw0 : w = c :: w') (hc0 : c ∈ letters ∨ c ∈ digits) (hT : Tx (pre ++ (w ++ rest))) (hw : ∀ c ∈ w, wc c = true) (hs : stops wc rest = true)
    (hk : (C (k + 2)).call 8 [.da (.str w), .da r, .da cl] = .ok (.da (.str kd)) [.da (.str w), .da r, .da cl]) :
    (C (k + 3)).call 9 [.da (.str (pre ++ (w ++ rest))), .da (.int (pre.length : Nat)), .da r, .da cl] = .ok (.da (.tup [.tup [.str kd, .str w, r, cl], .int ((pre.length : Int) + (w.length : Nat))])) [.da (.str (pre ++ (w ++ rest))), .da (.int (pre.length : Nat)), .da r, .da cl] := by
  have we := we_call (k + 1) hT hw hs
  have cm := cut_mid pre w rest
  have hl := hT.len
  have hwl : w.length ≤ 16777216 := by simp at hl; omega
  have g : atI (pre ++ (w ++ rest)) (pre.length : Int) = some c := by rw [hw0]; exact at_app pre _ c
  refine (C_call rfl).trans ?_
  generalize hTT : pre ++ (w ++ rest) = TT at *
  rw [Int.natCast_add] at we cm
  by_cases h1 : c ∈ letters
  · simp [fn__token_at, code__token_at, runF, Ss.run, S_.run, E.run, Es.run, As.run, T.run, Ts.run, It.run, OE.run, F.run, pairsRun, R.bind, R.of, R.noEr, Op2.run, addD, i2, Bif.run, ioOk, isOw, hasV, getL, flat, Pt.run, outs, List.range, List.range.loop, lookK, getD', kyD, putKy, callR, refsOf, resolve, keepOw, putBack, ordD, lenD, idxD, truD, small, rngD, setAll, itemsD, Mth.run, sliceD, hl, hwl, g, gl3, gl4, memC, h1, we, cm, hk]
  · have h2 : c ∈ digits := by rcases hc0 with h | h; exact absurd h h1; exact h
    simp [fn__token_at, code__token_at, runF, Ss.run, S_.run, E.run, Es.run, As.run, T.run, Ts.run, It.run, OE.run, F.run, pairsRun, R.bind, R.of, R.noEr, Op2.run, addD, i2, Bif.run, ioOk, isOw, hasV, getL, flat, Pt.run, outs, List.range, List.range.loop, lookK, getD', kyD, putKy, callR, refsOf, resolve, keepOw, putBack, ordD, lenD, idxD, truD, small, rngD, setAll, itemsD, Mth.run, sliceD, hl, hwl, g, gl3, gl4, memC, h1, h2, we, cm, hk]
theorem tok_text (k : Nat) (r cl : D) {q pre rest : List Nat} (hT : Tx (pre ++ (34 :: (q ++ 34 :: rest)))) (hq : ∀ c ∈ q, c ∈ QC) (h40 : q.length ≤ 40) :
    (C (k + 3)).call 9 [.da (.str (pre ++ (34 :: (q ++ 34 :: rest)))), .da (.int (pre.length : Nat)), .da r, .da cl] = .ok (.da (.tup [.tup [.str [116, 101, 120, 116], .str q, r, cl], .int ((pre.length : Int) + (q.length : Nat) + 2)])) [.da (.str (pre ++ (34 :: (q ++ 34 :: rest)))), .da (.int (pre.length : Nat)), .da r, .da cl] := by
  have qe := quoted_call k r cl hT hq h40
  have hl := hT.len
  have hql : q.length ≤ 16777216 := by omega
  have g := at_app pre (q ++ 34 :: rest) 34
  have h1 : 34 ∉ letters := by decide
  have h2 : 34 ∉ digits := by decide
  have e := eqC (c := 34) (d := 34) (by decide) (by decide)
  refine (C_call rfl).trans ?_
  generalize hTT : pre ++ (34 :: (q ++ 34 :: rest)) = TT at *
  simp [fn__token_at, code__token_at, runF, Ss.run, S_.run, E.run, Es.run, As.run, T.run, Ts.run, It.run, OE.run, F.run, pairsRun, R.bind, R.of, R.noEr, Op2.run, addD, i2, Bif.run, ioOk, isOw, hasV, getL, flat, Pt.run, outs, List.range, List.range.loop, lookK, getD', kyD, putKy, callR, refsOf, resolve, keepOw, putBack, ordD, lenD, idxD, truD, small, rngD, setAll, itemsD, Mth.run, sliceD, hl, hql, g, gl3, gl4, memC, h1, h2, qe, e]
theorem memLe (a : List Nat) : memD (.str a) (.tup [.str [60, 61]]) = some (decide (a = [60, 61])) := by
  show (if (flat (.str a) && ([D.str [60, 61]].all flat)) = true then some (inD (.str a) [.str [60, 61]]) else none) = _
  rw [if_pos (by rfl)]
  show some ((SX.S [60, 61] == SX.S a) || false) = _
  rw [Bool.or_false]
  by_cases h : a = [60, 61]
  · rw [decide_eq_true h, h, beq_self_eq_true]
  · rw [decide_eq_false h, beq_eq_false_iff_ne.mpr fun z => h (SX.S_inj z).symm]
theorem tok_sign (k : Nat) (r cl : D) {pre rest : List Nat} {c : Nat} (hT : Tx (pre ++ (c :: rest))) (h1 : c ∉ letters) (h2 : c ∉ digits) (h3 : ¬ c = 34) (h4 : c ∈ shorts) (h5 : ¬ (c :: rest).take 2 = [60, 61]) :
    (C (k + 3)).call 9 [.da (.str (pre ++ (c :: rest))), .da (.int (pre.length : Nat)), .da r, .da cl] = .ok (.da (.tup [.tup [.str [115, 105, 103, 110], .str [c], r, cl], .int ((pre.length : Int) + 1)])) [.da (.str (pre ++ (c :: rest))), .da (.int (pre.length : Nat)), .da r, .da cl] := by
  have hl := hT.len
  have hc := hT.ok c (by simp)
  have g := at_app pre rest c
  have e := eqC hc (show 34 < 1114112 by decide)
  have ct := cut_two pre (c :: rest)
  rw [Int.natCast_add] at ct
  have ct : cutL (pre ++ c :: rest) (some (pre.length : Int)) (some ((pre.length : Int) + 2)) = (c :: rest).take 2 := ct
  generalize hss : (c :: rest).take 2 = ss at *
  refine (C_call rfl).trans ?_
  generalize hTT : pre ++ (c :: rest) = TT at *
  simp [fn__token_at, code__token_at, runF, Ss.run, S_.run, E.run, Es.run, As.run, T.run, Ts.run, It.run, OE.run, F.run, pairsRun, R.bind, R.of, R.noEr, Op2.run, addD, i2, Bif.run, ioOk, isOw, hasV, getL, flat, Pt.run, outs, List.range, List.range.loop, lookK, getD', kyD, putKy, callR, refsOf, resolve, keepOw, putBack, ordD, lenD, idxD, truD, small, rngD, setAll, itemsD, Mth.run, sliceD, hl, g, gl3, gl4, gl7, gl8, memC, memLe, h1, h2, e, h3, h4, h5, ct]
theorem tok_le (k : Nat) (r cl : D) {pre rest : List Nat} (hT : Tx (pre ++ (60 :: 61 :: rest))) :
    (C (k + 3)).call 9 [.da (.str (pre ++ (60 :: 61 :: rest))), .da (.int (pre.length : Nat)), .da r, .da cl] = .ok (.da (.tup [.tup [.str [115, 105, 103, 110], .str [60, 61], r, cl], .int ((pre.length : Int) + 2)])) [.da (.str (pre ++ (60 :: 61 :: rest))), .da (.int (pre.length : Nat)), .da r, .da cl] := by
  have hl := hT.len
  have g := at_app pre (61 :: rest) 60
  have e := eqC (c := 60) (d := 34) (by decide) (by decide)
  have h1 : 60 ∉ letters := by decide
  have h2 : 60 ∉ digits := by decide
  have ct := cut_two pre (60 :: 61 :: rest)
  rw [Int.natCast_add] at ct
  have ct : cutL (pre ++ 60 :: 61 :: rest) (some (pre.length : Int)) (some ((pre.length : Int) + 2)) = [60, 61] := ct
  refine (C_call rfl).trans ?_
  generalize hTT : pre ++ (60 :: 61 :: rest) = TT at *
  simp [fn__token_at, code__token_at, runF, Ss.run, S_.run, E.run, Es.run, As.run, T.run, Ts.run, It.run, OE.run, F.run, pairsRun, R.bind, R.of, R.noEr, Op2.run, addD, i2, Bif.run, ioOk, isOw, hasV, getL, flat, Pt.run, outs, List.range, List.range.loop, lookK, getD', kyD, putKy, callR, refsOf, resolve, keepOw, putBack, ordD, lenD, idxD, truD, small, rngD, setAll, itemsD, Mth.run, sliceD, hl, g, gl3, gl4, gl7, gl8, memC, memLe, h1, h2, e, ct]
end K01
/-! Sheetwatch k01: the reader's loop, step by step. -/
namespace K01
open Mp PySem L2
theorem lastIx_snoc (c : Nat) : ∀ l : List Nat, lastIx c (l ++ [c]) = some l.length
  | [] => by simp [lastIx]
  | x :: r => by
    rw [List.cons_append]
    unfold lastIx
    rw [lastIx_snoc c r]
    simp
theorem lastIx_app {c : Nat} {w : List Nat} (h : c ∉ w) : ∀ l : List Nat, lastIx c (l ++ w) = lastIx c l
  | [] => by
    rw [List.nil_append, lastIx_none.mpr h]
    rfl
  | x :: r => by
    rw [List.cons_append]
    unfold lastIx
    rw [lastIx_app h r]
def rowI (pre : List Nat) : Int := ((pre.count 10 : Nat) : Int) + 1
def begN (pre : List Nat) : Nat := match lastIx 10 pre with
  | some i => i + 1
  | none => 0
def colI (pre : List Nat) : Int := (pre.length : Int) - (begN pre : Nat) + 1
theorem row_nl (pre : List Nat) : rowI (pre ++ [10]) = rowI pre + 1 := by unfold rowI; simp
theorem beg_nl (pre : List Nat) : begN (pre ++ [10]) = pre.length + 1 := by unfold begN; rw [lastIx_snoc]
theorem row_w {w : List Nat} (h : 10 ∉ w) (pre : List Nat) : rowI (pre ++ w) = rowI pre := by
  unfold rowI
  rw [List.count_append, List.count_eq_zero_of_not_mem h]
  simp
theorem beg_w {w : List Nat} (h : 10 ∉ w) (pre : List Nat) : begN (pre ++ w) = begN pre := by unfold begN; rw [lastIx_app h]
def stT (T pre : List Nat) (fs : List D) (tok : Sl) : En := [.da (.str T), .ow (.ls fs), .da (.int (pre.length : Nat)), .da (.int (rowI pre)), .da (.int (begN pre : Nat)), tok]
def LT (k n : Nat) (ε : En) : R Fl := whlRun (t1_tokens.run (C (k + 3)) []) (b2_tokens.run (C (k + 3)) []) n ε
theorem step_nl (k n : Nat) {pre rest : List Nat} (fs : List D) (tok : Sl) (hT : Tx (pre ++ 10 :: rest)) : LT k (n + 1) (stT (pre ++ 10 :: rest) pre fs tok) = LT k n (stT (pre ++ 10 :: rest) (pre ++ [10]) fs tok) := by
  have hl := hT.len
  have g := at_app pre rest 10
  have e := eqC (c := 10) (d := 10) (by decide) (by decide)
  have hlt : ((pre.length : Nat) : Int) < (((pre ++ 10 :: rest).length : Nat) : Int) := by simp; omega
  unfold LT stT
  rw [row_nl, beg_nl]
  have e1 : (((pre ++ ([10] : List Nat)).length : Nat) : Int) = (pre.length : Int) + 1 := by simp
  have e2 : ((pre.length + 1 : Nat) : Int) = (pre.length : Int) + 1 := rfl
  rw [e1, e2]
  generalize hTT : pre ++ 10 :: rest = TT at *
  conv => lhs; unfold whlRun
  simp [t1_tokens, b2_tokens, runF, Ss.run, S_.run, E.run, Es.run, As.run, T.run, Ts.run, It.run, OE.run, F.run, pairsRun, R.bind, R.of, R.noEr, Op2.run, addD, i2, Bif.run, ioOk, isOw, hasV, getL, flat, Pt.run, outs, List.range, List.range.loop, lookK, getD', kyD, putKy, callR, refsOf, resolve, keepOw, putBack, ordD, lenD, idxD, truD, small, rngD, setAll, itemsD, Mth.run, sliceD, hl, g, hlt, e]
theorem step_sp (k n : Nat) {pre rest : List Nat} (fs : List D) (tok : Sl) (hT : Tx (pre ++ 32 :: rest)) : LT k (n + 1) (stT (pre ++ 32 :: rest) pre fs tok) = LT k n (stT (pre ++ 32 :: rest) (pre ++ [32]) fs tok) := by
  have hl := hT.len
  have g := at_app pre rest 32
  have e := eqC (c := 32) (d := 10) (by decide) (by decide)
  have e' := eqC (c := 32) (d := 32) (by decide) (by decide)
  have hlt : ((pre.length : Nat) : Int) < (((pre ++ 32 :: rest).length : Nat) : Int) := by simp; omega
  unfold LT stT
  rw [row_w (by decide), beg_w (by decide)]
  have e1 : (((pre ++ ([32] : List Nat)).length : Nat) : Int) = (pre.length : Int) + 1 := by simp
  rw [e1]
  generalize hTT : pre ++ 32 :: rest = TT at *
  conv => lhs; unfold whlRun
  simp [t1_tokens, b2_tokens, runF, Ss.run, S_.run, E.run, Es.run, As.run, T.run, Ts.run, It.run, OE.run, F.run, pairsRun, R.bind, R.of, R.noEr, Op2.run, addD, i2, Bif.run, ioOk, isOw, hasV, getL, flat, Pt.run, outs, List.range, List.range.loop, lookK, getD', kyD, putKy, callR, refsOf, resolve, keepOw, putBack, ordD, lenD, idxD, truD, small, rngD, setAll, itemsD, Mth.run, sliceD, hl, g, hlt, e, e']
theorem firstIx_app {c : Nat} : ∀ {w : List Nat} (r : List Nat), c ∉ w → firstIx c (w ++ c :: r) = some w.length
  | [], r, _ => by simp [firstIx]
  | x :: w, r, h => by
    rw [List.cons_append]
    unfold firstIx
    rw [if_neg fun z : x = c => h (by rw [z]; exact List.mem_cons_self), firstIx_app r fun z => h (List.mem_cons_of_mem _ z)]
    simp
theorem comment_call (k : Nat) {w pre rest : List Nat} (hT : Tx (pre ++ (w ++ rest))) (hw : 10 ∉ w) (hr : stops (fun c => decide (c ≠ 10)) rest = true) :
    (C (k + 1)).call 3 [.da (.str (pre ++ (w ++ rest))), .da (.int (pre.length : Nat))] = .ok (.da (.int ((pre.length : Int) + (w.length : Nat)))) [.da (.str (pre ++ (w ++ rest))), .da (.int (pre.length : Nat))] := by
  have hl := hT.len
  refine (C_call rfl).trans ?_
  cases rest with
  | nil =>
    have f : findFrom (pre ++ (w ++ [])) 10 pre.length = -1 := by
      unfold findFrom
      rw [List.drop_left, List.append_nil, firstIx_none.mpr hw]
      rfl
    have ln : ((((pre ++ (w ++ [])).length : Nat)) : Int) = (pre.length : Int) + (w.length : Nat) := by simp
    generalize hTT : pre ++ (w ++ []) = TT at *
    simp [fn__comment_end, code__comment_end, runF, Ss.run, S_.run, E.run, Es.run, As.run, T.run, Ts.run, It.run, OE.run, F.run, pairsRun, R.bind, R.of, R.noEr, Op2.run, addD, i2, Bif.run, ioOk, isOw, hasV, getL, flat, Pt.run, outs, List.range, List.range.loop, lookK, getD', kyD, putKy, callR, refsOf, resolve, keepOw, putBack, ordD, lenD, idxD, truD, small, rngD, setAll, itemsD, Mth.run, sliceD, hl, f]
    omega
  | cons c r =>
    have hc : c = 10 := by simpa [stops] using hr
    subst hc
    have f : findFrom (pre ++ (w ++ 10 :: r)) 10 pre.length = (pre.length : Int) + (w.length : Nat) := by
      unfold findFrom
      rw [List.drop_left, firstIx_app r hw]
      show ((w.length + pre.length : Nat) : Int) = _
      omega
    have hn : ¬ (pre.length : Int) + (w.length : Nat) < 0 := by omega
    generalize hTT : pre ++ (w ++ 10 :: r) = TT at *
    simp [fn__comment_end, code__comment_end, runF, Ss.run, S_.run, E.run, Es.run, As.run, T.run, Ts.run, It.run, OE.run, F.run, pairsRun, R.bind, R.of, R.noEr, Op2.run, addD, i2, Bif.run, ioOk, isOw, hasV, getL, flat, Pt.run, outs, List.range, List.range.loop, lookK, getD', kyD, putKy, callR, refsOf, resolve, keepOw, putBack, ordD, lenD, idxD, truD, small, rngD, setAll, itemsD, Mth.run, sliceD, hl, f, hn]
theorem step_cm (k n : Nat) {pre cs rest : List Nat} (fs : List D) (tok : Sl) (hT : Tx (pre ++ (35 :: cs ++ rest))) (hw : 10 ∉ cs) (hr : stops (fun c => decide (c ≠ 10)) rest = true) :
    LT k (n + 1) (stT (pre ++ (35 :: cs ++ rest)) pre fs tok) = LT k n (stT (pre ++ (35 :: cs ++ rest)) (pre ++ 35 :: cs) fs tok) := by
  have hl := hT.len
  have hw2 : 10 ∉ 35 :: cs := by simp [hw]
  have ce := comment_call (k + 2) hT hw2 hr
  have g := at_app pre (cs ++ rest) 35
  rw [← List.cons_append] at g
  have e := eqC (c := 35) (d := 10) (by decide) (by decide)
  have e' := eqC (c := 35) (d := 32) (by decide) (by decide)
  have e'' := eqC (c := 35) (d := 35) (by decide) (by decide)
  have hlt : ((pre.length : Nat) : Int) < (((pre ++ (35 :: cs ++ rest)).length : Nat) : Int) := by simp; omega
  unfold LT stT
  rw [row_w hw2, beg_w hw2]
  have e1 : (((pre ++ 35 :: cs).length : Nat) : Int) = (pre.length : Int) + ((35 :: cs).length : Nat) := by simp
  rw [e1]
  generalize hTT : pre ++ (35 :: cs ++ rest) = TT at *
  generalize hcc : 35 :: cs = cc at *
  conv => lhs; unfold whlRun
  simp [t1_tokens, b2_tokens, runF, Ss.run, S_.run, E.run, Es.run, As.run, T.run, Ts.run, It.run, OE.run, F.run, pairsRun, R.bind, R.of, R.noEr, Op2.run, addD, i2, Bif.run, ioOk, isOw, hasV, getL, flat, Pt.run, outs, List.range, List.range.loop, lookK, getD', kyD, putKy, callR, refsOf, resolve, keepOw, putBack, ordD, lenD, idxD, truD, small, rngD, setAll, itemsD, Mth.run, sliceD, hl, g, hlt, e, e', e'', ce]
theorem step_tok (k n : Nat) {pre w rest : List Nat} {c : Nat} {w' : List Nat} {d : D} (fs : List D) {tok : Sl} (hn : NO tok) (hT : Tx (pre ++ (w ++ rest))) (hw0 : w = c :: w') (hw : 10 ∉ w) (h2 : ¬ c = 32) (h3 : ¬ c = 35) (hf : fs.length < 16777216)
    (ht : (C (k + 3)).call 9 [.da (.str (pre ++ (w ++ rest))), .da (.int (pre.length : Nat)), .da (.int (rowI pre)), .da (.int (colI pre))] = .ok (.da (.tup [d, .int ((pre.length : Int) + (w.length : Nat))])) [.da (.str (pre ++ (w ++ rest))), .da (.int (pre.length : Nat)), .da (.int (rowI pre)), .da (.int (colI pre))]) :
    LT k (n + 1) (stT (pre ++ (w ++ rest)) pre fs tok) = LT k n (stT (pre ++ (w ++ rest)) (pre ++ w) (fs ++ [d]) (.da d)) := by
  have hl := hT.len
  have g : atI (pre ++ (w ++ rest)) (pre.length : Int) = some c := by rw [hw0]; exact at_app pre _ c
  have hc : c < 1114112 := hT.ok c (by rw [hw0]; simp)
  have e := eqC hc (show 10 < 1114112 by decide)
  have e' := eqC hc (show 32 < 1114112 by decide)
  have e'' := eqC hc (show 35 < 1114112 by decide)
  have h1 : ¬ c = 10 := fun z => hw (by rw [hw0, z]; simp)
  have hlt : ((pre.length : Nat) : Int) < (((pre ++ (w ++ rest)).length : Nat) : Int) := by rw [hw0]; simp; omega
  unfold LT stT
  rw [row_w hw, beg_w hw]
  have e1 : (((pre ++ w).length : Nat) : Int) = (pre.length : Int) + (w.length : Nat) := by simp
  rw [e1]
  unfold colI at ht
  generalize hTT : pre ++ (w ++ rest) = TT at *
  conv => lhs; unfold whlRun
  cases tok with
  | ow c => exact absurd rfl (hn c)
  | no => simp [t1_tokens, b2_tokens, runF, Ss.run, S_.run, E.run, Es.run, As.run, T.run, Ts.run, It.run, OE.run, F.run, pairsRun, R.bind, R.of, R.noEr, Op2.run, addD, i2, Bif.run, ioOk, isOw, hasV, getL, flat, Pt.run, outs, List.range, List.range.loop, lookK, getD', kyD, putKy, callR, refsOf, resolve, keepOw, putBack, ordD, lenD, idxD, truD, small, rngD, setAll, itemsD, Mth.run, sliceD, hl, g, hlt, e, e', e'', h1, h2, h3, ht, hf]
  | ex => simp [t1_tokens, b2_tokens, runF, Ss.run, S_.run, E.run, Es.run, As.run, T.run, Ts.run, It.run, OE.run, F.run, pairsRun, R.bind, R.of, R.noEr, Op2.run, addD, i2, Bif.run, ioOk, isOw, hasV, getL, flat, Pt.run, outs, List.range, List.range.loop, lookK, getD', kyD, putKy, callR, refsOf, resolve, keepOw, putBack, ordD, lenD, idxD, truD, small, rngD, setAll, itemsD, Mth.run, sliceD, hl, g, hlt, e, e', e'', h1, h2, h3, ht, hf]
  | da _ => simp [t1_tokens, b2_tokens, runF, Ss.run, S_.run, E.run, Es.run, As.run, T.run, Ts.run, It.run, OE.run, F.run, pairsRun, R.bind, R.of, R.noEr, Op2.run, addD, i2, Bif.run, ioOk, isOw, hasV, getL, flat, Pt.run, outs, List.range, List.range.loop, lookK, getD', kyD, putKy, callR, refsOf, resolve, keepOw, putBack, ordD, lenD, idxD, truD, small, rngD, setAll, itemsD, Mth.run, sliceD, hl, g, hlt, e, e', e'', h1, h2, h3, ht, hf]
theorem step_end (k n : Nat) {t : List Nat} (fs : List D) (tok : Sl) (hl : t.length ≤ 16777216) : LT k (n + 1) (stT t t fs tok) = .ok .nxt (stT t t fs tok) := by
  unfold LT stT whlRun
  simp [t1_tokens, runF, Ss.run, S_.run, E.run, Es.run, As.run, T.run, Ts.run, It.run, OE.run, F.run, pairsRun, R.bind, R.of, R.noEr, Op2.run, addD, i2, Bif.run, ioOk, isOw, hasV, getL, flat, Pt.run, outs, List.range, List.range.loop, lookK, getD', kyD, putKy, callR, refsOf, resolve, keepOw, putBack, ordD, lenD, idxD, truD, small, rngD, setAll, itemsD, Mth.run, sliceD, hl]
theorem tokens_call (k n : Nat) {t : List Nat} {fs : List D} {tok : Sl} (hl : t.length ≤ 16777216) (hf : fs.length < 16777216) (h : LT k WF (stT t [] [] .no) = .ok .nxt (stT t t fs tok)) :
    (C (k + 4)).call 10 [.da (.str t)] = .ok (.da (.lst (fs ++ [.tup [.str [101, 110, 100], .str [], .int (rowI t), .int (colI t)]]))) [.da (.str t)] := by
  refine (C_call rfl).trans ?_
  unfold LT stT at h
  have h : whlRun (t1_tokens.run (C (k + 3)) []) (b2_tokens.run (C (k + 3)) []) WF [.da (.str t), .ow (.ls []), .da (.int 0), .da (.int 1), .da (.int 0), .no] = _ := h
  simp [fn_tokens, code_tokens, runF, Ss.run, S_.run, E.run, Es.run, As.run, T.run, Ts.run, It.run, OE.run, F.run, pairsRun, R.bind, R.of, R.noEr, Op2.run, addD, i2, Bif.run, ioOk, isOw, hasV, getL, flat, Pt.run, outs, List.range, List.range.loop, lookK, getD', kyD, putKy, callR, refsOf, resolve, keepOw, putBack, ordD, lenD, idxD, truD, small, rngD, setAll, itemsD, Mth.run, sliceD, h, hf, colI]
end K01
/-! Sheetwatch k01: pieces of a text are read. -/
namespace K01
open Mp PySem L2
abbrev mNames : List (List Nat) := [[97], [103, 111, 95], [120, 95, 49]]
abbrev mNums : List (List Nat) := [[49, 48], [49, 48, 48, 48, 48, 48, 48, 48, 48, 48, 48, 48, 48], [48]]
abbrev mTxts : List (List Nat) := [[120, 32, 121], []]
abbrev mKws : List (List Nat) := [[119, 97, 116, 99, 104], [110, 111, 116]]
abbrev mS1 : List (List Nat) := [[61], [60, 61]]
abbrev mS2 : List (List Nat) := [[46], [40], [93], [44]]
/-- kind, word -/
def MENU : List (List Nat × List Nat) := mNames.map (fun w => ([110, 97, 109, 101], w)) ++ mNums.map (fun w => ([110, 117, 109, 98, 101, 114], w)) ++ mTxts.map (fun w => ([116, 101, 120, 116], w)) ++ mKws.map (fun w => ([107, 101, 121, 119, 111, 114, 100], w)) ++ mS1.map (fun w => ([115, 105, 103, 110], w)) ++ mS2.map (fun w => ([115, 105, 103, 110], w))
def Go (k : Nat) (t pre : List Nat) (fs : List D) (pre' : List Nat) (fs' : List D) : Prop := ∃ j, j + pre.length ≤ pre'.length ∧ ∀ tok, NO tok → ∃ tok', NO tok' ∧ ∀ n, LT k (n + j) (stT t pre fs tok) = LT k n (stT t pre' fs' tok')
section
variable {k : Nat} {t pre pre1 pre2 : List Nat} {fs fs1 fs2 : List D}
theorem Go.refl : Go k t pre fs pre fs := ⟨0, by omega, fun tok h => ⟨tok, h, fun n => rfl⟩⟩
theorem Go.trans (a : Go k t pre fs pre1 fs1) (b : Go k t pre1 fs1 pre2 fs2) : Go k t pre fs pre2 fs2 := by
  obtain ⟨i, hi, f⟩ := a
  obtain ⟨j, hj, g⟩ := b
  refine ⟨j + i, by omega, fun tok h => ?_⟩
  obtain ⟨tok1, h1, e1⟩ := f tok h
  obtain ⟨tok2, h2, e2⟩ := g tok1 h1
  exact ⟨tok2, h2, fun n => by rw [← Nat.add_assoc, e1, e2]⟩
theorem Go.one (hl : 1 + pre.length ≤ pre1.length) (h : ∀ n tok, NO tok → ∃ tok', NO tok' ∧ LT k (n + 1) (stT t pre fs tok) = LT k n (stT t pre1 fs1 tok')) (h2 : ∀ tok, NO tok → ∃ tok', NO tok' ∧ ∀ n, LT k (n + 1) (stT t pre fs tok) = LT k n (stT t pre1 fs1 tok')) : Go k t pre fs pre1 fs1 := ⟨1, hl, h2⟩
end
theorem go_nl {k : Nat} {pre rest : List Nat} {fs : List D} (hT : Tx (pre ++ 10 :: rest)) : Go k (pre ++ 10 :: rest) pre fs (pre ++ [10]) fs := ⟨1, by simp; omega, fun tok h => ⟨tok, h, fun n => step_nl k n fs tok hT⟩⟩
theorem go_sp {k : Nat} {pre rest : List Nat} {fs : List D} (hT : Tx (pre ++ 32 :: rest)) : Go k (pre ++ 32 :: rest) pre fs (pre ++ [32]) fs := ⟨1, by simp; omega, fun tok h => ⟨tok, h, fun n => step_sp k n fs tok hT⟩⟩
theorem go_cm {k : Nat} {pre cs rest : List Nat} {fs : List D} (hT : Tx (pre ++ (35 :: cs ++ rest))) (hw : 10 ∉ cs) (hr : stops (fun c => decide (c ≠ 10)) rest = true) : Go k (pre ++ (35 :: cs ++ rest)) pre fs (pre ++ 35 :: cs) fs := ⟨1, by simp; omega, fun tok h => ⟨tok, h, fun n => step_cm k n fs tok hT hw hr⟩⟩
/-- white space and whole comments -/
def sepB : Bool → List Nat → Bool
  | false, [] => true
  | true, [] => false
  | false, c :: r => if c = 35 then sepB true r else (decide (c = 10) || decide (c = 32)) && sepB false r
  | true, c :: r => if c = 10 then sepB false r else sepB true r
theorem sep_go (k : Nat) (rest : List Nat) (fs : List D) : ∀ (s pre : List Nat),
    (sepB false s = true → Tx (pre ++ (s ++ rest)) → Go k (pre ++ (s ++ rest)) pre fs (pre ++ s) fs) ∧
    (∀ cs, 10 ∉ cs → sepB true s = true → Tx (pre ++ (35 :: cs ++ (s ++ rest))) → Go k (pre ++ (35 :: cs ++ (s ++ rest))) pre fs (pre ++ (35 :: cs ++ s)) fs)
  | [], pre => ⟨fun _ _ => by rw [List.append_nil]; exact Go.refl, fun cs _ h => by cases h⟩
  | c :: r, pre => by
    refine ⟨fun h hT => ?_, fun cs hcs h hT => ?_⟩
    · unfold sepB at h
      by_cases h35 : c = 35
      · subst h35
        rw [if_pos rfl] at h
        exact (sep_go k rest fs r pre).2 [] (by simp) h hT
      · rw [if_neg h35, Bool.and_eq_true] at h
        obtain ⟨hc, h⟩ := h
        have e1 : pre ++ [c] ++ (r ++ rest) = pre ++ (c :: r ++ rest) := by simp
        have e2 : pre ++ [c] ++ r = pre ++ c :: r := by simp
        have ih := (sep_go k rest fs r (pre ++ [c])).1 h
        rw [e1, e2] at ih
        have hc : c = 10 ∨ c = 32 := by simpa using hc
        rcases hc with rfl | rfl
        · exact (go_nl hT).trans (ih hT)
        · exact (go_sp hT).trans (ih hT)
    · unfold sepB at h
      by_cases h10 : c = 10
      · subst h10
        rw [if_pos rfl] at h
        have a := go_cm (k := k) (fs := fs) hT hcs (by simp [stops])
        have ih := (sep_go k rest fs r (pre ++ 35 :: cs ++ [10])).1 h
        have e1 : pre ++ 35 :: cs ++ [10] ++ (r ++ rest) = pre ++ (35 :: cs ++ (10 :: r ++ rest)) := by simp
        have e2 : pre ++ 35 :: cs ++ [10] ++ r = pre ++ (35 :: cs ++ 10 :: r) := by simp
        have e3 : pre ++ 35 :: cs ++ 10 :: (r ++ rest) = pre ++ (35 :: cs ++ (10 :: r ++ rest)) := by simp
        rw [e1, e2] at ih
        have b : Go k (pre ++ 35 :: cs ++ 10 :: (r ++ rest)) (pre ++ 35 :: cs) fs (pre ++ 35 :: cs ++ [10]) fs := go_nl (by rw [e3]; exact hT)
        rw [e3] at b
        exact (a.trans b).trans (ih hT)
      · rw [if_neg h10] at h
        have ih := (sep_go k rest fs r pre).2 (cs ++ [c]) (by simp [hcs]; exact fun z => h10 z.symm) h
        have e1 : pre ++ (35 :: (cs ++ [c]) ++ (r ++ rest)) = pre ++ (35 :: cs ++ (c :: r ++ rest)) := by simp
        have e2 : pre ++ (35 :: (cs ++ [c]) ++ r) = pre ++ (35 :: cs ++ c :: r) := by simp
        rw [e1, e2] at ih
        exact ih hT
/-! ### tokens -/
abbrev kText : List Nat := [116, 101, 120, 116]
abbrev kSign : List Nat := [115, 105, 103, 110]
def tx (kd wd : List Nat) : List Nat := if kd = kText then 34 :: (wd ++ [34]) else wd
def compat (kd wd rest : List Nat) : Bool := if kd = kText then true else if kd = kSign then (if wd = [60] then stops (fun c => decide (c = 61)) rest else true) else stops wc rest
def tokD (kd wd pre : List Nat) : D := .tup [.str kd, .str wd, .int (rowI pre), .int (colI pre)]
def wordB (w : List Nat) : Bool := match w with
  | [] => false
  | c :: _ => (decide (c ∈ letters) || decide (c ∈ digits)) && w.all wc
theorem names_call (k : Nat) (r cl : D) : ∀ w ∈ mNames, (C (k + 2)).call 8 [.da (.str w), .da r, .da cl] = .ok (.da (.str [110, 97, 109, 101])) [.da (.str w), .da r, .da cl] := by
  intro w hw
  simp only [mNames, List.mem_cons, List.not_mem_nil, or_false] at hw
  rcases hw with rfl | rfl | rfl <;> kernel_rfl
theorem nums_call (k : Nat) (r cl : D) : ∀ w ∈ mNums, (C (k + 2)).call 8 [.da (.str w), .da r, .da cl] = .ok (.da (.str [110, 117, 109, 98, 101, 114])) [.da (.str w), .da r, .da cl] := by
  intro w hw
  simp only [mNums, List.mem_cons, List.not_mem_nil, or_false] at hw
  rcases hw with rfl | rfl | rfl <;> kernel_rfl
theorem kws_kind (k : Nat) (r cl : D) : ∀ w ∈ mKws, (C (k + 2)).call 8 [.da (.str w), .da r, .da cl] = .ok (.da (.str [107, 101, 121, 119, 111, 114, 100])) [.da (.str w), .da r, .da cl] := by
  intro w hw
  simp only [mKws, List.mem_cons, List.not_mem_nil, or_false] at hw
  rcases hw with rfl | rfl <;> kernel_rfl
section
variable {k : Nat} {pre rest : List Nat} {fs : List D}
theorem go_word {kd w : List Nat} (h1 : ¬ kd = kText) (h2 : ¬ kd = kSign) (hw : wordB w = true) (hk : ∀ r cl : D, (C (k + 2)).call 8 [.da (.str w), .da r, .da cl] = .ok (.da (.str kd)) [.da (.str w), .da r, .da cl])
    (hc : compat kd w rest = true) (hT : Tx (pre ++ (tx kd w ++ rest))) (hf : fs.length < 16777216) : Go k (pre ++ (tx kd w ++ rest)) pre fs (pre ++ tx kd w) (fs ++ [tokD kd w pre]) := by
  have et : tx kd w = w := if_neg h1
  unfold compat at hc
  rw [if_neg h1, if_neg h2] at hc
  rw [et] at hT ⊢
  cases w with
  | nil => cases hw
  | cons c w' =>
    have hw : ((decide (c ∈ letters) || decide (c ∈ digits)) && (c :: w').all wc) = true := hw
    rw [Bool.and_eq_true] at hw
    have hall : ∀ x ∈ c :: w', wc x = true := fun x hx => List.all_eq_true.mp hw.2 x hx
    have hc0 : c ∈ letters ∨ c ∈ digits := by simpa using hw.1
    have ne : ∀ d, wc d = false → ∀ x ∈ c :: w', ¬ x = d := fun d hd x hx z => by rw [← z, hall x hx] at hd; cases hd
    refine ⟨1, by simp; omega, fun tok h => ⟨_, NO.da, fun n => step_tok k n fs h hT rfl (fun z => ne 10 (by decide) 10 z rfl) (ne 32 (by decide) c List.mem_cons_self) (ne 35 (by decide) c List.mem_cons_self) hf ?_⟩⟩
    exact tok_word k _ _ rfl hc0 hT hall hc (hk _ _)
theorem go_text {q : List Nat} (hq : ∀ c ∈ q, c ∈ QC) (h40 : q.length ≤ 40) (hT : Tx (pre ++ (tx kText q ++ rest))) (hf : fs.length < 16777216) : Go k (pre ++ (tx kText q ++ rest)) pre fs (pre ++ tx kText q) (fs ++ [tokD kText q pre]) := by
  have et : tx kText q = 34 :: (q ++ [34]) := if_pos rfl
  rw [et] at hT ⊢
  have e1 : pre ++ (34 :: (q ++ [34]) ++ rest) = pre ++ (34 :: (q ++ 34 :: rest)) := by simp
  have h10 : 10 ∉ 34 :: (q ++ [34]) := fun z => by
    have : 10 ∈ q := by simpa using z
    exact absurd (hq 10 this) (by decide)
  refine ⟨1, by simp; omega, fun tok h => ⟨_, NO.da, fun n => step_tok k n fs h hT rfl h10 (by decide) (by decide) hf ?_⟩⟩
  have := tok_text k (.int (rowI pre)) (.int (colI pre)) (rest := rest) (by rw [← e1]; exact hT) hq h40
  rw [e1, show (((34 :: (q ++ [34])).length : Nat) : Int) = (q.length : Nat) + 2 by simp; omega, ← Int.add_assoc]
  exact this
theorem go_sign {c : Nat} (h1 : c ∉ letters) (h2 : c ∉ digits) (h3 : ¬ c = 34) (h4 : c ∈ shorts) (h5 : ¬ (c :: rest).take 2 = [60, 61]) (hT : Tx (pre ++ (tx kSign [c] ++ rest))) (hf : fs.length < 16777216) : Go k (pre ++ (tx kSign [c] ++ rest)) pre fs (pre ++ tx kSign [c]) (fs ++ [tokD kSign [c] pre]) := by
  have et : tx kSign [c] = [c] := if_neg (by decide)
  rw [et] at hT ⊢
  have n10 : ¬ c = 10 := fun z => by rw [z] at h4; exact absurd h4 (by decide)
  have n32 : ¬ c = 32 := fun z => by rw [z] at h4; exact absurd h4 (by decide)
  have n35 : ¬ c = 35 := fun z => by rw [z] at h4; exact absurd h4 (by decide)
  refine ⟨1, by simp; omega, fun tok h => ⟨_, NO.da, fun n => step_tok k n fs h hT rfl (by simpa using fun z : 10 = c => n10 z.symm) n32 n35 hf ?_⟩⟩
  exact tok_sign k _ _ hT h1 h2 h3 h4 h5
theorem go_le (hT : Tx (pre ++ (tx kSign [60, 61] ++ rest))) (hf : fs.length < 16777216) : Go k (pre ++ (tx kSign [60, 61] ++ rest)) pre fs (pre ++ tx kSign [60, 61]) (fs ++ [tokD kSign [60, 61] pre]) := by
  have et : tx kSign [60, 61] = [60, 61] := if_neg (by decide)
  rw [et] at hT ⊢
  refine ⟨1, by simp; omega, fun tok h => ⟨_, NO.da, fun n => step_tok k n fs h hT rfl (by decide) (by decide) (by decide) hf ?_⟩⟩
  exact tok_le k _ _ hT
theorem tok_go {kd wd : List Nat} (hm : (kd, wd) ∈ MENU) (hc : compat kd wd rest = true) (hT : Tx (pre ++ (tx kd wd ++ rest))) (hf : fs.length < 16777216) : Go k (pre ++ (tx kd wd ++ rest)) pre fs (pre ++ tx kd wd) (fs ++ [tokD kd wd pre]) := by
  unfold MENU at hm
  simp only [List.mem_append] at hm
  have get : ∀ {l : List (List Nat)} {q : List Nat}, (kd, wd) ∈ l.map (fun w => (q, w)) → kd = q ∧ wd ∈ l := fun {l q} h => by
    obtain ⟨w, hw, e⟩ := List.mem_map.mp h
    cases e
    exact ⟨rfl, hw⟩
  rcases hm with ((((hm | hm) | hm) | hm) | hm) | hm
  · obtain ⟨rfl, hw⟩ := get hm
    exact go_word (by decide) (by decide) ((by decide : ∀ w ∈ mNames, wordB w = true) wd hw) (fun r cl => names_call k r cl wd hw) hc hT hf
  · obtain ⟨rfl, hw⟩ := get hm
    exact go_word (by decide) (by decide) ((by decide : ∀ w ∈ mNums, wordB w = true) wd hw) (fun r cl => nums_call k r cl wd hw) hc hT hf
  · obtain ⟨rfl, hw⟩ := get hm
    exact go_text ((by decide : ∀ w ∈ mTxts, ∀ c ∈ w, c ∈ QC) wd hw) ((by decide : ∀ w ∈ mTxts, w.length ≤ 40) wd hw) hT hf
  · obtain ⟨rfl, hw⟩ := get hm
    exact go_word (by decide) (by decide) ((by decide : ∀ w ∈ mKws, wordB w = true) wd hw) (fun r cl => kws_kind k r cl wd hw) hc hT hf
  · obtain ⟨rfl, hw⟩ := get hm
    simp only [mS1, List.mem_cons, List.not_mem_nil, or_false] at hw
    rcases hw with rfl | rfl
    · exact go_sign (by decide) (by decide) (by decide) (by decide) (by simp) hT hf
    · exact go_le hT hf
  · obtain ⟨rfl, hw⟩ := get hm
    simp only [mS2, List.mem_cons, List.not_mem_nil, or_false] at hw
    rcases hw with rfl | rfl | rfl | rfl <;> exact go_sign (by decide) (by decide) (by decide) (by decide) (by simp) hT hf
end
end K01
/-! Sheetwatch k01: what is refused. -/
namespace K01
open Mp PySem L2
theorem sb0 (k : Nat) : (C k).sub 0 0 = some true := rfl
theorem sb1 (k : Nat) : (C k).sub 1 1 = some true := rfl
theorem sb2 (k : Nat) : (C k).sub 2 2 = some true := rfl
theorem er_char (k : Nat) (r cl : Int) {pre rest : List Nat} {c : Nat} (hT : Tx (pre ++ (c :: rest))) (h1 : c ∉ letters) (h2 : c ∉ digits) (h3 : ¬ c = 34) (h4 : c ∉ shorts) (h5 : ¬ c = 60) :
    (C (k + 3)).call 9 [.da (.str (pre ++ (c :: rest))), .da (.int (pre.length : Nat)), .da (.int r), .da (.int cl)] = .er ⟨0, [.int r, .int cl]⟩ [.da (.str (pre ++ (c :: rest))), .da (.int (pre.length : Nat)), .da (.int r), .da (.int cl)] := by
  have hl := hT.len
  have hc := hT.ok c (by simp)
  have g := at_app pre rest c
  have e := eqC hc (show 34 < 1114112 by decide)
  have ct := cut_two pre (c :: rest)
  rw [Int.natCast_add] at ct
  have ct : cutL (pre ++ c :: rest) (some (pre.length : Int)) (some ((pre.length : Int) + 2)) = (c :: rest).take 2 := ct
  have h6 : ¬ (c :: rest).take 2 = [60, 61] := fun z => by
    injection z with z1 z2
    exact h5 z1
  generalize hss : (c :: rest).take 2 = ss at *
  refine (C_call rfl).trans ?_
  generalize hTT : pre ++ (c :: rest) = TT at *
  simp [fn__token_at, code__token_at, runF, Ss.run, S_.run, E.run, Es.run, As.run, T.run, Ts.run, It.run, OE.run, F.run, pairsRun, R.bind, R.of, R.noEr, Op2.run, addD, i2, Bif.run, ioOk, isOw, hasV, getL, flat, Pt.run, outs, List.range, List.range.loop, lookK, getD', kyD, putKy, callR, refsOf, resolve, keepOw, putBack, ordD, lenD, idxD, truD, small, rngD, setAll, itemsD, Mth.run, sliceD, hl, g, gl3, gl4, gl7, gl8, memC, memLe, h1, h2, e, h3, h4, h6, ct, sb0]
theorem er_num (k : Nat) (r cl : Int) {w pre rest : List Nat} {c : Nat} {w' : List Nat} (hw0 : w = c :: w') (hc0 : c ∈ digits) (hl0 : c ∉ letters) (hT : Tx (pre ++ (w ++ rest))) (hw : ∀ c ∈ w, wc c = true) (hs : stops wc rest = true)
    (hk : (C (k + 2)).call 8 [.da (.str w), .da (.int r), .da (.int cl)] = .er ⟨1, [.int r, .int cl]⟩ [.da (.str w), .da (.int r), .da (.int cl)]) :
    (C (k + 3)).call 9 [.da (.str (pre ++ (w ++ rest))), .da (.int (pre.length : Nat)), .da (.int r), .da (.int cl)] = .er ⟨1, [.int r, .int cl]⟩ [.da (.str (pre ++ (w ++ rest))), .da (.int (pre.length : Nat)), .da (.int r), .da (.int cl)] := by
  have we := we_call (k + 1) hT hw hs
  have cm := cut_mid pre w rest
  have hl := hT.len
  have g : atI (pre ++ (w ++ rest)) (pre.length : Int) = some c := by rw [hw0]; exact at_app pre _ c
  refine (C_call rfl).trans ?_
  generalize hTT : pre ++ (w ++ rest) = TT at *
  rw [Int.natCast_add] at we cm
  simp [fn__token_at, code__token_at, runF, Ss.run, S_.run, E.run, Es.run, As.run, T.run, Ts.run, It.run, OE.run, F.run, pairsRun, R.bind, R.of, R.noEr, Op2.run, addD, i2, Bif.run, ioOk, isOw, hasV, getL, flat, Pt.run, outs, List.range, List.range.loop, lookK, getD', kyD, putKy, callR, refsOf, resolve, keepOw, putBack, ordD, lenD, idxD, truD, small, rngD, setAll, itemsD, Mth.run, sliceD, hl, g, gl3, gl4, memC, hl0, hc0, we, cm, hk]
theorem q_bad (k : Nat) (st : D) (r cl : Int) {b : Nat} (hb : ¬ b = 34) (hs : ∀ k, (C (k + 1)).call 4 [.da (.str [b])] = .ok (.da (.bl false)) [.da (.str [b])]) : ∀ (q pre rest : List Nat) (n : Nat), Tx (pre ++ (q ++ b :: rest)) → (∀ c ∈ q, c ∈ QC) →
    ∃ ε', whlRun (t1__quoted.run (C (k + 1)) []) (b2__quoted.run (C (k + 1)) []) (n + 1 + q.length) [.da (.str (pre ++ (q ++ b :: rest))), .da st, .da (.int r), .da (.int cl), .da (.int (pre.length : Nat))] = .er ⟨2, [.int r, .int cl]⟩ ε'
  | [], pre, rest, n, hT, _ => by
    have hl := hT.len
    have hc := hT.ok b (by simp)
    simp only [List.nil_append] at hl ⊢
    have g := at_app pre rest b
    have e := eqC hc (show 34 < 1114112 by decide)
    have sc := hs k
    have hlt : ((pre.length : Nat) : Int) < (((pre ++ b :: rest).length : Nat) : Int) := by simp; omega
    generalize hTT : pre ++ b :: rest = TT at *
    refine ⟨[.da (.str TT), .da st, .da (.int r), .da (.int cl), .da (.int (pre.length : Nat))], ?_⟩
    conv => lhs; unfold whlRun
    simp [t1__quoted, b2__quoted, runF, Ss.run, S_.run, E.run, Es.run, As.run, T.run, Ts.run, It.run, OE.run, F.run, pairsRun, R.bind, R.of, R.noEr, Op2.run, addD, i2, Bif.run, ioOk, isOw, hasV, getL, flat, Pt.run, outs, List.range, List.range.loop, lookK, getD', kyD, putKy, callR, refsOf, resolve, keepOw, putBack, ordD, lenD, idxD, truD, small, rngD, setAll, itemsD, Mth.run, sliceD, hl, g, hlt, e, hb, sc, sb2]
  | c :: q, pre, rest, n, hT, hq => by
    obtain ⟨ε', ih⟩ := q_bad k st r cl hb hs q (pre ++ [c]) rest n (by simpa using hT) (fun x hx => hq x (List.mem_cons_of_mem _ hx))
    rw [show pre ++ [c] ++ (q ++ b :: rest) = pre ++ (c :: q ++ b :: rest) by simp, show (((pre ++ [c]).length : Nat) : Int) = (pre.length : Int) + 1 by simp] at ih
    rw [show n + 1 + (c :: q).length = (n + 1 + q.length) + 1 by simp; omega]
    refine ⟨ε', Eq.trans ?_ ih⟩
    conv => lhs; unfold whlRun
    have hc := hT.ok c (by simp)
    have hl := hT.len
    have g := at_app pre (q ++ b :: rest) c
    rw [← List.cons_append] at g
    have sc := sign_call k c (hq c List.mem_cons_self)
    have h34 : ¬ c = 34 := fun z => absurd (hq c List.mem_cons_self) (by rw [z]; decide)
    have e := eqC hc (show 34 < 1114112 by decide)
    have hlt : ((pre.length : Nat) : Int) < (((pre ++ (c :: q ++ b :: rest)).length : Nat) : Int) := by simp; omega
    generalize hTT : pre ++ (c :: q ++ b :: rest) = TT at *
    simp [t1__quoted, b2__quoted, runF, Ss.run, S_.run, E.run, Es.run, As.run, T.run, Ts.run, It.run, OE.run, F.run, pairsRun, R.bind, R.of, R.noEr, Op2.run, addD, i2, Bif.run, ioOk, isOw, hasV, getL, flat, Pt.run, outs, List.range, List.range.loop, lookK, getD', kyD, putKy, callR, refsOf, resolve, keepOw, putBack, ordD, lenD, idxD, truD, small, rngD, setAll, itemsD, Mth.run, sliceD, hl, g, hlt, e, h34, sc]
theorem er_quote (k : Nat) (r cl : Int) {b : Nat} (hb : ¬ b = 34) (hs : ∀ k, (C (k + 1)).call 4 [.da (.str [b])] = .ok (.da (.bl false)) [.da (.str [b])]) {q pre rest : List Nat} (hT : Tx (pre ++ (34 :: (q ++ b :: rest)))) (hq : ∀ c ∈ q, c ∈ QC) (h40 : q.length ≤ 1000) :
    (C (k + 3)).call 9 [.da (.str (pre ++ (34 :: (q ++ b :: rest)))), .da (.int (pre.length : Nat)), .da (.int r), .da (.int cl)] = .er ⟨2, [.int r, .int cl]⟩ [.da (.str (pre ++ (34 :: (q ++ b :: rest)))), .da (.int (pre.length : Nat)), .da (.int r), .da (.int cl)] := by
  obtain ⟨ε', e⟩ := q_bad k (.int (pre.length : Nat)) r cl hb hs q (pre ++ [34]) rest (WF - 1 - q.length) (by simpa using hT) hq
  rw [← wf_split (by omega)] at e
  rw [show pre ++ [34] ++ (q ++ b :: rest) = pre ++ (34 :: (q ++ b :: rest)) by simp] at e
  have e0 : (((pre ++ ([34] : List Nat)).length : Nat) : Int) = (pre.length : Int) + 1 := by simp
  rw [e0] at e
  have hl := hT.len
  have g := at_app pre (q ++ b :: rest) 34
  have h1 : 34 ∉ letters := by decide
  have h2 : 34 ∉ digits := by decide
  have e3 := eqC (c := 34) (d := 34) (by decide) (by decide)
  generalize hTT : pre ++ (34 :: (q ++ b :: rest)) = TT at *
  have qe : (C (k + 2)).call 5 [.da (.str TT), .da (.int (pre.length : Nat)), .da (.int r), .da (.int cl)] = .er ⟨2, [.int r, .int cl]⟩ [.da (.str TT), .da (.int (pre.length : Nat)), .da (.int r), .da (.int cl)] := by
    refine (C_call rfl).trans ?_
    simp [fn__quoted, code__quoted, runF, Ss.run, S_.run, E.run, Es.run, As.run, T.run, Ts.run, It.run, OE.run, F.run, pairsRun, R.bind, R.of, R.noEr, Op2.run, addD, i2, Bif.run, ioOk, isOw, hasV, getL, flat, Pt.run, outs, List.range, List.range.loop, lookK, getD', kyD, putKy, callR, refsOf, resolve, keepOw, putBack, ordD, lenD, idxD, truD, small, rngD, setAll, itemsD, Mth.run, sliceD, e]
  refine (C_call rfl).trans ?_
  simp [fn__token_at, code__token_at, runF, Ss.run, S_.run, E.run, Es.run, As.run, T.run, Ts.run, It.run, OE.run, F.run, pairsRun, R.bind, R.of, R.noEr, Op2.run, addD, i2, Bif.run, ioOk, isOw, hasV, getL, flat, Pt.run, outs, List.range, List.range.loop, lookK, getD', kyD, putKy, callR, refsOf, resolve, keepOw, putBack, ordD, lenD, idxD, truD, small, rngD, setAll, itemsD, Mth.run, sliceD, hl, g, gl3, gl4, memC, h1, h2, qe, e3]
theorem er_long (k : Nat) (r cl : Int) {q pre rest : List Nat} (hT : Tx (pre ++ (34 :: (q ++ 34 :: rest)))) (hq : ∀ c ∈ q, c ∈ QC) (h40 : 40 < q.length) (h1000 : q.length ≤ 1000) :
    (C (k + 3)).call 9 [.da (.str (pre ++ (34 :: (q ++ 34 :: rest)))), .da (.int (pre.length : Nat)), .da (.int r), .da (.int cl)] = .er ⟨2, [.int r, .int cl]⟩ [.da (.str (pre ++ (34 :: (q ++ 34 :: rest)))), .da (.int (pre.length : Nat)), .da (.int r), .da (.int cl)] := by
  have e := q_loop k (.int (pre.length : Nat)) (.int r) (.int cl) q (pre ++ [34]) rest (WF - 1 - q.length) (by simpa using hT) hq
  rw [← wf_split (by omega)] at e
  rw [show pre ++ [34] ++ (q ++ 34 :: rest) = pre ++ (34 :: (q ++ 34 :: rest)) by simp] at e
  have e0 : (((pre ++ ([34] : List Nat)).length : Nat) : Int) = (pre.length : Int) + 1 := by simp
  rw [e0] at e
  have e1 : (((pre ++ ([34] : List Nat)).length + q.length : Nat) : Int) = (pre.length : Int) + 1 + (q.length : Nat) := by simp
  rw [e1] at e
  have hl := hT.len
  have g := at_app pre (q ++ 34 :: rest) 34
  have h1 : 34 ∉ letters := by decide
  have h2 : 34 ∉ digits := by decide
  have e3 := eqC (c := 34) (d := 34) (by decide) (by decide)
  have hne : ¬ (pre.length : Int) + 1 + (q.length : Nat) = (((pre ++ (34 :: (q ++ 34 :: rest))).length : Nat) : Int) := by simp; omega
  have hle : (40 : Int) < (pre.length : Int) + 1 + (q.length : Nat) - (pre.length : Nat) - 1 := by omega
  generalize hTT : pre ++ (34 :: (q ++ 34 :: rest)) = TT at *
  have qe : (C (k + 2)).call 5 [.da (.str TT), .da (.int (pre.length : Nat)), .da (.int r), .da (.int cl)] = .er ⟨2, [.int r, .int cl]⟩ [.da (.str TT), .da (.int (pre.length : Nat)), .da (.int r), .da (.int cl)] := by
    refine (C_call rfl).trans ?_
    simp [fn__quoted, code__quoted, runF, Ss.run, S_.run, E.run, Es.run, As.run, T.run, Ts.run, It.run, OE.run, F.run, pairsRun, R.bind, R.of, R.noEr, Op2.run, addD, i2, Bif.run, ioOk, isOw, hasV, getL, flat, Pt.run, outs, List.range, List.range.loop, lookK, getD', kyD, putKy, callR, refsOf, resolve, keepOw, putBack, ordD, lenD, idxD, truD, small, rngD, setAll, itemsD, Mth.run, sliceD, e, hl, eqI, hne, hle, gl2, sb2]
  refine (C_call rfl).trans ?_
  simp [fn__token_at, code__token_at, runF, Ss.run, S_.run, E.run, Es.run, As.run, T.run, Ts.run, It.run, OE.run, F.run, pairsRun, R.bind, R.of, R.noEr, Op2.run, addD, i2, Bif.run, ioOk, isOw, hasV, getL, flat, Pt.run, outs, List.range, List.range.loop, lookK, getD', kyD, putKy, callR, refsOf, resolve, keepOw, putBack, ordD, lenD, idxD, truD, small, rngD, setAll, itemsD, Mth.run, sliceD, hl, g, gl3, gl4, memC, h1, h2, qe, e3]
/-! ### the reader stops -/
theorem step_er (k n : Nat) {pre w rest : List Nat} {c : Nat} {w' : List Nat} {x : Er} (fs : List D) (tok : Sl) (hT : Tx (pre ++ (w ++ rest))) (hw0 : w = c :: w') (h1 : ¬ c = 10) (h2 : ¬ c = 32) (h3 : ¬ c = 35)
    (ht : (C (k + 3)).call 9 [.da (.str (pre ++ (w ++ rest))), .da (.int (pre.length : Nat)), .da (.int (rowI pre)), .da (.int (colI pre))] = .er x [.da (.str (pre ++ (w ++ rest))), .da (.int (pre.length : Nat)), .da (.int (rowI pre)), .da (.int (colI pre))]) :
    ∃ ε', LT k (n + 1) (stT (pre ++ (w ++ rest)) pre fs tok) = .er x ε' := by
  have hl := hT.len
  have g : atI (pre ++ (w ++ rest)) (pre.length : Int) = some c := by rw [hw0]; exact at_app pre _ c
  have hc : c < 1114112 := hT.ok c (by rw [hw0]; simp)
  have e := eqC hc (show 10 < 1114112 by decide)
  have e' := eqC hc (show 32 < 1114112 by decide)
  have e'' := eqC hc (show 35 < 1114112 by decide)
  have hlt : ((pre.length : Nat) : Int) < (((pre ++ (w ++ rest)).length : Nat) : Int) := by rw [hw0]; simp; omega
  unfold LT stT
  unfold colI at ht
  generalize hTT : pre ++ (w ++ rest) = TT at *
  refine ⟨[.da (.str TT), .ow (.ls fs), .da (.int (pre.length : Nat)), .da (.int (rowI pre)), .da (.int (begN pre : Nat)), tok], ?_⟩
  conv => lhs; unfold whlRun
  simp [t1_tokens, b2_tokens, runF, Ss.run, S_.run, E.run, Es.run, As.run, T.run, Ts.run, It.run, OE.run, F.run, pairsRun, R.bind, R.of, R.noEr, Op2.run, addD, i2, Bif.run, ioOk, isOw, hasV, getL, flat, Pt.run, outs, List.range, List.range.loop, lookK, getD', kyD, putKy, callR, refsOf, resolve, keepOw, putBack, ordD, lenD, idxD, truD, small, rngD, setAll, itemsD, Mth.run, sliceD, hl, g, hlt, e, e', e'', h1, h2, h3, ht]
theorem tokens_er (k : Nat) {t : List Nat} {x : Er} {ε' : En} (h : LT k WF (stT t [] [] .no) = .er x ε') : (C (k + 4)).call 10 [.da (.str t)] = .er x [.da (.str t)] := by
  refine (C_call rfl).trans ?_
  unfold LT stT at h
  have h : whlRun (t1_tokens.run (C (k + 3)) []) (b2_tokens.run (C (k + 3)) []) WF [.da (.str t), .ow (.ls []), .da (.int 0), .da (.int 1), .da (.int 0), .no] = _ := h
  simp [fn_tokens, code_tokens, runF, Ss.run, S_.run, E.run, Es.run, As.run, T.run, Ts.run, It.run, OE.run, F.run, pairsRun, R.bind, R.of, R.noEr, Op2.run, addD, i2, Bif.run, ioOk, isOw, hasV, getL, flat, Pt.run, outs, List.range, List.range.loop, lookK, getD', kyD, putKy, callR, refsOf, resolve, keepOw, putBack, ordD, lenD, idxD, truD, small, rngD, setAll, itemsD, Mth.run, sliceD, h]
theorem told_ok (k : Nat) {t : List Nat} {ds : List D} (h : (C k).call 10 [.da (.str t)] = .ok (.da (.lst ds)) [.da (.str t)]) : (C (k + 1)).call 11 [.da (.str t)] = .ok (.da (.tup [.str [116, 111, 107, 101, 110, 115], .int (ds.length : Nat)])) [.da (.str t)] := by
  refine (C_call rfl).trans ?_
  simp [fn__law_told, code__law_told, runF, Ss.run, S_.run, E.run, Es.run, As.run, T.run, Ts.run, It.run, OE.run, F.run, pairsRun, R.bind, R.of, R.noEr, Op2.run, addD, i2, Bif.run, ioOk, isOw, hasV, getL, flat, Pt.run, outs, List.range, List.range.loop, lookK, getD', kyD, putKy, callR, refsOf, resolve, keepOw, putBack, ordD, lenD, idxD, truD, small, rngD, setAll, itemsD, Mth.run, sliceD, h]
end K01
/-! Sheetwatch k01: bad words; the menus. -/
namespace K01
open Mp PySem L2
abbrev mRaw : List (List Nat) := [[97], [103, 111, 95], [34, 120, 32, 121, 34], [49, 48], [119, 97, 116, 99, 104], [110, 111, 116], [61], [60, 61], [46], [40], [93], [44], [120, 95, 49], [49, 48, 48, 48, 48, 48, 48, 48, 48, 48, 48, 48, 48], [48], [34, 34]]
abbrev mBetw : List (List Nat) := [[32], [10], [32, 32], [10, 32, 35, 32, 95, 32, 48, 49, 32, 34, 32, 33, 10], [32, 35, 10, 32, 32]]
abbrev mBadC : List (List Nat) := [[95], [39], [36], [94], [126], [124], [38], [123], [125], [95, 97], [9], [9, 97], [64, 120], [58], [33], [62], [63], [47], [96], [92], [92, 97]]
abbrev mBadN : List (List Nat) := [[48, 49], [48, 48], [49, 97], [50, 95], [51, 95, 52], [49, 48, 48, 48, 48, 48, 48, 48, 48, 48, 48, 48, 49], [57, 57, 57, 57, 57, 57, 57, 57, 57, 57, 57, 57, 57, 57, 57, 57, 57, 57, 57, 57], [48, 120], [55, 65], [49, 48, 110, 111, 116]]
abbrev mBadQ : List (List Nat) := [[34], [34, 97, 98, 99], [34, 97, 10, 98, 34], [34, 97, 97, 97, 97, 97, 97, 97, 97, 97, 97, 97, 97, 97, 97, 97, 97, 97, 97, 97, 97, 97, 97, 97, 97, 97, 97, 97, 97, 97, 97, 97, 97, 97, 97, 97, 97, 97, 97, 97, 97, 97, 34], [34, 120, 9, 34], [34, 9, 121, 34], [34, 10, 34], [34, 120, 92, 34], [34, 92, 34]]
abbrev kdOf (cl : Nat) : List Nat := if cl = 0 then [99, 104, 97, 114, 97, 99, 116, 101, 114] else if cl = 1 then [110, 117, 109, 98, 101, 114] else [113, 117, 111, 116, 101]
theorem su00 (k : Nat) : (C k).sub 0 0 = some true := rfl
theorem su01 (k : Nat) : (C k).sub 0 1 = some false := rfl
theorem su02 (k : Nat) : (C k).sub 0 2 = some false := rfl
theorem su05 (k : Nat) : (C k).sub 0 5 = some false := rfl
theorem su03 (k : Nat) : (C k).sub 0 3 = some true := rfl
theorem su10 (k : Nat) : (C k).sub 1 0 = some false := rfl
theorem su11 (k : Nat) : (C k).sub 1 1 = some true := rfl
theorem su12 (k : Nat) : (C k).sub 1 2 = some false := rfl
theorem su15 (k : Nat) : (C k).sub 1 5 = some false := rfl
theorem su13 (k : Nat) : (C k).sub 1 3 = some true := rfl
theorem su20 (k : Nat) : (C k).sub 2 0 = some false := rfl
theorem su21 (k : Nat) : (C k).sub 2 1 = some false := rfl
theorem su22 (k : Nat) : (C k).sub 2 2 = some true := rfl
theorem su25 (k : Nat) : (C k).sub 2 5 = some false := rfl
theorem su23 (k : Nat) : (C k).sub 2 3 = some true := rfl
theorem su24 (k : Nat) : (C k).sub 2 4 = some true := rfl
theorem ex0 (k : Nat) : (C k).ex = none := rfl
theorem told_er0 (k : Nat) (r cl : Int) {t : List Nat} (h : (C k).call 10 [.da (.str t)] = .er ⟨0, [.int r, .int cl]⟩ [.da (.str t)]) : (C (k + 1)).call 11 [.da (.str t)] = .ok (.da (.tup [.str [99, 104, 97, 114, 97, 99, 116, 101, 114], .int r, .int cl, .bl false, .bl true])) [.da (.str t)] := by
  refine (C_call rfl).trans ?_
  simp [fn__law_told, code__law_told, runF, Ss.run, S_.run, E.run, Es.run, As.run, T.run, Ts.run, It.run, OE.run, F.run, pairsRun, R.bind, R.of, R.noEr, Op2.run, addD, i2, Bif.run, ioOk, isOw, hasV, getL, flat, Pt.run, outs, List.range, List.range.loop, lookK, getD', kyD, putKy, callR, refsOf, resolve, keepOw, putBack, ordD, lenD, idxD, truD, small, rngD, setAll, itemsD, Mth.run, sliceD, Hs.run, subAny, ex0, h, su00, su01, su02, su05, su03]
theorem told_er1 (k : Nat) (r cl : Int) {t : List Nat} (h : (C k).call 10 [.da (.str t)] = .er ⟨1, [.int r, .int cl]⟩ [.da (.str t)]) : (C (k + 1)).call 11 [.da (.str t)] = .ok (.da (.tup [.str [110, 117, 109, 98, 101, 114], .int r, .int cl, .bl false, .bl true])) [.da (.str t)] := by
  refine (C_call rfl).trans ?_
  simp [fn__law_told, code__law_told, runF, Ss.run, S_.run, E.run, Es.run, As.run, T.run, Ts.run, It.run, OE.run, F.run, pairsRun, R.bind, R.of, R.noEr, Op2.run, addD, i2, Bif.run, ioOk, isOw, hasV, getL, flat, Pt.run, outs, List.range, List.range.loop, lookK, getD', kyD, putKy, callR, refsOf, resolve, keepOw, putBack, ordD, lenD, idxD, truD, small, rngD, setAll, itemsD, Mth.run, sliceD, Hs.run, subAny, ex0, h, su10, su11, su12, su15, su13]
theorem told_er2 (k : Nat) (r cl : Int) {t : List Nat} (h : (C k).call 10 [.da (.str t)] = .er ⟨2, [.int r, .int cl]⟩ [.da (.str t)]) : (C (k + 1)).call 11 [.da (.str t)] = .ok (.da (.tup [.str [113, 117, 111, 116, 101], .int r, .int cl, .bl false, .bl true])) [.da (.str t)] := by
  refine (C_call rfl).trans ?_
  simp [fn__law_told, code__law_told, runF, Ss.run, S_.run, E.run, Es.run, As.run, T.run, Ts.run, It.run, OE.run, F.run, pairsRun, R.bind, R.of, R.noEr, Op2.run, addD, i2, Bif.run, ioOk, isOw, hasV, getL, flat, Pt.run, outs, List.range, List.range.loop, lookK, getD', kyD, putKy, callR, refsOf, resolve, keepOw, putBack, ordD, lenD, idxD, truD, small, rngD, setAll, itemsD, Mth.run, sliceD, Hs.run, subAny, ex0, h, su20, su21, su22, su25, su23, su24]
theorem ns10 (k : Nat) : (C (k + 1)).call 4 [.da (.str [10])] = .ok (.da (.bl false)) [.da (.str [10])] := by kernel_rfl
theorem ns9 (k : Nat) : (C (k + 1)).call 4 [.da (.str [9])] = .ok (.da (.bl false)) [.da (.str [9])] := by kernel_rfl
theorem ns92 (k : Nat) : (C (k + 1)).call 4 [.da (.str [92])] = .ok (.da (.bl false)) [.da (.str [92])] := by kernel_rfl
theorem badn_call (k : Nat) (r cl : Int) : ∀ w ∈ mBadN, (C (k + 2)).call 8 [.da (.str w), .da (.int r), .da (.int cl)] = .er ⟨1, [.int r, .int cl]⟩ [.da (.str w), .da (.int r), .da (.int cl)] := by
  intro w hw
  simp only [mBadN, List.mem_cons, List.not_mem_nil, or_false] at hw
  rcases hw with rfl | rfl | rfl | rfl | rfl | rfl | rfl | rfl | rfl | rfl <;> kernel_rfl
def rcB (s : List Nat) : Bool := match s with
  | [] => true
  | c :: _ => decide (c = 10) || decide (c = 32)
theorem rc_stops {s : List Nat} (h : rcB s = true) : stops wc s = true := by
  cases s with
  | nil => rfl
  | cons c r =>
    have h : (decide (c = 10) || decide (c = 32)) = true := h
    simp at h
    rcases h with rfl | rfl <;> rfl
def firstB (p : Nat → Bool) (w : List Nat) : Bool := match w with
  | [] => false
  | c :: _ => p c
def badC1 (c : Nat) : Bool := !decide (c ∈ letters) && (!decide (c ∈ digits) && (!decide (c = 34) && (!decide (c ∈ shorts) && (!decide (c = 60) && (!decide (c = 10) && (!decide (c = 32) && !decide (c = 35)))))))
structure BadAt (k : Nat) (cl : Nat) (w rest : List Nat) : Prop where
  at_ : ∀ (pre : List Nat) (r c : Int), Tx (pre ++ (w ++ rest)) → (C (k + 3)).call 9 [.da (.str (pre ++ (w ++ rest))), .da (.int (pre.length : Nat)), .da (.int r), .da (.int c)] = .er ⟨cl, [.int r, .int c]⟩ [.da (.str (pre ++ (w ++ rest))), .da (.int (pre.length : Nat)), .da (.int r), .da (.int c)]
  hd : ∃ c w', w = c :: w' ∧ ¬ c = 10 ∧ ¬ c = 32 ∧ ¬ c = 35
theorem badC_at (k : Nat) {w : List Nat} (h : w ∈ mBadC) (rest : List Nat) : BadAt k 0 w rest := by
  have q := (by decide +kernel : ∀ w ∈ mBadC, firstB badC1 w = true) w h
  cases w with
  | nil => cases q
  | cons c w' =>
    have q : badC1 c = true := q
    unfold badC1 at q
    simp only [Bool.and_eq_true, Bool.not_eq_true', decide_eq_false_iff_not] at q
    obtain ⟨q1, q2, q3, q4, q5, q6, q7, q8⟩ := q
    exact ⟨fun pre r cc hT => er_char k r cc hT q1 q2 q3 q4 q5, c, w', rfl, q6, q7, q8⟩
theorem badN_at (k : Nat) {w : List Nat} (h : w ∈ mBadN) {rest : List Nat} (hr : rcB rest = true) : BadAt k 1 w rest := by
  have q := (by decide +kernel : ∀ w ∈ mBadN, firstB (fun c => decide (c ∈ digits) && !decide (c ∈ letters)) w = true ∧ w.all wc = true) w h
  have hk := fun r cc => badn_call k r cc w h
  cases w with
  | nil => cases q.1
  | cons c w' =>
    have q1 : (decide (c ∈ digits) && !decide (c ∈ letters)) = true := q.1
    simp only [Bool.and_eq_true, Bool.not_eq_true', decide_eq_false_iff_not, decide_eq_true_eq] at q1
    have ne : ∀ d, d ∉ digits → ¬ c = d := fun d hd z => hd (z ▸ q1.1)
    exact ⟨fun pre r cc hT => er_num k r cc rfl q1.1 q1.2 hT (fun x hx => List.all_eq_true.mp q.2 x hx) (rc_stops hr) (hk r cc), c, w', rfl, ne 10 (by decide), ne 32 (by decide), ne 35 (by decide)⟩
theorem badQ_at (k : Nat) {w : List Nat} (h : w ∈ mBadQ) {rest : List Nat} (hr : w = [34] ∨ w = [34, 97, 98, 99] → rest = [10]) : BadAt k 2 w rest := by
  simp only [mBadQ, List.mem_cons, List.not_mem_nil, or_false] at h
  rcases h with rfl | rfl | rfl | rfl | rfl | rfl | rfl | rfl | rfl
  · cases hr (.inl rfl)
    exact ⟨fun pre r c hT => er_quote k r c (b := 10) (by decide) ns10 (q := []) (rest := []) hT (by simp) (by decide), 34, _, rfl, by decide, by decide, by decide⟩
  · cases hr (.inr rfl)
    exact ⟨fun pre r c hT => er_quote k r c (b := 10) (by decide) ns10 (q := [97, 98, 99]) (rest := []) hT (by decide) (by decide), 34, _, rfl, by decide, by decide, by decide⟩
  · exact ⟨fun pre r c hT => er_quote k r c (b := 10) (by decide) ns10 (q := [97]) (rest := 98 :: 34 :: rest) hT (by decide) (by decide), 34, _, rfl, by decide, by decide, by decide⟩
  · exact ⟨fun pre r c hT => er_long k r c (q := [97, 97, 97, 97, 97, 97, 97, 97, 97, 97, 97, 97, 97, 97, 97, 97, 97, 97, 97, 97, 97, 97, 97, 97, 97, 97, 97, 97, 97, 97, 97, 97, 97, 97, 97, 97, 97, 97, 97, 97, 97]) (rest := rest) hT (by decide) (by decide) (by decide), 34, _, rfl, by decide, by decide, by decide⟩
  · exact ⟨fun pre r c hT => er_quote k r c (b := 9) (by decide) ns9 (q := [120]) (rest := 34 :: rest) hT (by decide) (by decide), 34, _, rfl, by decide, by decide, by decide⟩
  · exact ⟨fun pre r c hT => er_quote k r c (b := 9) (by decide) ns9 (q := []) (rest := 121 :: 34 :: rest) hT (by simp) (by decide), 34, _, rfl, by decide, by decide, by decide⟩
  · exact ⟨fun pre r c hT => er_quote k r c (b := 10) (by decide) ns10 (q := []) (rest := 34 :: rest) hT (by simp) (by decide), 34, _, rfl, by decide, by decide, by decide⟩
  · exact ⟨fun pre r c hT => er_quote k r c (b := 92) (by decide) ns92 (q := [120]) (rest := 34 :: rest) hT (by decide) (by decide), 34, _, rfl, by decide, by decide, by decide⟩
  · exact ⟨fun pre r c hT => er_quote k r c (b := 92) (by decide) ns92 (q := []) (rest := 34 :: rest) hT (by simp) (by decide), 34, _, rfl, by decide, by decide, by decide⟩
/-- what is told of a text with a bad place -/
theorem told_bad (k : Nat) {cl : Nat} (hcl : cl < 3) {txt w rest : List Nat} {fs : List D} (hb : BadAt k cl w rest) (hT : Tx (txt ++ (w ++ rest))) (g : Go k (txt ++ (w ++ rest)) [] [] txt fs) :
    (C (k + 5)).call 11 [.da (.str (txt ++ (w ++ rest)))] = .ok (.da (.tup [.str (kdOf cl), .int (rowI txt), .int (colI txt), .bl false, .bl true])) [.da (.str (txt ++ (w ++ rest)))] := by
  obtain ⟨c, w', hw, h1, h2, h3⟩ := hb.hd
  obtain ⟨j, hj, h⟩ := g
  obtain ⟨tok, _, e⟩ := h .no NO.no
  have hlen := hT.len
  have hj : j ≤ 16777216 := by simp at hj hlen; omega
  have wf : WF = (WF - j - 1) + 1 + j := by
    have : WF = 100000000 := rfl
    omega
  obtain ⟨ε', er⟩ := step_er k (WF - j - 1) fs tok hT hw h1 h2 h3 (hb.at_ txt (rowI txt) (colI txt) hT)
  have tk := tokens_er k (t := txt ++ (w ++ rest)) (ε' := ε') (by rw [wf, e, er])
  match cl, hcl, tk with
  | 0, _, tk => exact told_er0 (k + 4) _ _ tk
  | 1, _, tk => exact told_er1 (k + 4) _ _ tk
  | 2, _, tk => exact told_er2 (k + 4) _ _ tk
end K01
/-! Sheetwatch k01: the law. -/
namespace K01
open Mp PySem L2
theorem addS {a b : List Nat} (h : a.length + b.length ≤ 16777216) : addD (.str a) (.str b) = some (.str (a ++ b)) := if_pos h
theorem addI (a b : Int) : addD (.int a) (.int b) = some (.int (a + b)) := rfl
theorem good_call (k : Nat) (rs : List Int) {i : Int} (s : Int) (hi : 0 ≤ i) : ∃ (w : List Nat) (j : Int), 0 ≤ j ∧ w ∈ mRaw ∧ (C (k + 3)).call 14 [DR rs i s] = .ok (.da (.str w)) [DR rs j s] := by
  obtain ⟨r, j, h0, h9, hj, p0⟩ := pick_any k rs s (many := 16) hi (by decide)
  obtain ⟨w, hw, g⟩ := menu mRaw h0 (by show r < 16; exact h9)
  simp only [List.map_cons, List.map_nil] at g
  refine ⟨w, j, hj, hw, (C_call rfl).trans ?_⟩
  simp [fn__law_good, code__law_good, runF, Ss.run, S_.run, E.run, Es.run, As.run, T.run, Ts.run, It.run, OE.run, F.run, pairsRun, R.bind, R.of, R.noEr, Op2.run, addD, i2, Bif.run, ioOk, isOw, hasV, getL, flat, Pt.run, outs, List.range, List.range.loop, lookK, getD', kyD, putKy, callR, refsOf, resolve, keepOw, putBack, ordD, lenD, idxD, truD, small, rngD, setAll, itemsD, Mth.run, sliceD, p0, g]
theorem between_call (k : Nat) (rs : List Int) {i : Int} (s : Int) (hi : 0 ≤ i) : ∃ (w : List Nat) (j : Int), 0 ≤ j ∧ w ∈ mBetw ∧ (C (k + 3)).call 13 [DR rs i s] = .ok (.da (.str w)) [DR rs j s] := by
  obtain ⟨r, j, h0, h9, hj, p0⟩ := pick_any k rs s (many := 5) hi (by decide)
  obtain ⟨w, hw, g⟩ := menu mBetw h0 (by show r < 5; exact h9)
  simp only [List.map_cons, List.map_nil] at g
  refine ⟨w, j, hj, hw, (C_call rfl).trans ?_⟩
  simp [fn__law_between, code__law_between, runF, Ss.run, S_.run, E.run, Es.run, As.run, T.run, Ts.run, It.run, OE.run, F.run, pairsRun, R.bind, R.of, R.noEr, Op2.run, addD, i2, Bif.run, ioOk, isOw, hasV, getL, flat, Pt.run, outs, List.range, List.range.loop, lookK, getD', kyD, putKy, callR, refsOf, resolve, keepOw, putBack, ordD, lenD, idxD, truD, small, rngD, setAll, itemsD, Mth.run, sliceD, p0, g]
def badM (cl : Nat) (w : List Nat) : Prop := (cl = 0 ∧ w ∈ mBadC) ∨ (cl = 1 ∧ w ∈ mBadN) ∨ (cl = 2 ∧ w ∈ mBadQ)
theorem a41 : mulD (.str [97]) (.int 41) = some (.str [97, 97, 97, 97, 97, 97, 97, 97, 97, 97, 97, 97, 97, 97, 97, 97, 97, 97, 97, 97, 97, 97, 97, 97, 97, 97, 97, 97, 97, 97, 97, 97, 97, 97, 97, 97, 97, 97, 97, 97, 97]) := rfl
theorem bad_call (k : Nat) (rs : List Int) {i : Int} (s : Int) (hi : 0 ≤ i) : ∃ (cl : Nat) (w : List Nat) (j : Int), 0 ≤ j ∧ badM cl w ∧ (C (k + 3)).call 12 [DR rs i s] = .ok (.da (.tup [.str (kdOf cl), .str w])) [DR rs j s] := by
  obtain ⟨r, j, h0, h9, hj, p0⟩ := pick_any k rs s (many := 3) hi (by decide)
  by_cases c1 : r = 0
  · obtain ⟨r1, j1, h1, h2, hj1, p1⟩ := pick_any k rs s (many := 21) hj (by decide)
    obtain ⟨w, hw, g⟩ := menu mBadC h1 (by show r1 < 21; exact h2)
    simp only [List.map_cons, List.map_nil] at g
    refine ⟨0, w, j1, hj1, .inl ⟨rfl, hw⟩, (C_call rfl).trans ?_⟩
    simp [fn__law_bad, code__law_bad, runF, Ss.run, S_.run, E.run, Es.run, As.run, T.run, Ts.run, It.run, OE.run, F.run, pairsRun, R.bind, R.of, R.noEr, Op2.run, addD, i2, Bif.run, ioOk, isOw, hasV, getL, flat, Pt.run, outs, List.range, List.range.loop, lookK, getD', kyD, putKy, callR, refsOf, resolve, keepOw, putBack, ordD, lenD, idxD, truD, small, rngD, setAll, itemsD, Mth.run, sliceD, p0, p1, g, eqI, c1, kdOf]
  · by_cases c2 : r = 1
    · obtain ⟨r1, j1, h1, h2, hj1, p1⟩ := pick_any k rs s (many := 10) hj (by decide)
      obtain ⟨w, hw, g⟩ := menu mBadN h1 (by show r1 < 10; exact h2)
      simp only [List.map_cons, List.map_nil] at g
      refine ⟨1, w, j1, hj1, .inr (.inl ⟨rfl, hw⟩), (C_call rfl).trans ?_⟩
      simp [fn__law_bad, code__law_bad, runF, Ss.run, S_.run, E.run, Es.run, As.run, T.run, Ts.run, It.run, OE.run, F.run, pairsRun, R.bind, R.of, R.noEr, Op2.run, addD, i2, Bif.run, ioOk, isOw, hasV, getL, flat, Pt.run, outs, List.range, List.range.loop, lookK, getD', kyD, putKy, callR, refsOf, resolve, keepOw, putBack, ordD, lenD, idxD, truD, small, rngD, setAll, itemsD, Mth.run, sliceD, p0, p1, g, eqI, c1, c2, kdOf]
    · obtain ⟨r1, j1, h1, h2, hj1, p1⟩ := pick_any k rs s (many := 9) hj (by decide)
      obtain ⟨w, hw, g⟩ := menu mBadQ h1 (by show r1 < 9; exact h2)
      simp only [List.map_cons, List.map_nil] at g
      refine ⟨2, w, j1, hj1, .inr (.inr ⟨rfl, hw⟩), (C_call rfl).trans ?_⟩
      simp [fn__law_bad, code__law_bad, runF, Ss.run, S_.run, E.run, Es.run, As.run, T.run, Ts.run, It.run, OE.run, F.run, pairsRun, R.bind, R.of, R.noEr, Op2.run, addD, i2, Bif.run, ioOk, isOw, hasV, getL, flat, Pt.run, outs, List.range, List.range.loop, lookK, getD', kyD, putKy, callR, refsOf, resolve, keepOw, putBack, ordD, lenD, idxD, truD, small, rngD, setAll, itemsD, Mth.run, sliceD, p0, p1, g, eqI, c1, c2, kdOf, a41]
/-! ### good texts -/
structure Inv (k : Nat) (txt : List Nat) (fs : List D) : Prop where
  good : ∀ rest, Tx (txt ++ rest) → Go k (txt ++ rest) [] [] txt fs
  ok : ∀ c ∈ txt, c < 1114112
theorem compat_sp {kd wd l : List Nat} (h : firstB (fun c => decide (c = 10) || decide (c = 32)) l = true) (rest : List Nat) : compat kd wd (l ++ rest) = true := by
  cases l with
  | nil => cases h
  | cons c r =>
    have h : (decide (c = 10) || decide (c = 32)) = true := h
    simp at h
    unfold compat
    by_cases h1 : kd = kText
    · rw [if_pos h1]
    · rw [if_neg h1]
      by_cases h2 : kd = kSign
      · rw [if_pos h2]
        by_cases h3 : wd = [60]
        · rw [if_pos h3]
          rcases h with rfl | rfl <;> rfl
        · rw [if_neg h3]
      · rw [if_neg h2]
        rcases h with rfl | rfl <;> rfl
theorem Inv.next {k : Nat} {txt : List Nat} {fs : List D} (I : Inv k txt fs) {w b : List Nat} (hw : w ∈ mRaw) (hb : b ∈ mBetw) (hf : fs.length < 16777216) : ∃ d, Inv k (txt ++ w ++ b) (fs ++ [d]) := by
  obtain ⟨p, hp, e⟩ := (by decide +kernel : ∀ w ∈ mRaw, ∃ p ∈ MENU, tx p.1 p.2 = w) w hw
  obtain ⟨b1, b2, b3⟩ := (by decide +kernel : ∀ b ∈ mBetw, sepB false b = true ∧ firstB (fun c => decide (c = 10) || decide (c = 32)) b = true ∧ b.all (fun c => decide (c < 1114112)) = true) b hb
  have w3 := (by decide +kernel : ∀ w ∈ mRaw, w.all (fun c => decide (c < 1114112)) = true) w hw
  refine ⟨tokD p.1 p.2 txt, fun rest hT => ?_, fun c hc => ?_⟩
  · have e1 : txt ++ w ++ b ++ rest = txt ++ (w ++ (b ++ rest)) := by simp
    rw [e1] at hT ⊢
    have a := I.good _ hT
    have hp' : (p.1, p.2) ∈ MENU := hp
    have t := tok_go (k := k) (pre := txt) (rest := b ++ rest) (fs := fs) hp' (compat_sp b2 rest) (by rw [e]; exact hT) hf
    rw [e] at t
    have e2 : txt ++ w ++ (b ++ rest) = txt ++ (w ++ (b ++ rest)) := by simp
    have s := (sep_go k rest (fs ++ [tokD p.1 p.2 txt]) b (txt ++ w)).1 b1 (by rw [e2]; exact hT)
    rw [e2] at s
    exact (a.trans t).trans s
  · rw [List.mem_append, List.mem_append] at hc
    rcases hc with (hc | hc) | hc
    · exact I.ok c hc
    · exact of_decide_eq_true (List.all_eq_true.mp w3 c hc)
    · exact of_decide_eq_true (List.all_eq_true.mp b3 c hc)
theorem go_end {k : Nat} {t : List Nat} {fs : List D} (hl : t.length ≤ 16777216) (hf : fs.length < 16777216) (g : Go k t [] [] t fs) :
    (C (k + 4)).call 10 [.da (.str t)] = .ok (.da (.lst (fs ++ [.tup [.str [101, 110, 100], .str [], .int (rowI t), .int (colI t)]]))) [.da (.str t)] := by
  obtain ⟨j, hj, h⟩ := g
  obtain ⟨tok, _, e⟩ := h .no NO.no
  have hj : j ≤ 16777216 := by simp at hj; omega
  have w : WF = (WF - j - 1) + 1 + j := by
    have : WF = 100000000 := rfl
    omega
  refine tokens_call k 0 (tok := tok) hl hf ?_
  rw [w, e, step_end k _ fs tok hl]
/-! ### equal to itself -/
theorem eqD_refl {d : D} (h : shp d = true) : eqD d d = some true := by
  unfold eqD
  rw [h, Bool.and_self, if_pos rfl, SeqAt.eqv_refl _ (SeqAt.canLay_of_shaped h)]
theorem shp2 {w : List Nat} (h : ok1 w = true) (a : Int) : shp (.tup [.str w, .int a]) = true := by
  have a1 : PyData.canLay0 (.str (SX.S w)) = true := SeqAt.canLay_of_shaped (shpS h)
  show ((PyData.canLay0 (.str (SX.S w)) && true) && decide (max 0 (max 0 0) + 1 ≤ 64)) = true
  rw [a1]
  rfl
theorem shp5 {w : List Nat} (h : ok1 w = true) (a b : Int) : shp (.tup [.str w, .int a, .int b, .bl false, .bl true]) = true := by
  have a1 : PyData.canLay0 (.str (SX.S w)) = true := SeqAt.canLay_of_shaped (shpS h)
  show ((PyData.canLay0 (.str (SX.S w)) && true) && decide (max 0 (max 0 (max 0 (max 0 (max 0 0)))) + 1 ≤ 64)) = true
  rw [a1]
  rfl
/-! ### the first loop -/
def e0 (scr : D) (rs : List Int) (i s : Int) (txt : List Nat) (many : Int) (s4 s5 s6 s7 s8 s9 s10 : Sl) : En := [.da scr, DR rs i s, .da (.str txt), .da (.int many), s4, s5, s6, s7, s8, s9, s10, .no, .no]
theorem loop1 (k : Nat) (scr : D) (rs : List Int) (s many : Int) : ∀ (js : List Int) (i : Int) (txt : List Nat) (fs : List D) (s4 : Sl) (m : Nat), 0 ≤ i → Inv k txt fs → txt.length ≤ 40 * m → fs.length = m → m + js.length ≤ 31 → NO s4 →
    ∃ (i' : Int) (txt' : List Nat) (fs' : List D) (s4' : Sl), 0 ≤ i' ∧ Inv k txt' fs' ∧ txt'.length ≤ 1240 ∧ fs'.length = m + js.length ∧ NO s4' ∧
      forRun (.nm 4) (b5_law.run (C (k + 5)) []) (js.map D.int) (e0 scr rs i s txt many s4 .no .no .no .no .no .no) = .ok .nxt (e0 scr rs i' s txt' many s4' .no .no .no .no .no .no)
  | [], i, txt, fs, s4, m, hi, I, h1, h2, h3, n4 => ⟨i, txt, fs, s4, hi, I, by simp at h3; omega, by simp [h2], n4, rfl⟩
  | j :: js, i, txt, fs, s4, m, hi, I, h1, h2, h3, n4 => by
    rw [List.length_cons] at h3
    have hset : Pt.run (.nm 4) (.int j) (e0 scr rs i s txt many s4 .no .no .no .no .no .no) = .ok () (e0 scr rs i s txt many (.da (.int j)) .no .no .no .no .no .no) := by
      unfold e0
      cases s4 with
      | ow c => exact absurd rfl (n4 c)
      | no => rfl
      | ex => rfl
      | da d => rfl
    obtain ⟨w, i1, hi1, hw, c1⟩ := good_call (k + 2) rs s hi
    obtain ⟨b, ib, hib, hb, c2⟩ := between_call (k + 2) rs s hi1
    obtain ⟨d, I'⟩ := I.next hw hb (by omega)
    have wl := (by decide +kernel : ∀ w ∈ mRaw, w.length ≤ 20) w hw
    have bl := (by decide +kernel : ∀ b ∈ mBetw, b.length ≤ 20) b hb
    obtain ⟨i', txt', fs', s4', g1, g2, g3, g4, g5, g6⟩ := loop1 k scr rs s many js ib (txt ++ w ++ b) (fs ++ [d]) (.da (.int j)) (m + 1) hib I' (by rw [List.length_append, List.length_append]; omega) (by simp [h2]) (by omega) NO.da
    refine ⟨i', txt', fs', s4', g1, g2, g3, by rw [g4, List.length_cons]; omega, g5, Eq.trans ?_ g6⟩
    have q1 : addD (.str txt) (.str w) = some (.str (txt ++ w)) := addS (by omega)
    have q2 : addD (.str (txt ++ w)) (.str b) = some (.str (txt ++ w ++ b)) := addS (by rw [List.length_append]; omega)
    rw [List.map_cons]
    conv => lhs; unfold forRun
    rw [hset]
    unfold e0
    generalize txt ++ w ++ b = t2 at *
    generalize txt ++ w = t1 at *
    simp [b5_law, runF, Ss.run, S_.run, E.run, Es.run, As.run, T.run, Ts.run, It.run, OE.run, F.run, pairsRun, R.bind, R.of, R.noEr, Op2.run, i2, Bif.run, ioOk, isOw, hasV, getL, flat, Pt.run, outs, List.range, List.range.loop, lookK, getD', kyD, putKy, callR, refsOf, resolve, keepOw, putBack, ordD, lenD, idxD, truD, small, rngD, setAll, itemsD, Mth.run, sliceD, c1, c2, q1, q2]
/-! ### what follows a bad word -/
theorem loop3 (k : Nat) (scr : D) (rs : List Int) (s many : Int) (txt : List Nat) (s5 s6 s7 s8 s9 : Sl) : ∀ (js : List Int) (i : Int) (rest : List Nat) (s4 : Sl) (m : Nat), 0 ≤ i → rcB rest = true → (∀ c ∈ rest, c < 1114112) → rest.length ≤ 40 * m → m + js.length ≤ 10 → NO s4 →
    ∃ (i' : Int) (rest' : List Nat) (s4' : Sl), 0 ≤ i' ∧ rcB rest' = true ∧ (∀ c ∈ rest', c < 1114112) ∧ rest'.length ≤ 400 ∧ NO s4' ∧
      forRun (.nm 4) (b3_law.run (C (k + 5)) []) (js.map D.int) (e0 scr rs i s txt many s4 s5 s6 s7 s8 s9 (.da (.str rest))) = .ok .nxt (e0 scr rs i' s txt many s4' s5 s6 s7 s8 s9 (.da (.str rest')))
  | [], i, rest, s4, m, hi, h1, h2, h3, h4, n4 => ⟨i, rest, s4, hi, h1, h2, by simp at h4; omega, n4, rfl⟩
  | j :: js, i, rest, s4, m, hi, h1, h2, h3, h4, n4 => by
    rw [List.length_cons] at h4
    have hset : Pt.run (.nm 4) (.int j) (e0 scr rs i s txt many s4 s5 s6 s7 s8 s9 (.da (.str rest))) = .ok () (e0 scr rs i s txt many (.da (.int j)) s5 s6 s7 s8 s9 (.da (.str rest))) := by
      unfold e0
      cases s4 with
      | ow c => exact absurd rfl (n4 c)
      | no => rfl
      | ex => rfl
      | da d => rfl
    obtain ⟨r0, i1, a0, a1, hi1, p1⟩ := pick_any (k + 3) rs s (many := 2) hi (by decide)
    obtain ⟨w, ib, hib, hw, c1⟩ := good_call (k + 2) rs s hi1
    obtain ⟨r1, i3, b0, b1, hi3, p3⟩ := pick_any (k + 3) rs s (many := 4) hib (by decide)
    obtain ⟨x, hx, gx⟩ := menu [[32], [10]] a0 (by show r0 < 2; exact a1)
    obtain ⟨y, hy, gy⟩ := menu [w, [36], [48, 50], [95]] b0 (by show r1 < 4; exact b1)
    simp only [List.map_cons, List.map_nil] at gx gy
    have wl := (by decide +kernel : ∀ w ∈ mRaw, w.length ≤ 20 ∧ w.all (fun c => decide (c < 1114112)) = true) w hw
    have yl : y.length ≤ 20 ∧ ∀ c ∈ y, c < 1114112 := by
      simp only [List.mem_cons, List.not_mem_nil, or_false] at hy
      rcases hy with rfl | rfl | rfl | rfl
      · exact ⟨wl.1, fun c hc => of_decide_eq_true (List.all_eq_true.mp wl.2 c hc)⟩
      · exact ⟨by decide, by decide⟩
      · exact ⟨by decide, by decide⟩
      · exact ⟨by decide, by decide⟩
    have xl : x.length = 1 ∧ rcB x = true ∧ (∀ c ∈ x, c < 1114112) ∧ x ≠ [] := by
      simp only [List.mem_cons, List.not_mem_nil, or_false] at hx
      rcases hx with rfl | rfl
      · exact ⟨rfl, rfl, by decide, by decide⟩
      · exact ⟨rfl, rfl, by decide, by decide⟩
    have rc : rcB (rest ++ x ++ y) = true := by
      cases rest with
      | nil =>
        cases x with
        | nil => exact absurd rfl xl.2.2.2
        | cons c r => exact xl.2.1
      | cons c r => exact h1
    obtain ⟨i', rest', s4', g1, g2, g3, g4, g5, g6⟩ := loop3 k scr rs s many txt s5 s6 s7 s8 s9 js i3 (rest ++ x ++ y) (.da (.int j)) (m + 1) hi3 rc (fun c hc => by
      rw [List.mem_append, List.mem_append] at hc
      rcases hc with (hc | hc) | hc
      · exact h2 c hc
      · exact xl.2.2.1 c hc
      · exact yl.2 c hc) (by rw [List.length_append, List.length_append]; omega) (by omega) NO.da
    refine ⟨i', rest', s4', g1, g2, g3, g4, g5, Eq.trans ?_ g6⟩
    have q1 : addD (.str rest) (.str x) = some (.str (rest ++ x)) := addS (by omega)
    have q2 : addD (.str (rest ++ x)) (.str y) = some (.str (rest ++ x ++ y)) := addS (by rw [List.length_append]; omega)
    rw [List.map_cons]
    conv => lhs; unfold forRun
    rw [hset]
    unfold e0
    generalize rest ++ x ++ y = t2 at *
    generalize rest ++ x = t1 at *
    simp [b3_law, runF, Ss.run, S_.run, E.run, Es.run, As.run, T.run, Ts.run, It.run, OE.run, F.run, pairsRun, R.bind, R.of, R.noEr, Op2.run, i2, Bif.run, ioOk, isOw, hasV, getL, flat, Pt.run, outs, List.range, List.range.loop, lookK, getD', kyD, putKy, callR, refsOf, resolve, keepOw, putBack, ordD, lenD, idxD, truD, small, rngD, setAll, itemsD, Mth.run, sliceD, p1, gx, c1, p3, gy, q1, q2]
end K01
/-! Sheetwatch k01: the law's second loop. -/
namespace K01
open Mp PySem L2
theorem inD_strs (a : List Nat) : ∀ ws : List (List Nat), inD (.str a) (ws.map D.str) = decide (a ∈ ws)
  | [] => rfl
  | w :: ws => by
    have ih := inD_strs a ws
    unfold inD at ih ⊢
    rw [List.map_cons, List.any_cons, ih]
    show ((SX.S w == SX.S a) || _) = _
    by_cases h : w = a
    · rw [h, beq_self_eq_true, Bool.true_or, decide_eq_true List.mem_cons_self]
    · rw [beq_eq_false_iff_ne.mpr fun z => h (SX.S_inj z), Bool.false_or]
      congr 1
      simp
      exact fun z => absurd z.symm h
theorem memTup (a : List Nat) (ws : List (List Nat)) : memD (.str a) (.tup (ws.map D.str)) = some (decide (a ∈ ws)) := by
  have h : (ws.map D.str).all flat = true := List.all_eq_true.mpr fun x hx => by
    obtain ⟨w, _, rfl⟩ := List.mem_map.mp hx
    rfl
  show (if (flat (.str a) && (ws.map D.str).all flat) = true then some (inD (.str a) (ws.map D.str)) else none) = _
  rw [h, if_pos (by rfl), inD_strs]
theorem sq {c : Cn} {s : S_} {r : Ss} {e0 e1 : En} {x : R Fl} (h1 : s.run c [] e0 = .ok .nxt e1) (h2 : r.run c [] e1 = x) : (Ss.cons s r).run c [] e0 = x := by
  show (s.run c [] e0).bind _ = _
  rw [h1]
  exact h2
theorem col_eq (t : List Nat) : (t.length : Int) - ixI (lastIx 10 t) = colI t := by
  unfold colI begN
  cases lastIx 10 t with
  | none => show (t.length : Int) - (-1) = _; simp
  | some i => show (t.length : Int) - (i : Int) = _; simp; omega
theorem row_eq (t : List Nat) : ((t.count 10 : Nat) : Int) + 1 = rowI t := rfl
theorem bad_cl {cl : Nat} {w : List Nat} (h : badM cl w) : cl < 3 ∧ w.length ≤ 50 ∧ (∀ c ∈ w, c < 1114112) ∧ ok1 w = true := by
  have q := (by decide +kernel : ∀ w ∈ mBadC ++ mBadN ++ mBadQ, w.length ≤ 50 ∧ ok1 w = true) w
  have fin : w ∈ mBadC ++ mBadN ++ mBadQ → w.length ≤ 50 ∧ (∀ c ∈ w, c < 1114112) ∧ ok1 w = true := fun hm => ⟨(q hm).1, fun c hc => of_decide_eq_true (List.all_eq_true.mp (q hm).2 c hc), (q hm).2⟩
  rcases h with ⟨rfl, h⟩ | ⟨rfl, h⟩ | ⟨rfl, h⟩
  · exact ⟨by decide, fin (List.mem_append_left _ (List.mem_append_left _ h))⟩
  · exact ⟨by decide, fin (List.mem_append_left _ (List.mem_append_right _ h))⟩
  · exact ⟨by decide, fin (List.mem_append_right _ h)⟩
theorem bad_at (k : Nat) {cl : Nat} {w rest : List Nat} (h : badM cl w) (hr : rcB rest = true) (hq : w = [34] ∨ w = [34, 97, 98, 99] → rest = [10]) : BadAt k cl w rest := by
  rcases h with ⟨rfl, h⟩ | ⟨rfl, h⟩ | ⟨rfl, h⟩
  · exact badC_at k h rest
  · exact badN_at k h hr
  · exact badQ_at k h hq
theorem kd_ok {cl : Nat} (h : cl < 3) : ok1 (kdOf cl) = true := by
  match cl, h with
  | 0, _ => rfl
  | 1, _ => rfl
  | 2, _ => rfl
theorem last_step (k : Nat) (scr : D) (rs : List Int) (i s many : Int) {txt w rest : List Nat} {fs : List D} (s4 s5 : Sl) {cl : Nat} (I : Inv k txt fs) (hb : badM cl w) (hr : rcB rest = true) (hq : w = [34] ∨ w = [34, 97, 98, 99] → rest = [10])
    (hro : ∀ c ∈ rest, c < 1114112) (h1 : txt.length ≤ 1240) (h2 : rest.length ≤ 400) {r : Ss} {e' : En}
    (hk : r.run (C (k + 5)) [] (e0 scr rs i s txt many s4 s5 (.da (.str (kdOf cl))) (.da (.str w)) (.da (.int (rowI txt))) (.da (.int (colI txt))) (.da (.str rest))) = .ok .nxt e') :
    (Ss.cons (.ite (.val (.op2 .ne (.call 11 (.d (.op2 .add (.op2 .add (.var 2) (.var 7)) (.var 10)) .nil)) (.tup (.cons (.var 6) (.cons (.var 8) (.cons (.var 9) (.cons (.cst (.bl false)) (.cons (.cst (.bl true)) .nil)))))))) (.cons (.ret (.cst (.bl false))) .nil) .nil) r).run (C (k + 5)) []
      (e0 scr rs i s txt many s4 s5 (.da (.str (kdOf cl))) (.da (.str w)) (.da (.int (rowI txt))) (.da (.int (colI txt))) (.da (.str rest))) = .ok .nxt e' := by
  obtain ⟨b1, b2, b3, b4⟩ := bad_cl hb
  have hT : Tx (txt ++ (w ++ rest)) := ⟨by simp; omega, fun c hc => by
    rw [List.mem_append, List.mem_append] at hc
    rcases hc with hc | hc | hc
    · exact I.ok c hc
    · exact b3 c hc
    · exact hro c hc⟩
  have t := told_bad k b1 (bad_at k hb hr hq) hT (I.good _ hT)
  have ed := eqD_refl (shp5 (kd_ok b1) (rowI txt) (colI txt))
  have q1 : addD (.str txt) (.str w) = some (.str (txt ++ w)) := addS (by omega)
  have q2 : addD (.str (txt ++ w)) (.str rest) = some (.str (txt ++ (w ++ rest))) := by
    rw [← List.append_assoc]
    exact addS (by rw [List.length_append]; omega)
  refine sq ?_ hk
  unfold e0
  generalize txt ++ (w ++ rest) = t2 at *
  generalize txt ++ w = t1 at *
  generalize kdOf cl = kd at *
  simp [runF, Ss.run, S_.run, E.run, Es.run, As.run, T.run, Ts.run, It.run, OE.run, F.run, pairsRun, R.bind, R.of, R.noEr, Op2.run, i2, Bif.run, ioOk, isOw, hasV, getL, flat, Pt.run, outs, List.range, List.range.loop, lookK, getD', kyD, putKy, callR, refsOf, resolve, keepOw, putBack, ordD, lenD, idxD, truD, small, rngD, setAll, itemsD, Mth.run, sliceD, q1, q2, t, ed]
theorem b4_run (k : Nat) (scr : D) (rs : List Int) {i : Int} (s many : Int) {txt : List Nat} {fs : List D} {s4 : Sl} (s5 : Sl) {s6 s7 s8 s9 s10 : Sl} (hi : 0 ≤ i) (I : Inv k txt fs) (h1 : txt.length ≤ 1240) (n4 : NO s4) (n6 : NO s6) (n7 : NO s7) (n8 : NO s8) (n9 : NO s9) (n10 : NO s10) :
    ∃ (i' : Int) (s4' s6' s7' s8' s9' s10' : Sl), 0 ≤ i' ∧ NO s4' ∧ NO s6' ∧ NO s7' ∧ NO s8' ∧ NO s9' ∧ NO s10' ∧
      b4_law.run (C (k + 5)) [] (e0 scr rs i s txt many s4 s5 s6 s7 s8 s9 s10) = .ok .nxt (e0 scr rs i' s txt many s4' s5 s6' s7' s8' s9' s10') := by
  obtain ⟨cl, w, i1, hi1, hb, c1⟩ := bad_call (k + 2) rs s hi
  obtain ⟨b1, b2, b3, b4⟩ := bad_cl hb
  have hl : txt.length ≤ 16777216 := by omega
  have p67 : Pt.run (.tp [6, 7]) (.tup [.str (kdOf cl), .str w]) (e0 scr rs i1 s txt many s4 s5 s6 s7 s8 s9 s10) = .ok () (e0 scr rs i1 s txt many s4 s5 (.da (.str (kdOf cl))) (.da (.str w)) s8 s9 s10) := by
    cases s6 with
    | ow c => exact absurd rfl (n6 c)
    | no => cases s7 with | ow c => exact absurd rfl (n7 c) | no => rfl | ex => rfl | da d => rfl
    | ex => cases s7 with | ow c => exact absurd rfl (n7 c) | no => rfl | ex => rfl | da d => rfl
    | da _ => cases s7 with | ow c => exact absurd rfl (n7 c) | no => rfl | ex => rfl | da d => rfl
  have p8 : ∀ d a b, Pt.run (.nm 8) d (e0 scr rs i1 s txt many s4 s5 a b s8 s9 s10) = .ok () (e0 scr rs i1 s txt many s4 s5 a b (.da d) s9 s10) := fun d a b => by
    cases s8 with | ow c => exact absurd rfl (n8 c) | no => rfl | ex => rfl | da d => rfl
  have p9 : ∀ d a b c, Pt.run (.nm 9) d (e0 scr rs i1 s txt many s4 s5 a b c s9 s10) = .ok () (e0 scr rs i1 s txt many s4 s5 a b c (.da d) s10) := fun d a b c => by
    cases s9 with | ow c => exact absurd rfl (n9 c) | no => rfl | ex => rfl | da d => rfl
  have p10 : ∀ d a b c e, Pt.run (.nm 10) d (e0 scr rs i1 s txt many s4 s5 a b c e s10) = .ok () (e0 scr rs i1 s txt many s4 s5 a b c e (.da d)) := fun d a b c e => by
    cases s10 with | ow c => exact absurd rfl (n10 c) | no => rfl | ex => rfl | da d => rfl
  have st1 : (S_.asg (.tp [6, 7]) (.call 12 (.o 1 .nil))).run (C (k + 5)) [] (e0 scr rs i s txt many s4 s5 s6 s7 s8 s9 s10) = .ok .nxt (e0 scr rs i1 s txt many s4 s5 (.da (.str (kdOf cl))) (.da (.str w)) s8 s9 s10) := by
    unfold e0 at p67 ⊢
    generalize kdOf cl = kd at *
    simp [runF, Ss.run, S_.run, E.run, Es.run, As.run, T.run, Ts.run, It.run, OE.run, F.run, pairsRun, R.bind, R.of, R.noEr, Op2.run, i2, Bif.run, ioOk, isOw, hasV, getL, flat, outs, List.range, List.range.loop, lookK, getD', kyD, putKy, callR, refsOf, resolve, keepOw, putBack, ordD, lenD, idxD, truD, small, rngD, setAll, itemsD, Mth.run, sliceD, c1, p67]
  have st2 : (S_.asg (.nm 8) (.op2 .add (.mth .count (.var 2) (.cons (.cst (.str [10])) .nil)) (.cst (.int 1)))).run (C (k + 5)) [] (e0 scr rs i1 s txt many s4 s5 (.da (.str (kdOf cl))) (.da (.str w)) s8 s9 s10) = .ok .nxt (e0 scr rs i1 s txt many s4 s5 (.da (.str (kdOf cl))) (.da (.str w)) (.da (.int (rowI txt))) s9 s10) := by
    have q := p8 (.int (rowI txt)) (.da (.str (kdOf cl))) (.da (.str w))
    unfold e0 at q ⊢
    generalize kdOf cl = kd at *
    simp [runF, Ss.run, S_.run, E.run, Es.run, As.run, T.run, Ts.run, It.run, OE.run, F.run, pairsRun, R.bind, R.of, R.noEr, Op2.run, i2, Bif.run, ioOk, isOw, hasV, getL, flat, outs, List.range, List.range.loop, lookK, getD', kyD, putKy, callR, refsOf, resolve, keepOw, putBack, ordD, lenD, idxD, truD, small, rngD, setAll, itemsD, Mth.run, sliceD, addI, row_eq, q]
  have st3 : (S_.asg (.nm 9) (.op2 .sub (.bif .len (.cons (.var 2) .nil)) (.mth .rfind (.var 2) (.cons (.cst (.str [10])) .nil)))).run (C (k + 5)) [] (e0 scr rs i1 s txt many s4 s5 (.da (.str (kdOf cl))) (.da (.str w)) (.da (.int (rowI txt))) s9 s10) = .ok .nxt (e0 scr rs i1 s txt many s4 s5 (.da (.str (kdOf cl))) (.da (.str w)) (.da (.int (rowI txt))) (.da (.int (colI txt))) s10) := by
    have q := p9 (.int (colI txt)) (.da (.str (kdOf cl))) (.da (.str w)) (.da (.int (rowI txt)))
    unfold e0 at q ⊢
    generalize kdOf cl = kd at *
    simp [runF, Ss.run, S_.run, E.run, Es.run, As.run, T.run, Ts.run, It.run, OE.run, F.run, pairsRun, R.bind, R.of, R.noEr, Op2.run, i2, Bif.run, ioOk, isOw, hasV, getL, flat, outs, List.range, List.range.loop, lookK, getD', kyD, putKy, callR, refsOf, resolve, keepOw, putBack, ordD, lenD, idxD, truD, small, rngD, setAll, itemsD, Mth.run, sliceD, hl, col_eq, q]
  have st4 : ∀ d : List Nat, (S_.asg (.nm 10) (.cst (.str d))).run (C (k + 5)) [] (e0 scr rs i1 s txt many s4 s5 (.da (.str (kdOf cl))) (.da (.str w)) (.da (.int (rowI txt))) (.da (.int (colI txt))) s10) = .ok .nxt (e0 scr rs i1 s txt many s4 s5 (.da (.str (kdOf cl))) (.da (.str w)) (.da (.int (rowI txt))) (.da (.int (colI txt))) (.da (.str d))) := fun d => by
    have q := p10 (.str d) (.da (.str (kdOf cl))) (.da (.str w)) (.da (.int (rowI txt))) (.da (.int (colI txt)))
    unfold e0 at q ⊢
    generalize kdOf cl = kd at *
    simp [runF, Ss.run, S_.run, E.run, Es.run, As.run, T.run, Ts.run, It.run, OE.run, F.run, pairsRun, R.bind, R.of, R.noEr, Op2.run, i2, Bif.run, ioOk, isOw, hasV, getL, flat, outs, List.range, List.range.loop, lookK, getD', kyD, putKy, callR, refsOf, resolve, keepOw, putBack, ordD, lenD, idxD, truD, small, rngD, setAll, itemsD, Mth.run, sliceD, q]
  have mm : memD (.str w) (.tup [D.str [34], D.str [34, 97, 98, 99]]) = some (decide (w ∈ [[34], [34, 97, 98, 99]])) := memTup w [[34], [34, 97, 98, 99]]
  by_cases hq : w = [34] ∨ w = [34, 97, 98, 99]
  · have hq' : w ∈ [[34], [34, 97, 98, 99]] := by simpa using hq
    rw [decide_eq_true hq'] at mm
    refine ⟨i1, s4, .da (.str (kdOf cl)), .da (.str w), .da (.int (rowI txt)), .da (.int (colI txt)), .da (.str [10]), hi1, n4, NO.da, NO.da, NO.da, NO.da, NO.da, ?_⟩
    unfold b4_law
    refine sq st1 (sq st2 (sq st3 (sq (st4 []) (sq (e1 := e0 scr rs i1 s txt many s4 s5 (.da (.str (kdOf cl))) (.da (.str w)) (.da (.int (rowI txt))) (.da (.int (colI txt))) (.da (.str [10]))) ?_ (last_step k scr rs i1 s many s4 s5 I hb rfl (fun _ => rfl) (by decide) h1 (by decide) rfl)))))
    unfold e0
    generalize kdOf cl = kd at *
    simp [runF, Ss.run, S_.run, E.run, Es.run, As.run, T.run, Ts.run, It.run, OE.run, F.run, pairsRun, R.bind, R.of, R.noEr, Op2.run, i2, Bif.run, ioOk, isOw, hasV, getL, flat, Pt.run, outs, List.range, List.range.loop, lookK, getD', kyD, putKy, callR, refsOf, resolve, keepOw, putBack, ordD, lenD, idxD, truD, small, rngD, setAll, itemsD, Mth.run, sliceD, mm]
  · have hq' : w ∉ [[34], [34, 97, 98, 99]] := by simpa using hq
    rw [decide_eq_false hq'] at mm
    obtain ⟨r0, ib, a0, a1, hib, pp⟩ := pick_any (k + 3) rs s (many := 4) hi1 (by decide)
    have hr : rngD 0 r0 = ((List.range r0.toNat).map fun (n : Nat) => (n : Int)).map D.int := by
      unfold rngD
      rw [Int.sub_zero, List.map_map]
      refine List.map_congr_left fun x _ => ?_
      show D.int (0 + (x : Int)) = D.int (x : Int)
      rw [Int.zero_add]
    have hs : small r0 = true := by
      unfold small
      rw [decide_eq_true (by omega), decide_eq_true (by omega)]
      rfl
    obtain ⟨i', rest, s4', g1, g2, g3, g4, g5, g6⟩ := loop3 k scr rs s many txt s5 (.da (.str (kdOf cl))) (.da (.str w)) (.da (.int (rowI txt))) (.da (.int (colI txt))) ((List.range r0.toNat).map fun (n : Nat) => (n : Int)) ib [] s4 0 hib rfl (by simp) (by simp) (by simp; omega) n4
    rw [← hr] at g6
    refine ⟨i', s4', .da (.str (kdOf cl)), .da (.str w), .da (.int (rowI txt)), .da (.int (colI txt)), .da (.str rest), g1, g5, NO.da, NO.da, NO.da, NO.da, NO.da, ?_⟩
    unfold b4_law
    refine sq st1 (sq st2 (sq st3 (sq (st4 []) (sq (e1 := e0 scr rs i' s txt many s4' s5 (.da (.str (kdOf cl))) (.da (.str w)) (.da (.int (rowI txt))) (.da (.int (colI txt))) (.da (.str rest))) ?_ (last_step k scr rs i' s many s4' s5 I hb g2 (fun z => absurd z hq) g3 h1 g4 rfl)))))
    unfold e0 at g6 ⊢
    generalize kdOf cl = kd at *
    simp [runF, Ss.run, S_.run, E.run, Es.run, As.run, T.run, Ts.run, It.run, OE.run, F.run, pairsRun, R.bind, R.of, R.noEr, Op2.run, i2, Bif.run, ioOk, isOw, hasV, getL, flat, Pt.run, outs, List.range, List.range.loop, lookK, getD', kyD, putKy, callR, refsOf, resolve, keepOw, putBack, ordD, lenD, idxD, truD, setAll, itemsD, Mth.run, sliceD, mm, pp, hs, g6]
theorem loop2 (k : Nat) (scr : D) (rs : List Int) (s many : Int) {txt : List Nat} {fs : List D} (I : Inv k txt fs) (h1 : txt.length ≤ 1240) : ∀ (js : List Int) (i : Int) (s4 s5 s6 s7 s8 s9 s10 : Sl), 0 ≤ i → NO s4 → NO s5 → NO s6 → NO s7 → NO s8 → NO s9 → NO s10 →
    ∃ (i' : Int) (s4' s5' s6' s7' s8' s9' s10' : Sl), forRun (.nm 5) (b4_law.run (C (k + 5)) []) (js.map D.int) (e0 scr rs i s txt many s4 s5 s6 s7 s8 s9 s10) = .ok .nxt (e0 scr rs i' s txt many s4' s5' s6' s7' s8' s9' s10')
  | [], i, s4, s5, s6, s7, s8, s9, s10, hi, n4, n5, n6, n7, n8, n9, n10 => ⟨i, s4, s5, s6, s7, s8, s9, s10, rfl⟩
  | j :: js, i, s4, s5, s6, s7, s8, s9, s10, hi, n4, n5, n6, n7, n8, n9, n10 => by
    have hset : Pt.run (.nm 5) (.int j) (e0 scr rs i s txt many s4 s5 s6 s7 s8 s9 s10) = .ok () (e0 scr rs i s txt many s4 (.da (.int j)) s6 s7 s8 s9 s10) := by
      unfold e0
      cases s5 with
      | ow c => exact absurd rfl (n5 c)
      | no => rfl
      | ex => rfl
      | da d => rfl
    obtain ⟨i1, t4, t6, t7, t8, t9, t10, hi1, m4, m6, m7, m8, m9, m10, b⟩ := b4_run k scr rs s many (.da (.int j)) hi I h1 n4 n6 n7 n8 n9 n10
    obtain ⟨i', u4, u5, u6, u7, u8, u9, u10, e⟩ := loop2 k scr rs s many I h1 js i1 t4 (.da (.int j)) t6 t7 t8 t9 t10 hi1 m4 NO.da m6 m7 m8 m9 m10
    refine ⟨i', u4, u5, u6, u7, u8, u9, u10, Eq.trans ?_ e⟩
    rw [List.map_cons]
    conv => lhs; unfold forRun
    rw [hset]
    show (b4_law.run (C (k + 5)) [] _).bind _ = _
    rw [b]
    rfl
end K01
/-! Sheetwatch k01: the law. -/
namespace K01
open Mp PySem L2
theorem loop4 (k : Nat) (scr : D) (rs : List Int) (i s : Int) (txt : List Nat) (many : Int) (s4 s5 s6 s7 s8 s9 s10 : Sl) :
    forRun (.nm 11) (b2_law.run (C (k + 5)) []) [.str [92], .str [63], .str [47], .str [96], .str [36], .str [9]] (e0 scr rs i s txt many s4 s5 s6 s7 s8 s9 s10) = .ok .nxt [.da scr, DR rs i s, .da (.str txt), .da (.int many), s4, s5, s6, s7, s8, s9, s10, .da (.str [9]), .da (.str [119, 97, 116, 99, 104])] := by
  kernel_rfl
theorem law_body (c : Cn) (scr : D) {rs : List Int} {j0 r0 i' i2' : Int} {txt : List Nat} {s4 t4 t5 t6 t7 t8 t9 t10 : Sl}
    (sc : c.call 1 [.da scr, .da (.int 200)] = .ok (DR rs 0 rs.length) [.da scr, .da (.int 200)])
    (p0 : c.call 2 [DR rs 0 (rs.length : Nat), .da (.int 31)] = .ok (.da (.int r0)) [DR rs j0 (rs.length : Nat), .da (.int 31)])
    (hs : small r0 = true)
    (l1 : forRun (.nm 4) (b5_law.run c []) (rngD 0 r0) (e0 scr rs j0 (rs.length : Nat) [] r0 .no .no .no .no .no .no .no) = .ok .nxt (e0 scr rs i' (rs.length : Nat) txt r0 s4 .no .no .no .no .no .no))
    (tk : c.call 11 [.da (.str txt)] = .ok (.da (.tup [.str [116, 111, 107, 101, 110, 115], .int (r0 + 1)])) [.da (.str txt)])
    (l2 : forRun (.nm 5) (b4_law.run c []) (rngD 0 12) (e0 scr rs i' (rs.length : Nat) txt r0 s4 .no .no .no .no .no .no) = .ok .nxt (e0 scr rs i2' (rs.length : Nat) txt r0 t4 t5 t6 t7 t8 t9 t10))
    (l4 : forRun (.nm 11) (b2_law.run c []) [D.str [92], D.str [63], D.str [47], D.str [96], D.str [36], D.str [9]] (e0 scr rs i2' (rs.length : Nat) txt r0 t4 t5 t6 t7 t8 t9 t10) = .ok .nxt [.da scr, DR rs i2' (rs.length : Nat), .da (.str txt), .da (.int r0), t4, t5, t6, t7, t8, t9, t10, .da (.str [9]), .da (.str [119, 97, 116, 99, 104])]) :
    ∃ εe, code_law.run c [] [.da scr, .no, .no, .no, .no, .no, .no, .no, .no, .no, .no, .no, .no] = .ok (.ret (.da (.bl true))) εe := by
  have ed := eqD_refl (shp2 (show ok1 [116, 111, 107, 101, 110, 115] = true from rfl) (r0 + 1))
  unfold code_law
  refine ⟨[.da scr, DR rs i2' (rs.length : Nat), .da (.str txt), .da (.int r0), t4, t5, t6, t7, t8, t9, t10, .da (.str [9]), .da (.str [119, 97, 116, 99, 104])], sq (e1 := [.da scr, DR rs 0 rs.length, .no, .no, .no, .no, .no, .no, .no, .no, .no, .no, .no]) (by simp [runF, Ss.run, S_.run, E.run, Es.run, As.run, T.run, Ts.run, It.run, OE.run, F.run, pairsRun, R.bind, R.of, R.noEr, Op2.run, i2, Bif.run, ioOk, isOw, hasV, getL, flat, Pt.run, outs, List.range, List.range.loop, lookK, getD', kyD, putKy, callR, refsOf, resolve, keepOw, putBack, ordD, lenD, idxD, truD, setAll, itemsD, Mth.run, sliceD, sc]) ?_⟩
  refine sq (e1 := [.da scr, DR rs 0 rs.length, .da (.str []), .no, .no, .no, .no, .no, .no, .no, .no, .no, .no]) (by simp [runF, Ss.run, S_.run, E.run, Es.run, As.run, T.run, Ts.run, It.run, OE.run, F.run, pairsRun, R.bind, R.of, R.noEr, Op2.run, i2, Bif.run, ioOk, isOw, hasV, getL, flat, Pt.run, outs, List.range, List.range.loop, lookK, getD', kyD, putKy, callR, refsOf, resolve, keepOw, putBack, ordD, lenD, idxD, truD, setAll, itemsD, Mth.run, sliceD]) ?_
  refine sq (e1 := e0 scr rs j0 (rs.length : Nat) [] r0 .no .no .no .no .no .no .no) (by simp [runF, Ss.run, S_.run, E.run, Es.run, As.run, T.run, Ts.run, It.run, OE.run, F.run, pairsRun, R.bind, R.of, R.noEr, Op2.run, i2, Bif.run, ioOk, isOw, hasV, getL, flat, Pt.run, outs, List.range, List.range.loop, lookK, getD', kyD, putKy, callR, refsOf, resolve, keepOw, putBack, ordD, lenD, idxD, truD, setAll, itemsD, Mth.run, sliceD, e0, p0]) ?_
  refine sq (e1 := e0 scr rs i' (rs.length : Nat) txt r0 s4 .no .no .no .no .no .no) ?_ ?_
  · unfold S_.run
    have q : It.run c [] (.r1 (.var 3)) (e0 scr rs j0 (rs.length : Nat) [] r0 .no .no .no .no .no .no .no) = .ok (rngD 0 r0) (e0 scr rs j0 (rs.length : Nat) [] r0 .no .no .no .no .no .no .no) := by
      simp [runF, Ss.run, S_.run, E.run, Es.run, As.run, T.run, Ts.run, It.run, OE.run, F.run, pairsRun, R.bind, R.of, R.noEr, Op2.run, i2, Bif.run, ioOk, isOw, hasV, getL, flat, Pt.run, outs, List.range, List.range.loop, lookK, getD', kyD, putKy, callR, refsOf, resolve, keepOw, putBack, ordD, lenD, idxD, truD, setAll, itemsD, Mth.run, sliceD, e0, hs]
    rw [q]
    exact l1
  refine sq (e1 := e0 scr rs i' (rs.length : Nat) txt r0 s4 .no .no .no .no .no .no) (by simp [runF, Ss.run, S_.run, E.run, Es.run, As.run, T.run, Ts.run, It.run, OE.run, F.run, pairsRun, R.bind, R.of, R.noEr, Op2.run, i2, Bif.run, ioOk, isOw, hasV, getL, flat, Pt.run, outs, List.range, List.range.loop, lookK, getD', kyD, putKy, callR, refsOf, resolve, keepOw, putBack, ordD, lenD, idxD, truD, setAll, itemsD, Mth.run, sliceD, e0, tk, addI, ed]) ?_
  refine sq (e1 := e0 scr rs i2' (rs.length : Nat) txt r0 t4 t5 t6 t7 t8 t9 t10) ?_ ?_
  · unfold S_.run
    have q : It.run c [] (.r1 (.cst (.int 12))) (e0 scr rs i' (rs.length : Nat) txt r0 s4 .no .no .no .no .no .no) = .ok (rngD 0 12) (e0 scr rs i' (rs.length : Nat) txt r0 s4 .no .no .no .no .no .no) := rfl
    rw [q]
    exact l2
  refine sq (e1 := [.da scr, DR rs i2' (rs.length : Nat), .da (.str txt), .da (.int r0), t4, t5, t6, t7, t8, t9, t10, .da (.str [9]), .da (.str [119, 97, 116, 99, 104])]) ?_ (by simp [runF, Ss.run, S_.run, E.run, Es.run, As.run, T.run, Ts.run, It.run, OE.run, F.run, pairsRun, R.bind, R.of, R.noEr, Op2.run, i2, Bif.run, ioOk, isOw, hasV, getL, flat, Pt.run, outs, List.range, List.range.loop, lookK, getD', kyD, putKy, callR, refsOf, resolve, keepOw, putBack, ordD, lenD, idxD, truD, setAll, itemsD, Mth.run, sliceD])
  unfold S_.run
  have q : It.run c [] (.lst (.lst (.cons (.cst (.str [92])) (.cons (.cst (.str [63])) (.cons (.cst (.str [47])) (.cons (.cst (.str [96])) (.cons (.cst (.str [36])) (.cons (.cst (.str [9])) .nil)))))))) (e0 scr rs i2' (rs.length : Nat) txt r0 t4 t5 t6 t7 t8 t9 t10) = .ok [D.str [92], D.str [63], D.str [47], D.str [96], D.str [36], D.str [9]] (e0 scr rs i2' (rs.length : Nat) txt r0 t4 t5 t6 t7 t8 t9 t10) := rfl
  rw [q]
  exact l4
theorem law_all (k : Nat) (ns : List Int) (hn : ns.length ≤ 63) : (C (k + 6)).call 15 [.da (.fls (ns.map D.int))] = .ok (.da (.bl true)) [.da (.fls (ns.map D.int))] := by
  obtain ⟨rs, sc⟩ := stream_call (k + 3) ns hn
  obtain ⟨r0, j0, h0, h5, hj0, p0⟩ := pick_any (k + 3) rs (rs.length : Nat) (many := 31) (Int.le_refl 0) (by decide)
  have hr : rngD 0 r0 = ((List.range r0.toNat).map fun (n : Nat) => (n : Int)).map D.int := by
    unfold rngD
    rw [Int.sub_zero, List.map_map]
    refine List.map_congr_left fun x _ => ?_
    show D.int (0 + (x : Int)) = D.int (x : Int)
    rw [Int.zero_add]
  have h12 : rngD 0 12 = ((List.range 12).map fun (n : Nat) => (n : Int)).map D.int := rfl
  have hs : small r0 = true := by
    unfold small
    rw [decide_eq_true (by omega), decide_eq_true (by omega)]
    rfl
  have I0 : Inv k [] [] := ⟨fun rest _ => Go.refl, fun c hc => absurd hc (by simp)⟩
  obtain ⟨i', txt, fs, s4, g1, I, g3, g4, g5, l1⟩ := loop1 k (.fls (ns.map D.int)) rs (rs.length : Nat) r0 ((List.range r0.toNat).map fun (n : Nat) => (n : Int)) j0 [] [] .no 0 hj0 I0 (by simp) rfl (by simp; omega) NO.no
  rw [← hr] at l1
  have hfs : fs.length = r0.toNat := by simpa using g4
  have hT : Tx (txt ++ []) := ⟨by simp; omega, fun c hc => I.ok c (by simpa using hc)⟩
  have gg := I.good [] hT
  rw [List.append_nil] at gg
  have tk := told_ok (k + 4) (go_end (by omega) (by omega) gg)
  have hlen : (((fs ++ [D.tup [.str [101, 110, 100], .str [], .int (rowI txt), .int (colI txt)]]).length : Nat) : Int) = r0 + 1 := by
    rw [List.length_append, hfs]
    show ((r0.toNat + 1 : Nat) : Int) = _
    omega
  rw [hlen] at tk
  obtain ⟨i2', t4, t5, t6, t7, t8, t9, t10, l2⟩ := loop2 k (.fls (ns.map D.int)) rs (rs.length : Nat) r0 I g3 ((List.range 12).map fun (n : Nat) => (n : Int)) i' s4 .no .no .no .no .no .no g1 g5 NO.no NO.no NO.no NO.no NO.no NO.no
  rw [← h12] at l2
  have l4 := loop4 k (.fls (ns.map D.int)) rs i2' (rs.length : Nat) txt r0 t4 t5 t6 t7 t8 t9 t10
  rw [show k + 3 + 2 = k + 5 from rfl] at sc p0
  rw [show k + 4 + 1 = k + 5 from rfl] at tk
  refine (C_call (k := k + 5) rfl).trans ?_
  generalize C (k + 5) = c at *
  obtain ⟨εe, run⟩ := law_body c (.fls (ns.map D.int)) sc p0 hs l1 tk l2 l4
  show (match code_law.run c [] [.da (.fls (ns.map D.int)), .no, .no, .no, .no, .no, .no, .no, .no, .no, .no, .no, .no] with
    | .no => Cr.no
    | .er x ε => .er x (outs [] [.da (.fls (ns.map D.int))] ε)
    | .ok fl ε => match fl with
      | .ret r => .ok r (outs [] [.da (.fls (ns.map D.int))] ε)
      | .nxt => .ok (.da .non) (outs [] [.da (.fls (ns.map D.int))] ε)
      | _ => .no) = _
  rw [run]
  rfl
theorem law_run (ns : List Int) (hn : ns.length ≤ 63) : ∃ as', callN (fun i => md.vals[i]?) md.sub (fun i => md.code[i]?) (depth + 1) i_law [.da (.fls (ns.map D.int))] = .ok (.da (.bl true)) as' := ⟨_, law_all 3 ns hn⟩
end K01
open PySem PySem.W PyProof.Rows
set_option maxHeartbeats 0 in
theorem PySem.Challenge.cw_sheetwatch_k01_rules_with_a_bad_place_holds : PySem.Challenge.rw_sheetwatch_k01_rules_with_a_bad_place.Holds := by
  w_on; o_law; k_head; (case hw => w_witness2)
  k_fill
  refine Mp.walk_mp (l := PySem.Challenge.rw_sheetwatch_k01_rules_with_a_bad_place) (k := K01.depth + 1) (i := 15) (x := "script") (m := K01.md) (fn := K01.fn_law) rfl rfl ⟨rfl, by decide, by decide⟩ (fun w h Y => PySem.W.kIn_of Y) rfl rfl (fun ns hl => K01.law_run ns hl) ?F
  case F =>
    intro w mg fa h KX G hmg
    refine' K01.all_mk KX G hmg ?a0 ?l0 ?c0 ?k0 ?a1 ?l1 ?c1 ?k1 ?a2 ?l2 ?c2 ?k2 ?a3 ?l3 ?c3 ?k3 ?a4 ?l4 ?c4 ?k4 ?a5 ?l5 ?c5 ?k5 ?a6 ?l6 ?c6 ?k6 ?a7 ?l7 ?c7 ?k7 ?a8 ?l8 ?c8 ?k8 ?a9 ?l9 ?c9 ?k9 ?a10 ?l10 ?c10 ?k10 ?a11 ?l11 ?c11 ?k11 ?a12 ?l12 ?c12 ?k12 ?a13 ?l13 ?c13 ?k13 ?a14 ?l14 ?c14 ?k14 ?a15 ?l15 ?c15 ?k15 ?v0 ?x0 ?v1 ?x1 ?v2 ?x2 ?v3 ?x3 ?v4 ?x4 ?v5 ?x5 ?v6 ?w6 ?y6 ?x6 ?v7 ?x7 ?v8 ?w8 ?y8 ?x8 ?z0 ?z1 ?z2 ?z3 ?z4 ?z5 ?lI ?cI ?kI ?tI ?eB ?rB ?gB ?vB ?e0 ?b0X ?h0X ?t0X ?x0L ?r0L ?s0A ?k0C ?i0C ?n0A ?n0B ?g0A ?g0B ?a0C ?o0C ?e1 ?b1X ?h1X ?t1X ?x1L ?r1L ?s1A ?k1C ?i1C ?n1A ?n1B ?g1A ?g1B ?a1C ?o1C ?e2 ?b2X ?h2X ?t2X ?x2L ?r2L ?s2A ?k2C ?i2C ?n2A ?n2B ?g2A ?g2B ?a2C ?o2C ?e3 ?b3X ?h3X ?t3X ?e4 ?b4X ?h4X ?t4X ?e5 ?b5X ?h5X ?t5X ?sG ?sT ?u0_0 ?u0_1 ?u0_2 ?u0_3 ?u0_4 ?u0_5 ?u1_0 ?u1_1 ?u1_2 ?u1_3 ?u1_4 ?u1_5 ?u2_0 ?u2_1 ?u2_2 ?u2_3 ?u2_4 ?u2_5
    (case a0 => k_is); (case l0 => k_is); (case c0 => k_is); (case k0 => k_is); (case a1 => k_is); (case l1 => k_is); (case c1 => k_is); (case k1 => k_is); (case a2 => k_is); (case l2 => k_is); (case c2 => k_is); (case k2 => k_is); (case a3 => k_is); (case l3 => k_is); (case c3 => k_is); (case k3 => k_is); (case a4 => k_is); (case l4 => k_is); (case c4 => k_is); (case k4 => k_is); (case a5 => k_is); (case l5 => k_is); (case c5 => k_is); (case k5 => k_is); (case a6 => k_is); (case l6 => k_is); (case c6 => k_is); (case k6 => k_is); (case a7 => k_is); (case l7 => k_is); (case c7 => k_is); (case k7 => k_is); (case a8 => k_is); (case l8 => k_is); (case c8 => k_is); (case k8 => k_is); (case a9 => k_is); (case l9 => k_is); (case c9 => k_is); (case k9 => k_is); (case a10 => k_is); (case l10 => k_is); (case c10 => k_is); (case k10 => k_is); (case a11 => k_is); (case l11 => k_is); (case c11 => k_is); (case k11 => k_is); (case a12 => k_is); (case l12 => k_is); (case c12 => k_is); (case k12 => k_is); (case a13 => k_is); (case l13 => k_is); (case c13 => k_is); (case k13 => k_is); (case a14 => k_is); (case l14 => k_is); (case c14 => k_is); (case k14 => k_is); (case a15 => k_is); (case l15 => k_is); (case c15 => k_is); (case k15 => k_is); (case v0 => k_is); (case x0 => first | decide | kernel_rfl); (case v1 => k_is); (case x1 => first | decide | kernel_rfl); (case v2 => k_is); (case x2 => first | decide | kernel_rfl); (case v3 => k_is); (case x3 => first | decide | kernel_rfl); (case v4 => k_is); (case x4 => first | decide | kernel_rfl); (case v5 => k_is); (case x5 => first | decide | kernel_rfl); (case v6 => k_is); (case w6 => k_is); (case y6 => first | decide | kernel_rfl); (case x6 => first | decide | kernel_rfl); (case v7 => k_is); (case x7 => first | decide | kernel_rfl); (case v8 => k_is); (case w8 => k_is); (case y8 => first | decide | kernel_rfl); (case x8 => first | decide | kernel_rfl); (case z0 => k_is); (case z1 => k_is); (case z2 => k_is); (case z3 => k_is); (case z4 => k_is); (case z5 => k_is); (case e0 => k_is); (case b0X => k_is); (case h0X => k_is); (case t0X => k_is); (case x0L => k_is); (case r0L => first | decide | kernel_rfl); (case s0A => k_is); (case k0C => k_is); (case i0C => k_is); (case n0A => k_is); (case n0B => k_is); (case g0A => k_is); (case g0B => k_is); (case a0C => k_is); (case o0C => k_is); (case e1 => k_is); (case b1X => k_is); (case h1X => k_is); (case t1X => k_is); (case x1L => k_is); (case r1L => first | decide | kernel_rfl); (case s1A => k_is); (case k1C => k_is); (case i1C => k_is); (case n1A => k_is); (case n1B => k_is); (case g1A => k_is); (case g1B => k_is); (case a1C => k_is); (case o1C => k_is); (case e2 => k_is); (case b2X => k_is); (case h2X => k_is); (case t2X => k_is); (case x2L => k_is); (case r2L => first | decide | kernel_rfl); (case s2A => k_is); (case k2C => k_is); (case i2C => k_is); (case n2A => k_is); (case n2B => k_is); (case g2A => k_is); (case g2B => k_is); (case a2C => k_is); (case o2C => k_is); (case e3 => k_is); (case b3X => k_is); (case h3X => k_is); (case t3X => k_is); (case e4 => k_is); (case b4X => k_is); (case h4X => k_is); (case t4X => k_is); (case e5 => k_is); (case b5X => k_is); (case h5X => k_is); (case t5X => k_is); (case lI => k_is); (case cI => k_is); (case kI => k_is); (case tI => k_is); (case eB => k_is); (case rB => k_is); (case gB => k_is); (case vB => k_is); (case sG => k_is); (case sT => k_is); (case u0_0 => k_is); (case u0_1 => k_is); (case u0_2 => k_is); (case u0_3 => k_is); (case u0_4 => k_is); (case u0_5 => k_is); (case u1_0 => k_is); (case u1_1 => k_is); (case u1_2 => k_is); (case u1_3 => k_is); (case u1_4 => k_is); (case u1_5 => k_is); (case u2_0 => k_is); (case u2_1 => k_is); (case u2_2 => k_is); (case u2_3 => k_is); (case u2_4 => k_is); (case u2_5 => k_is)
