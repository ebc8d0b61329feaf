import PyProof.Rows.All
import Wide.All
import OpenK.AllK
import Wide.FinOn
import HandS.ForMost
import HandS.Evl
import HandS.Exc
import HandS.ExcOwn
import HandS.TryOnly
import HandS.TryMany
import HandS.CallSlots
import HandS.WordsExc
import HandS.StrMore
import HandS.TupAny
import HandS.Deep
import HandS.Walk
import HandS.IsInst
import HandS.Codes
import PyProof.StrBlock2
import KE.KDictKeyed
import HandS.TupMul
import KE.SortKeyHeap
import KE.KDictWalk
import KE.KDictSum
import HandS.Iter
import HandS.DictComp
import HandS.More
import HandS.SortInts
import PyProof.Rows.StrMeet
import KE.SortData
import PyProof.StrLawsTight
import PyProof.StrLawsLast
import PyProof.StrLawsFrom
import HandS.Strs
import HandS.ReplaceLit
import HandS.ReplaceList
import HandS.Flow
import HandS.ExcField
import HandS.ExcIs
import HandS.Rev
import HandS.ExcInit
import KE.KExcIs
import KE.KIsAll
import HandS.Defaults
import KE.KDictLaws
import HandS.SortKw
import HandS.SetKeys
import PySem.Challenge.RW_sheetwatch_k31_lines_that_are_bad
set_option Elab.async false
set_option linter.all false
set_option maxRecDepth 100000
set_option maxHeartbeats 4000000
/-! A small language over HandS, 1: values as trees, what represents them. -/
namespace Mq
open PySem L2 Evl
open SX (S S_len S_cat S_inj)

/-! ### values -/
inductive D where
  | non | bl (b : Bool) | int (i : Int) | str (l : List Nat) | ty (n : String) | fn (i : Nat) | lst (ds : List D) | tup (ds : List D) | fls (ds : List D) | dct (ks ds : List D)
  deriving Inhabited, Repr, BEq

mutual
def D.py : D → PyData
  | .non => .none
  | .bl b => .bool b
  | .int i => .int i
  | .str l => .str (S l)
  | .ty _ => .dict []
  | .fn _ => .dict []
  | .lst ds => .list (D.pys ds)
  | .tup ds => .tuple (D.pys ds)
  | .fls ds => .list (D.pys ds)
  | .dct _ _ => .dict []
def D.pys : List D → List PyData
  | [] => []
  | d :: ds => d.py :: D.pys ds
end
/-! ### keys of dicts -/
mutual
/-- a key, up to == -/
def nk : D → Option NestedKey
  | .non => some .none
  | .bl b => some (.num (if b = true then 1 else 0))
  | .int i => some (.num i)
  | .str l => some (.text (S l))
  | .tup ds => (nks ds).map .tup
  | .ty _ => none
  | .fn _ => none
  | .lst _ => none
  | .fls _ => none
  | .dct _ _ => none
def nks : List D → Option (List NestedKey)
  | [] => some []
  | d :: ds => match nk d, nks ds with
    | some k, some ks => some (k :: ks)
    | _, _ => none
end
def kyF : D → Option Key
  | .int i => some (.inl i)
  | .str l => some (.inr (S l))
  | _ => none
def isF : D → Bool
  | .int _ => true
  | .str _ => true
  | _ => false
def numD : D → Option Int
  | .bl b => some (if b = true then 1 else 0)
  | .int i => some i
  | _ => none
mutual
def D.dep : D → Nat
  | .tup ds => deps ds + 1
  | _ => 0
def deps : List D → Nat
  | [] => 0
  | d :: ds => max d.dep (deps ds)
end
/-! may be hashed -/
mutual
def D.hok : D → Bool
  | .tup ds => hoks ds
  | .non => true
  | .bl _ => true
  | .int _ => true
  | .str _ => true
  | .ty _ => false
  | .fn _ => false
  | .lst _ => false
  | .fls _ => false
  | .dct _ _ => false
def hoks : List D → Bool
  | [] => true
  | d :: ds => d.hok && hoks ds
end
def isT : D → Bool
  | .tup ds => hoks ds && decide (deps ds + 1 ≤ 8)
  | _ => false
mutual
/-- == of keys -/
def D.keq : D → D → Bool
  | .non, .non => true
  | .bl a, .bl b => decide (a = b)
  | .bl a, .int b => decide ((if a = true then 1 else 0) = b)
  | .int a, .bl b => decide (a = (if b = true then 1 else 0))
  | .int a, .int b => decide (a = b)
  | .str a, .str b => decide (a = b)
  | .tup a, .tup b => keqs a b
  | _, _ => false
def keqs : List D → List D → Bool
  | [], [] => true
  | a :: as, b :: bs => a.keq b && keqs as bs
  | _, _ => false
end
mutual
theorem nk_hok : ∀ d : D, d.hok = true → ∃ k, nk d = some k ∧ k.depth = d.dep
  | .non, _ => ⟨_, rfl, rfl⟩
  | .bl _, _ => ⟨_, rfl, rfl⟩
  | .int _, _ => ⟨_, rfl, rfl⟩
  | .str _, _ => ⟨_, rfl, rfl⟩
  | .tup ds, h => by
    obtain ⟨ks, h1, h2⟩ := nks_hok ds h
    refine ⟨.tup ks, by show (nks ds).map _ = _; rw [h1]; rfl, ?_⟩
    show NestedKey.depthAll ks + 1 = deps ds + 1
    rw [h2]
  | .ty _, h => by cases h
  | .fn _, h => by cases h
  | .lst _, h => by cases h
  | .fls _, h => by cases h
  | .dct _ _, h => by cases h
theorem nks_hok : ∀ ds : List D, hoks ds = true → ∃ ks, nks ds = some ks ∧ NestedKey.depthAll ks = deps ds
  | [], _ => ⟨[], rfl, rfl⟩
  | d :: ds, h => by
    have h : (d.hok && hoks ds) = true := h
    rw [Bool.and_eq_true] at h
    obtain ⟨k, a1, a2⟩ := nk_hok d h.1
    obtain ⟨ks, b1, b2⟩ := nks_hok ds h.2
    refine ⟨k :: ks, by unfold nks; rw [a1, b1], ?_⟩
    show max k.depth (NestedKey.depthAll ks) = max d.dep (deps ds)
    rw [a2, b2]
end
mutual
theorem keq_nk : ∀ (a b : D) (x y : NestedKey), nk a = some x → nk b = some y → a.keq b = decide (x = y)
  | .non, b, x, y, h1, h2 => by
    cases h1
    cases b <;> first
      | (cases h2; simp [D.keq]; done)
      | (cases h2; done)
      | (rename_i ds; have h2 : (nks ds).map NestedKey.tup = some y := h2; cases q : nks ds <;> rw [q] at h2 <;> cases h2; simp [D.keq])
  | .bl c, b, x, y, h1, h2 => by
    cases h1
    cases b <;> first
      | (cases h2; simp [D.keq]; done)
      | (cases h2; rename_i e; cases c <;> cases e <;> rfl)
      | (cases h2; done)
      | (rename_i ds; have h2 : (nks ds).map NestedKey.tup = some y := h2; cases q : nks ds <;> rw [q] at h2 <;> cases h2; simp [D.keq])
  | .int c, b, x, y, h1, h2 => by
    cases h1
    cases b <;> first
      | (cases h2; simp [D.keq]; done)
      | (cases h2; done)
      | (rename_i ds; have h2 : (nks ds).map NestedKey.tup = some y := h2; cases q : nks ds <;> rw [q] at h2 <;> cases h2; simp [D.keq])
  | .str c, b, x, y, h1, h2 => by
    cases h1
    cases b <;> first
      | (cases h2; simp [D.keq]; done)
      | (cases h2; rename_i e; by_cases z : c = e
         · subst z; simp [D.keq]
         · have : ¬ S c = S e := fun w => z (S_inj w)
           simp [D.keq, z, this])
      | (cases h2; done)
      | (rename_i ds; have h2 : (nks ds).map NestedKey.tup = some y := h2; cases q : nks ds <;> rw [q] at h2 <;> cases h2; simp [D.keq])
  | .tup as, b, x, y, h1, h2 => by
    have h1 : (nks as).map NestedKey.tup = some x := h1
    cases q1 : nks as with
    | none => rw [q1] at h1; cases h1
    | some ks =>
      rw [q1] at h1
      cases h1
      cases b <;> first
        | (cases h2; simp [D.keq]; done)
        | (cases h2; done)
        | (rename_i bs
           have h2 : (nks bs).map NestedKey.tup = some y := h2
           cases q2 : nks bs with
           | none => rw [q2] at h2; cases h2
           | some ls =>
             rw [q2] at h2
             cases h2
             have e := keqs_nk as bs ks ls q1 q2
             show keqs as bs = _
             rw [e]
             by_cases z : ks = ls
             · simp [z]
             · simp [z])
  | .ty _, _, _, _, h1, _ => by cases h1
  | .fn _, _, _, _, h1, _ => by cases h1
  | .lst _, _, _, _, h1, _ => by cases h1
  | .fls _, _, _, _, h1, _ => by cases h1
  | .dct _ _, _, _, _, h1, _ => by cases h1
theorem keqs_nk : ∀ (as bs : List D) (xs ys : List NestedKey), nks as = some xs → nks bs = some ys → keqs as bs = decide (xs = ys)
  | [], [], xs, ys, h1, h2 => by cases h1; cases h2; rfl
  | [], b :: bs, xs, ys, h1, h2 => by
    cases h1
    unfold nks at h2
    split at h2
    · cases h2; rfl
    · cases h2
  | a :: as, [], xs, ys, h1, h2 => by
    cases h2
    unfold nks at h1
    split at h1
    · cases h1; rfl
    · cases h1
  | a :: as, b :: bs, xs, ys, h1, h2 => by
    unfold nks at h1 h2
    split at h1
    · rename_i x1 xs1 e1 e2
      split at h2
      · rename_i y1 ys1 e3 e4
        cases h1
        cases h2
        unfold keqs
        rw [keq_nk a b x1 y1 e1 e3, keqs_nk as bs xs1 ys1 e2 e4]
        by_cases z1 : x1 = y1 <;> by_cases z2 : xs1 = ys1 <;> simp [z1, z2]
      · cases h2
    · cases h1
end
theorem keq_F {a b : D} {x y : Key} (h1 : kyF a = some x) (h2 : kyF b = some y) : a.keq b = decide (x = y) := by
  cases a <;> first | (cases h1; done) | skip
  · cases h1
    cases b <;> first | (cases h2; done) | skip
    · cases h2; simp [D.keq]
    · cases h2; simp [D.keq]
  · cases h1
    cases b <;> first | (cases h2; done) | skip
    · cases h2; simp [D.keq]
    · cases h2
      rename_i c e
      by_cases z : c = e
      · subst z; simp [D.keq]
      · have : ¬ S c = S e := fun w => z (S_inj w)
        simp [D.keq, z, this]
theorem isF_ky {d : D} (h : isF d = true) : ∃ k, kyF d = some k := by
  cases d <;> first | (cases h; done) | exact ⟨_, rfl⟩
theorem isT_nk {d : D} (h : isT d = true) : ∃ k ds, d = .tup ds ∧ nk d = some k ∧ k.depth ≤ 8 := by
  cases d with
  | tup ds =>
    have h : (hoks ds && decide (deps ds + 1 ≤ 8)) = true := h
    rw [Bool.and_eq_true] at h
    obtain ⟨k, a, b⟩ := nk_hok (.tup ds) h.1
    refine ⟨k, ds, rfl, a, ?_⟩
    rw [b]
    exact of_decide_eq_true h.2
  | _ => cases h

/-! ### where things stand -/
structure Kx where
  K : PySem.W.Frag
  P : Program
  w : World
  ca : Nat → Addr := fun _ => default
  fa : Nat → Addr := fun _ => default
  fl : Nat → Str := fun _ => ""
  hf : Nat → Nat → Bool := fun _ _ => false
/-- a dict whose keys are tuples -/
def dxO (K : Kx) (a : Addr) (xs : List (NestedKey × Addr × Value)) : HO := .ext fun h => (a == sysModules) = false ∧ xs.length ≤ sizeLine ∧ ∃ o es ep, h.get? a = some o ∧ o.ExactDict ∧ o.data = .dict es ep ∧ es.toList = xs.map (entryOfKey (nestedKind K.P K.w)) ∧ (xs.map (·.1)).Nodup
/-- the dict at p: its keys, what stands for them, what stands for its values -/
def DcAt (K : Kx) (G : Hp) (p : Addr) (ks : List D) (kr vs : List V) : Prop :=
  (∃ kv : List (Key × V), G p = some (.dK kv) ∧ ks.map kyF = kv.map (fun q => some q.1) ∧ kr = kv.map (fun q => kV q.1) ∧ vs = kv.map (·.2)) ∨
  (ks ≠ [] ∧ ∃ xs : List (NestedKey × Addr × Value), G p = some (dxO K p xs) ∧ ks.map nk = xs.map (fun q => some q.1) ∧ (∀ d ∈ ks, isT d = true) ∧ kr = xs.map (fun q => V.ref q.2.1) ∧ Vals vs (xs.map (·.2.2)) ∧ ∀ q ∈ xs, q.1.depth ≤ 8)
/-- a tuple: frozen, or of the module -/
def TpAt (K : Kx) (G : Hp) (p : Addr) (vs : List V) : Prop :=
  (∃ o : Obj, G p = some (.frz o (.tup vs)) ∧ o.dict = none) ∨ ∃ (o : Obj) (its : Array Value) (n : Nat), K.K.lookup p = some o ∧ o.cls = .type "tuple" ∧ o.dict = none ∧ o.data = .seq its n ∧ its.size ≤ sizeLine ∧ Vals vs its.toList
theorem TpAt.sq {K : Kx} {G : Hp} {p : Addr} {vs : List V} (h : TpAt K G p vs) : SqT K.K G p vs := by
  rcases h with ⟨o, h, _⟩ | ⟨o, its, n, h1, h2, _, h3⟩
  · exact .inl (.inr ⟨o, h⟩)
  · exact .inr ⟨o, its, n, h1, h2, h3⟩
theorem TpAt.mono {K : Kx} {G G' : Hp} {p : Addr} {vs : List V} (e : Ex G G') (h : TpAt K G p vs) : TpAt K G' p vs := by
  rcases h with ⟨o, h, hd⟩ | h
  · exact .inl ⟨o, e _ _ h, hd⟩
  · exact .inr h
theorem TpAt.new {K : Kx} {G : Hp} {p : Addr} {vs : List V} {o : Obj} (hd : o.dict = none) : TpAt K (upd G p (.frz o (.tup vs))) p vs := .inl ⟨o, upd_same, hd⟩
theorem DcAt.at {K : Kx} {G G' : Hp} {p : Addr} {ks : List D} {kr vs : List V} (e : ∀ o, G p = some o → G' p = some o) (h : DcAt K G p ks kr vs) : DcAt K G' p ks kr vs := by
  rcases h with ⟨kv, h1, h2⟩ | ⟨h0, xs, h1, h2⟩
  · exact .inl ⟨kv, e _ h1, h2⟩
  · exact .inr ⟨h0, xs, e _ h1, h2⟩
theorem DcAt.mono {K : Kx} {G G' : Hp} {p : Addr} {ks : List D} {kr vs : List V} (e : Ex G G') (h : DcAt K G p ks kr vs) : DcAt K G' p ks kr vs := h.at fun o q => e _ _ q
/-- the dict at p, locked or not -/
def DcV (K : Kx) (G : Hp) (p : Addr) (ks : List D) (kr vs : List V) : Prop :=
  DcAt K G p ks kr vs ∨ ∃ (od : Obj) (kv : List (Key × V)), G p = some (.frz od (.dK kv)) ∧ ks.map kyF = kv.map (fun q => some q.1) ∧ kr = kv.map (fun q => kV q.1) ∧ vs = kv.map (·.2)
theorem DcAt.v {K : Kx} {G : Hp} {p : Addr} {ks : List D} {kr vs : List V} (h : DcAt K G p ks kr vs) : DcV K G p ks kr vs := .inl h
theorem DcV.at {K : Kx} {G G' : Hp} {p : Addr} {ks : List D} {kr vs : List V} (e : ∀ o, G p = some o → G' p = some o) (h : DcV K G p ks kr vs) : DcV K G' p ks kr vs := by
  rcases h with h | ⟨od, kv, h1, h2⟩
  · exact .inl (h.at e)
  · exact .inr ⟨od, kv, e _ h1, h2⟩
theorem DcV.mono {K : Kx} {G G' : Hp} {p : Addr} {ks : List D} {kr vs : List V} (e : Ex G G') (h : DcV K G p ks kr vs) : DcV K G' p ks kr vs := h.at fun o q => e _ _ q
theorem DcV.cs {K : Kx} {G : Hp} {p : Addr} {ks : List D} {kr vs : List V} (h : DcV K G p ks kr vs) :
  (∃ kv : List (Key × V), Rd G p (.dK kv) ∧ ks.map kyF = kv.map (fun q => some q.1) ∧ kr = kv.map (fun q => kV q.1) ∧ vs = kv.map (·.2)) ∨
  (ks ≠ [] ∧ ∃ xs : List (NestedKey × Addr × Value), G p = some (dxO K p xs) ∧ ks.map nk = xs.map (fun q => some q.1) ∧ (∀ d ∈ ks, isT d = true) ∧ kr = xs.map (fun q => V.ref q.2.1) ∧ Vals vs (xs.map (·.2.2)) ∧ ∀ q ∈ xs, q.1.depth ≤ 8) := by
  rcases h with (⟨kv, h1, h2⟩ | h) | ⟨od, kv, h1, h2⟩
  · exact .inl ⟨kv, .inl h1, h2⟩
  · exact .inr h
  · exact .inl ⟨kv, .inr ⟨od, h1⟩, h2⟩
mutual
/-- v stands for d; its objects are in the frozen heap G -/
def Rp (K : Kx) (G : Hp) : D → V → Prop
  | .non, v => v = .non
  | .bl b, v => v = .bl b
  | .int i, v => v = .int i
  | .str l, v => v = .str (S l)
  | .ty n, v => v = .ty n
  | .fn i, v => v = .ref (K.fa i)
  | .lst ds, v => ∃ p vs, v = .ref p ∧ G p = some (.lst vs) ∧ Rps K G ds vs
  | .tup ds, v => ∃ p vs, v = .ref p ∧ TpAt K G p vs ∧ Rps K G ds vs
  | .fls ds, v => ∃ p vs, v = .ref p ∧ SqL K.K G p vs ∧ Rps K G ds vs
  | .dct ks ds, v => ∃ p kr vs, v = .ref p ∧ DcV K G p ks kr vs ∧ Rps K G ks kr ∧ Rps K G ds vs
def Rps (K : Kx) (G : Hp) : List D → List V → Prop
  | [], vs => vs = []
  | d :: ds, vs => ∃ v r, vs = v :: r ∧ Rp K G d v ∧ Rps K G ds r
end
section
variable {K : Kx} {G G' H H' : Hp}
mutual
theorem Rp.mono (e : Ex G G') : ∀ (d : D) (v : V), Rp K G d v → Rp K G' d v
  | .non, _, h => h
  | .bl _, _, h => h
  | .int _, _, h => h
  | .str _, _, h => h
  | .ty _, _, h => h
  | .fn _, _, h => h
  | .lst ds, _, h => by
    obtain ⟨p, vs, h1, h2, h3⟩ := h
    exact ⟨p, vs, h1, e _ _ h2, Rps.mono e ds vs h3⟩
  | .tup ds, _, h => by
    obtain ⟨p, vs, h1, h2, h3⟩ := h
    exact ⟨p, vs, h1, h2.mono e, Rps.mono e ds vs h3⟩
  | .fls ds, _, h => by
    obtain ⟨p, vs, h1, h2, h3⟩ := h
    exact ⟨p, vs, h1, ex_l e h2, Rps.mono e ds vs h3⟩
  | .dct ks ds, _, h => by
    obtain ⟨p, kr, vs, h1, h2, h3, h4⟩ := h
    exact ⟨p, kr, vs, h1, h2.mono e, Rps.mono e ks kr h3, Rps.mono e ds vs h4⟩
theorem Rps.mono (e : Ex G G') : ∀ (ds : List D) (vs : List V), Rps K G ds vs → Rps K G' ds vs
  | [], _, h => h
  | d :: ds, _, h => by
    obtain ⟨v, r, h1, h2, h3⟩ := h
    exact ⟨v, r, h1, Rp.mono e d v h2, Rps.mono e ds r h3⟩
end
mutual
theorem Rp.dp : ∀ (d : D) (v : V), d.py.canLay0 = true → Rp K G d v → Dp K.K G v d.py
  | .non, _, _, h => by cases h; exact .non
  | .bl _, _, _, h => by cases h; exact .bl _
  | .int _, _, _, h => by cases h; exact .int _
  | .str _, _, _, h => by cases h; exact .str _
  | .ty _, _, c, _ => by cases c
  | .fn _, _, c, _ => by cases c
  | .dct _ _, _, c, _ => by cases c
  | .lst ds, _, c, h => by
    obtain ⟨p, vs, rfl, h2, h3⟩ := h
    exact .lst (SqL.of h2) (Rps.dp ds vs c h3)
  | .tup ds, _, c, h => by
    obtain ⟨p, vs, rfl, h2, h3⟩ := h
    exact .tup h2.sq (Rps.dp ds vs c h3)
  | .fls ds, _, c, h => by
    obtain ⟨p, vs, rfl, h2, h3⟩ := h
    exact .lst h2 (Rps.dp ds vs c h3)
theorem Rps.dp : ∀ (ds : List D) (vs : List V), PyData.canLayAll0 (D.pys ds) = true → Rps K G ds vs → DpAll K.K G vs (D.pys ds)
  | [], _, _, h => by cases h; exact .nil
  | d :: ds, _, c, h => by
    obtain ⟨v, r, rfl, h2, h3⟩ := h
    have c2 : (d.py.canLay0 && PyData.canLayAll0 (D.pys ds)) = true := c
    rw [Bool.and_eq_true] at c2
    exact .cons (Rp.dp d v c2.1 h2) (Rps.dp ds r c2.2 h3)
end
theorem pys_map : ∀ ds : List D, D.pys ds = ds.map D.py
  | [] => rfl
  | d :: ds => by rw [List.map_cons, ← pys_map ds]; rfl
theorem Rps.length : ∀ (ds : List D) (vs : List V), Rps K G ds vs → vs.length = ds.length
  | [], _, h => by cases h; rfl
  | d :: ds, _, h => by
    obtain ⟨v, r, rfl, _, h3⟩ := h
    rw [List.length_cons, List.length_cons, Rps.length ds r h3]
theorem Rps.get : ∀ (ds : List D) (vs : List V) (i : Nat) (d : D), Rps K G ds vs → ds[i]? = some d → ∃ v, vs[i]? = some v ∧ Rp K G d v
  | [], _, _, _, _, e => by simp at e
  | d :: ds, _, 0, _, h, e => by
    obtain ⟨v, r, rfl, h2, h3⟩ := h
    cases e
    exact ⟨v, rfl, h2⟩
  | d :: ds, _, i + 1, x, h, e => by
    obtain ⟨v, r, rfl, h2, h3⟩ := h
    exact Rps.get ds r i x h3 e
theorem Rps.append : ∀ (ds es : List D) (vs us : List V), Rps K G ds vs → Rps K G es us → Rps K G (ds ++ es) (vs ++ us)
  | [], _, _, _, h, q => by cases h; exact q
  | d :: ds, es, _, us, h, q => by
    obtain ⟨v, r, rfl, h2, h3⟩ := h
    exact ⟨v, r ++ us, rfl, h2, Rps.append ds es r us h3 q⟩
theorem Rps.take : ∀ (n : Nat) (ds : List D) (vs : List V), Rps K G ds vs → Rps K G (ds.take n) (vs.take n)
  | 0, _, _, _ => rfl
  | _ + 1, [], _, h => by cases h; rfl
  | n + 1, d :: ds, _, h => by
    obtain ⟨v, r, rfl, h2, h3⟩ := h
    exact ⟨v, r.take n, rfl, h2, Rps.take n ds r h3⟩
theorem Rps.drop : ∀ (n : Nat) (ds : List D) (vs : List V), Rps K G ds vs → Rps K G (ds.drop n) (vs.drop n)
  | 0, _, _, h => h
  | _ + 1, [], _, h => by cases h; rfl
  | n + 1, d :: ds, _, h => by
    obtain ⟨v, r, rfl, h2, h3⟩ := h
    exact Rps.drop n ds r h3
theorem Rps.set : ∀ (n : Nat) (ds : List D) (vs : List V) (d : D) (v : V), Rps K G ds vs → Rp K G d v → Rps K G (ds.set n d) (vs.set n v)
  | _, [], _, _, _, h, _ => by cases h; rfl
  | 0, d :: ds, _, x, y, h, q => by
    obtain ⟨v, r, rfl, h2, h3⟩ := h
    exact ⟨y, r, rfl, q, h3⟩
  | n + 1, d :: ds, _, x, y, h, q => by
    obtain ⟨v, r, rfl, h2, h3⟩ := h
    exact ⟨v, r.set n y, rfl, h2, Rps.set n ds r x y h3 q⟩
theorem Rps.one {d : D} {v : V} (h : Rp K G d v) : Rps K G [d] [v] := ⟨v, [], rfl, h, rfl⟩
theorem Rps.snoc {ds : List D} {vs : List V} {d : D} {v : V} (h : Rps K G ds vs) (q : Rp K G d v) : Rps K G (ds ++ [d]) (vs ++ [v]) := Rps.append _ _ _ _ h (Rps.one q)
theorem Rps.rev : ∀ (ds : List D) (vs : List V), Rps K G ds vs → Rps K G ds.reverse vs.reverse
  | [], _, h => by cases h; rfl
  | d :: ds, _, h => by
    obtain ⟨v, r, rfl, h2, h3⟩ := h
    rw [List.reverse_cons, List.reverse_cons]
    exact Rps.snoc (Rps.rev ds r h3) h2

/-- as a value that is read only: frozen, or a list or dict that is ours with frozen items -/
def Rq (K : Kx) (G H : Hp) (d : D) (v : V) : Prop := Rp K G d v ∨ (∃ ds p vs, d = .lst ds ∧ v = .ref p ∧ H p = some (.lst vs) ∧ Rps K G ds vs) ∨ ∃ ks ds p kr vs, d = .dct ks ds ∧ v = .ref p ∧ DcAt K H p ks kr vs ∧ Rps K G ks kr ∧ Rps K G ds vs
theorem Rq.dp {d : D} {v : V} (e : Ex G H) (h : Rq K G H d v) (c : d.py.canLay0 = true) : Dp K.K H v d.py := by
  rcases h with h | ⟨ds, p, vs, rfl, rfl, h1, h2⟩ | ⟨ks, ds, p, kr, vs, rfl, _⟩
  · exact Rp.dp d v c (Rp.mono e d v h)
  · exact .lst (SqL.of h1) (Rps.dp ds vs c (Rps.mono e ds vs h2))
  · cases c
theorem Rq.lst {ds : List D} {v : V} (e : Ex G H) (h : Rq K G H (.lst ds) v) : ∃ p vs, v = .ref p ∧ H p = some (.lst vs) ∧ Rps K G ds vs := by
  rcases h with h | ⟨es, p, vs, h0, h1, h2, h3⟩ | ⟨ks, ds, p, kr, vs, h0, _⟩
  · obtain ⟨p, vs, h1, h2, h3⟩ := h
    exact ⟨p, vs, h1, e _ _ h2, h3⟩
  · cases h0
    exact ⟨p, vs, h1, h2, h3⟩
  · cases h0
theorem Rq.dct {ks ds : List D} {v : V} (e : Ex G H) (h : Rq K G H (.dct ks ds) v) : ∃ p kr vs, v = .ref p ∧ DcV K H p ks kr vs ∧ Rps K G ks kr ∧ Rps K G ds vs := by
  rcases h with h | ⟨es, p, vs, h0, h1, h2, h3⟩ | ⟨ks', ds', p, kr, vs, h0, h1, h2, h3, h4⟩
  · obtain ⟨p, kr, vs, h1, h2, h3, h4⟩ := h
    exact ⟨p, kr, vs, h1, h2.mono e, h3, h4⟩
  · cases h0
  · cases h0
    exact ⟨p, kr, vs, h1, h2.v, h3, h4⟩
theorem Rq.rp {d : D} {v : V} (h : Rq K G H d v) (n : (∀ ds, d ≠ .lst ds) ∧ ∀ ks ds, d ≠ .dct ks ds) : Rp K G d v := by
  rcases h with h | ⟨ds, p, vs, e, _⟩ | ⟨ks, ds, p, kr, vs, e, _⟩
  · exact h
  · exact absurd e (n.1 ds)
  · exact absurd e (n.2 ks ds)
theorem Rq.tup {ds : List D} {v : V} (h : Rq K G H (.tup ds) v) : ∃ p vs, v = .ref p ∧ TpAt K G p vs ∧ Rps K G ds vs := h.rp ⟨(fun _ z => nomatch z), fun _ _ z => nomatch z⟩
theorem Rq.fls {ds : List D} {v : V} (h : Rq K G H (.fls ds) v) : ∃ p vs, v = .ref p ∧ SqL K.K G p vs ∧ Rps K G ds vs := h.rp ⟨(fun _ z => nomatch z), fun _ _ z => nomatch z⟩
theorem Rq.int {i : Int} {v : V} (h : Rq K G H (.int i) v) : v = .int i := h.rp ⟨(fun _ z => nomatch z), fun _ _ z => nomatch z⟩
theorem Rq.str {l : List Nat} {v : V} (h : Rq K G H (.str l) v) : v = .str (S l) := h.rp ⟨(fun _ z => nomatch z), fun _ _ z => nomatch z⟩
theorem Rq.bl {b : Bool} {v : V} (h : Rq K G H (.bl b) v) : v = .bl b := h.rp ⟨(fun _ z => nomatch z), fun _ _ z => nomatch z⟩
theorem Rq.non {v : V} (h : Rq K G H .non v) : v = .non := h.rp ⟨(fun _ z => nomatch z), fun _ _ z => nomatch z⟩

/-! ### a pure step -/
structure Pu (G H G' H' : Hp) : Prop where
  g : Ex G G'
  i : Ex G' H'
  h : Ex H H'
  f : ∀ a, G a = none → H a ≠ none → G' a = none
theorem Pu.refl (e : Ex G H) : Pu G H G H := ⟨Ex.refl G, e, Ex.refl H, fun _ h _ => h⟩
theorem Pu.trans {G2 H2 : Hp} (a : Pu G H G' H') (b : Pu G' H' G2 H2) : Pu G H G2 H2 :=
  ⟨a.g.trans b.g, b.i, a.h.trans b.h, fun x n m => b.f x (a.f x n m) (by
    cases q : H x with
    | none => exact absurd q m
    | some o => rw [a.h x o q]; exact fun z => nomatch z)⟩
theorem none_of_ex {p : Addr} (e : Ex G H) (h : H p = none) : G p = none := fresh_back e h
/-- a new frozen object -/
theorem Pu.new {p : Addr} {o : HO} (e : Ex G H) (h : H p = none) : Pu G H (upd G p o) (upd H p o) :=
  ⟨Ex.new (none_of_ex e h), fun a u q => by
    by_cases z : a = p
    · subst z; rw [upd_same] at q ⊢; exact q
    · rw [upd_ne z] at q ⊢; exact e a u q, Ex.new h, fun a n m => by
    by_cases z : a = p
    · subst z; exact absurd h m
    · rw [upd_ne z]; exact n⟩
theorem sz_line {n : Nat} (h : n ≤ 16777216) : n ≤ sizeLine := Nat.le_trans h (by decide)
end
end Mq
/-! A small language over HandS: new tuples, whose objects are known. -/
namespace Mq
open PySem L2 Evl PyProof.Rows HT
section
variable {X : Cx} {pins : List (Addr × Obj)} {σ : L2.St} {H : Hp} {s : Shared}
/-- what a new tuple of these is wished for -/
abbrev NewT (xs : List V) (H : Hp) (Q : VK) : Prop := ∀ (p : Addr) (o : Obj), H p = none → o.dict = none → Q (.ref p) (upd H p (.frz o (.tup xs)))
theorem laidT {xs : List V} {its : List Value} {Q : VK} (I : Inv X pins σ H s) (r : Vals xs its) (z : xs.length ≤ sizeLine) (q : NewT xs H Q) : EP X pins σ Q (.ref s.heap.objs.size) { s with heap := s.heap.push { cls := .type "tuple", data := .seq its.toArray } } :=
  ⟨.ref s.heap.objs.size, _, I.laid (t' := s.toks) (o := .frz { cls := .type "tuple", data := .seq its.toArray } (.tup xs)) (fun b u e => Heap.get?_push_of_some _ e) (Nat.le_refl _) ⟨Heap.get?_push_size _ rfl, z, its, r, IsTup.new _ _⟩, rfl, q _ _ (I.hok.fresh (Nat.le_refl _)) rfl⟩
def tTupF (t : TA) : TE := fun σ H Q => t σ H fun xs H1 => xs.length ≤ sizeLine ∧ NewT xs H1 Q
theorem pe_tupF {es : List Expr} {t : TA} {pos : Pos} {x1} (h : PA X es t) : PE X (.Tuple es x1 pos) (tTupF t) := by
  refine ⟨fun pins s σ H Q I hq => ?_⟩
  exact wpAny_Tuple_spliced (thn (h.run pos pins s σ H _ I hq) fun us s1 ⟨xs, H1, I1, r, z, q⟩ => ⟨by rw [← r.length]; exact z, laidT I1 r z q⟩)
def rTupleF (K : PySem.W.Frag) : List V → Hp → VK → Prop := fun xs H Q => ∃ p ys, xs = [.ref p] ∧ ((SqL K H p ys ∧ NewT ys H Q) ∨ (SqT K H p ys ∧ Q (.ref p) H))
theorem call_tupleF : CallR X (.type "tuple") (rTupleF X.K) := by
  intro pins s σ H xs us Q I r h
  obtain ⟨p, ys, rfl, h⟩ := h
  obtain ⟨u, rfl, rx⟩ := vals1 r
  cases rx
  rcases h with ⟨hq, q⟩ | ⟨hq, q⟩
  · obtain ⟨its, r2, pl, hz⟩ := I.list hq
    have hlen := r2.length
    exact call_tuple_list pl.isList (fun h' kp => laidT (I.kept (t' := s.toks) kp) r2 hz q) (by simp only [List.size_toArray] <;> omega)
  · obtain ⟨its, r2, pl, hz⟩ := I.tuple hq
    exact call_tuple_same pl ⟨.ref p, H, I, rfl, q⟩
def rCatF (K : PySem.W.Frag) : R2 := fun x y H Q => ∃ a b xs ys, x = .ref a ∧ y = .ref b ∧ SqT K H a xs ∧ SqT K H b ys ∧ xs.length + ys.length ≤ sizeLine ∧
  (xs = [] → Q (.ref b) H) ∧ (xs ≠ [] → ys = [] → Q (.ref a) H) ∧ (xs ≠ [] → ys ≠ [] → NewT (xs ++ ys) H Q)
theorem op_catF : OpR X (binaryOp .Add) (rCatF X.K) := by
  intro pins s σ H x y v u Q I rx ry h
  obtain ⟨a, b, xs, ys, rfl, rfl, ha, hb, hz, q0, q1, q2⟩ := h
  cases rx
  cases ry
  obtain ⟨its, r1, p1, _⟩ := I.tuple ha
  obtain ⟨its2, r2, p2, _⟩ := I.tuple hb
  by_cases hx : xs = []
  · subst hx
    cases r1
    exact cat_tup0 p1 p2 ⟨.ref b, H, I, rfl, q0 rfl⟩
  · refine HT.cat_tup p1 p2 (fun z => hx (r1.nil_iff.mp z)) (fun z => ⟨.ref a, H, I, rfl, q1 hx (r2.nil_iff.mp z)⟩) (fun z => ?_) (by rw [← r1.length, ← r2.length]; exact hz)
    exact laidT I (r1.append r2) (by rw [List.length_append]; exact hz) (q2 hx fun w => z (r2.nil_iff.mpr w))
def rSlF (K : PySem.W.Frag) : V → Option Int → Option Int → Hp → VK → Prop := fun x lo hi H Q => ∃ a xs, x = .ref a ∧ SqT K H a xs ∧
  (HT.sIx xs.length 0 lo = 0 ∧ HT.sIx xs.length xs.length hi = xs.length → Q (.ref a) H) ∧ (¬ (HT.sIx xs.length 0 lo = 0 ∧ HT.sIx xs.length xs.length hi = xs.length) → NewT (cutV xs lo hi) H Q)
theorem sl_tupF : SlR X (rSlF X.K) := by
  intro pins s σ H x v vl vu lo hi sl Q I rx hs pl pu h
  obtain ⟨a, xs, rfl, hx, q1, q2⟩ := h
  cases rx
  obtain ⟨its, r, ht, hz⟩ := I.tuple hx
  have hlen : its.toArray.size = xs.length := by rw [List.size_toArray]; exact r.length.symm
  refine ⟨"tuple", _, PyProof.Rows.slot_tuple_getitem.lookup, ht.typeIs, ?_⟩
  by_cases hw : HT.sIx xs.length 0 lo = 0 ∧ HT.sIx xs.length xs.length hi = xs.length
  · exact getItem_tuple_whole ht hs pl pu (by rw [hlen]; exact hw) ⟨.ref a, H, I, rfl, q1 hw⟩
  · refine HT.getItem_tuple_cut ht hs pl pu (by rw [hlen]; exact hw) ?_ (by rw [hlen]; exact hz)
    rw [hlen]
    exact laidT I ((r.drop (HT.sIx xs.length 0 lo)).take (HT.sIx xs.length xs.length hi - HT.sIx xs.length 0 lo)) (Nat.le_trans (cutV_length xs lo hi) hz) (q2 hw)
def rRepF (K : PySem.W.Frag) : R2 := fun x y H Q => ∃ l k xs, x = .ref l ∧ y = .int k ∧ SqT K H l xs ∧ xs ≠ [] ∧ k ≤ 1000 ∧ 0 ≤ k ∧ xs.length ≤ 1000 ∧ (k = 1 → Q (.ref l) H) ∧ (k ≠ 1 → NewT (List.replicate k.toNat xs).flatten H Q)
/-- t * 1 is t -/
theorem tuple_mul1 (l : Addr) (items : Array Value) (n : Nat) (dd : Option Addr) (sl : Array (Option Value)) (u : Tok) :
    Meets (Builtin.«tuple.__mul__» ⟨[.ref l, .int 1 u], []⟩) (fun _ R s => s.heap.get? l = some { cls := .type "tuple", dict := dd, data := .seq items n, slots := sl } ∧ R (.ok (.ret (Value.ref l))) s) :=
  .of_wp fun prog w A R s h => by
    obtain ⟨hp, g, d, tk, os⟩ := s
    obtain ⟨hl, h⟩ := h
    have f1 := AutoSeq1.idx_int
    have c1 : (items.isEmpty || (1 : Int) == 1) = true := by rw [Bool.or_eq_true]; exact .inr rfl
    wp_walk using wpAny_loadPart' hl
    repeat (first
      | (refine wpAny_ite_true (decide_eq_true c1) ?_; wp_walk using wpAny_loadPart' hl)
      | (refine wpAny_ite_false (by decide) ?_; wp_walk using wpAny_loadPart' hl))
    all_goals exact ⟨_, rfl, h⟩
theorem tuple_mul0 (l : Addr) (items : Array Value) (n : Nat) (dd : Option Addr) (sl : Array (Option Value)) (u : Tok) (he : items.isEmpty = false) :
    Meets (Builtin.«tuple.__mul__» ⟨[.ref l, .int 0 u], []⟩) (fun _ R s => s.heap.get? l = some { cls := .type "tuple", dict := dd, data := .seq items n, slots := sl } ∧ R (.ok (.ret (Value.ref s.heap.objs.size))) { s with heap := s.heap.push { cls := Value.type "tuple", data := Data.seq #[] } }) :=
  .of_wp fun prog w A R s h => by
    obtain ⟨hp, g, d, tk, os⟩ := s
    obtain ⟨hl, h⟩ := h
    have f1 := AutoSeq1.idx_int
    have c1 : (items.isEmpty || (0 : Int) == 1) = false := by rw [he]; rfl
    have c2 : (decide ((0 : Int) ≤ 0) || items.isEmpty) = true := rfl
    wp_walk using wpAny_loadPart' hl
    repeat (first
      | (refine wpAny_ite_false (decide_eq_false (by rw [c1]; exact Bool.false_ne_true)) ?_; wp_walk using wpAny_loadPart' hl)
      | (refine wpAny_ite_true (decide_eq_true c2) ?_; wp_walk using wpAny_loadPart' hl)
      | (refine wpAny_ite_false (by decide) ?_; wp_walk using wpAny_loadPart' hl))
    all_goals exact ⟨_, rfl, h⟩
theorem op_repF : OpR X (binaryOp .Mult) (rRepF X.K) := by
  intro pins s σ H x y v u Q I rx ry h
  obtain ⟨l, k, xs, rfl, rfl, hT, hne, h1, h0, hz, q1, q⟩ := h
  cases rx
  obtain ⟨t, rfl⟩ := ry
  obtain ⟨its, r, ⟨⟨cls, dd, data, sl⟩, ho, hc, n, hd⟩, hs⟩ := I.tuple hT
  simp only at hc hd
  subst hc hd
  have hle : its.length = xs.length := r.length.symm
  have hn : its ≠ [] := fun e => hne (by
    rw [e] at hle
    exact List.eq_nil_of_length_eq_zero hle.symm)
  have hi : its.toArray.isEmpty = false := by
    cases its with
    | nil => exact absurd rfl hn
    | cons a b => rfl
  have hsz0 : its.toArray.size = xs.length := by rw [List.size_toArray, hle]
  have go : ∀ {Q1 : Value → Shared → Prop}, wpAny (model X.prog X.w) X.A.in1 (call (.builtin "tuple.__mul__") [.ref l, .int k t]) Q1 X.xe s → True := fun _ => trivial
  refine wpAny_binaryOp_repeat_ref (T := "tuple") (U := "int") (by decide) ⟨_, ho, rfl⟩ (fun s' => typeIs_int s' k t) noFill_tuple_mul F.fills_int_mul F.slot_int_rmul repeat_tuple F.slot_int_index.lookup
    (call_meets F.slot_int_rmul (typeIs_int s k t) F.entry_int_rmul (F.args_int_rmul_2 _ _) (int_rmul_tuple k t l its.toArray n dd sl) ⟨ho, rfl, ⟨_, ho, rfl⟩, ?_⟩)
  by_cases k1 : k = 1
  · subst k1
    exact call_meets F.slot_tuple_mul ⟨_, ho, rfl⟩ F.entry_tuple_mul (F.args_tuple_mul_2 _ _) (tuple_mul1 l its.toArray n dd sl t) ⟨ho, ⟨.ref l, H, I, rfl, q1 rfl⟩⟩
  by_cases k0 : k = 0
  · subst k0
    refine call_meets F.slot_tuple_mul ⟨_, ho, rfl⟩ F.entry_tuple_mul (F.args_tuple_mul_2 _ _) (tuple_mul0 l its.toArray n dd sl t hi) ⟨ho, ?_⟩
    exact laidT (its := []) I .nil (Nat.zero_le _) (q k1)
  have hm : ((its.toArray.size : Nat) : Int) * k ≤ 1000000 := by
    rw [hsz0]
    have a1 : ((xs.length : Nat) : Int) * k ≤ 1000 * k := Int.mul_le_mul_of_nonneg_right (by omega) (by omega)
    omega
  have flen : (List.replicate k.toNat its).flatten.length ≤ sizeLine := by
    rw [PyProof.Rows.lm_len_rep_flat, hle, sizeLine_eq]
    have a1 : k.toNat * xs.length ≤ 1000 * 1000 := Nat.mul_le_mul (by omega) hz
    omega
  have c0 : (decide (k < -(2 ^ 63)) || decide (k ≥ 2 ^ 63)) = false := by
    rw [decide_eq_false (by omega), decide_eq_false (by omega)] <;> rfl
  have c1 : (its.toArray.isEmpty || k == 1) = false := by
    rw [hi, Bool.false_or]
    exact beq_eq_false_iff_ne.mpr (by omega)
  have c2 : (decide (k ≤ 0) || its.toArray.isEmpty) = false := by
    rw [hi, Bool.or_false]
    exact decide_eq_false (by omega)
  have c4 : Builtin.Tuple.tupleTooMany (((its.toArray.size : Nat) : Int) * k) = false := by
    unfold Builtin.Tuple.tupleTooMany
    rw [sizeLine_eq]
    exact decide_eq_false (by omega)
  refine call_meets F.slot_tuple_mul ⟨_, ho, rfl⟩ F.entry_tuple_mul (F.args_tuple_mul_2 _ _) (tuple_mulW l its.toArray n dd sl k t c0 c1 c2 (by omega) c4 (by rw [size_rep, List.size_toArray]; exact flen)) ⟨ho, ?_⟩
  rw [size_rep]
  exact laidT I (r.rep k.toNat) (by rw [PyProof.Rows.lm_len_rep_flat, sizeLine_eq]; have a1 : k.toNat * xs.length ≤ 1000 * 1000 := Nat.mul_le_mul (by omega) hz; omega) (q k1)
end
end Mq
/-! A small language over HandS: sorted(xs, key=f), f a def of ours, on the heap. -/
namespace L2
open PySem PySem.Spec PyProof.Rows PySem.Calls
open PySem.W (KeepsBut keyH_tail keyH_end AllAlike Sortable dataKind dataLe KeyedOut EachIs SortsAt sortVals)
section
variable {X : Cx} {pins : List (Addr × Obj)} {σ : St} {H : Hp} {s : Shared} {h' : Heap}
/-- records of ours have turned, one of them is tracked now -/
theorem Inv.turnedOwn {t' : Nat} {ch : List Addr} {T : Addr} {ob : HO} (I : Inv X pins σ H s) (k : ∀ b o, b ∉ ch → s.heap.get? b = some o → h'.get? b = some o) (hf : ∀ b ∈ ch, FpOk X pins H b) (hT : T ∈ ch)
    (new : ObjOk X.prog X.w (upd H T ob) h' T ob) : Inv X pins σ (upd H T ob) { s with heap := h', toks := t' } := by
  have hn : H T = none := (hf T hT).1
  have nit : ∀ b u, H b = some u → b ∉ ch := fun b u e z => by
    have q := (hf b z).1
    rw [q] at e; cases e
  refine I.step (g' := s.gens) (d' := s.drawn) (ch := ch) (fun b hb => ⟨(hf b hb).2.2.2.1, (hf b hb).2.1, (hf b hb).2.2.2.2.1, (hf b hb).2.2.2.2.2⟩) (fun b o _ _ hc e _ => k b o hc e) (fun b o _ _ hc e _ => ⟨o.slots, k b o hc e⟩)
    (fun b o hc e n => ?_) (fun b o hc e => ⟨o, k b o hc e⟩) (fun b xs e => ?_) (fun b o u e => ?_) (fun b ps e => ⟨#[], ?_⟩) (fun m hm => ?_) (fun b u e => ?_) I.bare
  · rw [upd_ne (fun z => hc (by rw [z]; exact hT))]; exact n
  · rw [upd_ne (ne_of_none e hn)]; exact e
  · rw [upd_ne (ne_of_none e hn)]; exact e
  · rw [upd_ne (ne_of_none e hn), e]; simp
  · obtain ⟨o, es, ep, ho, r⟩ := hm
    exact ⟨o, es, ep, k _ o (fun z => (hf _ z).2.1 rfl) ho, r⟩
  · by_cases hb : b = T
    · subst hb
      rw [upd_same] at e
      cases e
      exact new
    · rw [upd_ne hb] at e
      refine (I.hok b u e).stay (fun c v hc q => k c v ?_ q) (fun c q => by rw [upd_ne (ne_of_none q hn)]; exact q) fun c xs q => by rw [upd_ne (ne_of_none q hn)]; exact q
      rcases hc with z | z
      · rw [z]; exact nit b u e
      · exact nit c _ z
/-- what an own record's address is like -/
structure Own (X : Cx) (pins : List (Addr × Obj)) (a : Addr) : Prop where
  l : a ≠ X.env.locals
  f : a ∉ X.fs
  s : X.s_0.heap.objs.size ≤ a
  c : ∀ x c, X.env.cells.lookup x = some c → c ≠ a
  p : ∀ p ∈ X.pn ++ pins, p.1 ≠ a
theorem Own.of {H' : Hp} (I : Inv X pins σ H s) {a : Addr} (h : s.heap.objs.size ≤ a) : Own X pins a := by
  obtain ⟨h1, h2, h3, h4, h5, h6⟩ := I.fpOk (H' := fun _ => none) h rfl
  exact ⟨h2, h3, h4.elim (fun z => Nat.le_trans I.sz h) id, h5, h6⟩
theorem Own.fp {a : Addr} (o : Own X pins a) {H : Hp} (h : H a = none) : FpOk X pins H a := ⟨h, o.l, o.f, .inr o.s, o.c, o.p⟩
theorem seq_nc {T : String} {its : Array Value} {n : Nat} : ∀ v, (seqObj T its n).data ≠ .cell v := fun v z => by
  have z : Data.seq its n = Data.cell v := z
  cases z
/-- two records of ours are pinned -/
theorem Own.pin2 {a kS : Addr} (oa : Own X pins a) (ok : Own X pins kS) (I : Inv X pins σ H s) {u v : Obj} (ha : s.heap.get? a = some u) (hk : s.heap.get? kS = some v) (na : H a = none) (nk : H kS = none) (du : ∀ w, u.data ≠ .cell w) (dv : ∀ w, v.data ≠ .cell w) : Inv X ((kS, v) :: (a, u) :: pins) σ H s :=
  I.pins_of fun p hp => by
    rcases List.mem_cons.mp hp with rfl | hp
    · exact ⟨hk, nk, ok.l, ok.f, dv⟩
    · rcases List.mem_cons.mp hp with rfl | hp
      · exact ⟨ha, na, oa.l, oa.f, du⟩
      · exact I.pin p (List.mem_append_right _ hp)
theorem Inv.unpin2 {p q : Addr × Obj} (I : Inv X (p :: q :: pins) σ H s) : Inv X pins σ H s := I.pins_of fun r hr => I.pin r (List.mem_append_right _ (List.mem_cons_of_mem _ (List.mem_cons_of_mem _ hr)))
end
/-- f is called on one after the other -/
def SkRun (sp : List V → Hp → VK → Prop) : List V → Hp → (List V → Hp → Prop) → Prop
  | [], H, C => C [] H
  | v :: vs, H, C => sp [v] H fun k H' => SkRun sp vs H' fun ks H'' => C (k :: ks) H''
section
variable {X : Cx} {pins : List (Addr × Obj)} {σ : St} {H : Hp} {s : Shared} {A2 : Around} {E : Value → Shared → Prop} {P : PySem.Fin → Shared → Prop} {sp : List V → Hp → VK → Prop} {f : Value} {a kS : Addr} {e1 : Nat}
/-- the call of the key -/
def SkCall (X : Cx) (A2 : Around) (f : Value) (sp : List V → Hp → VK → Prop) : Prop :=
  ∀ (pins : List (Addr × Obj)) (σ : St) (H : Hp) (s : Shared) (v : V) (u : Value) (Q : VK), Inv X pins σ H s → RelV v u → sp [v] H Q → wpAny (model X.prog X.w) A2 (call f [u]) (EP X pins σ Q) (fun _ _ => False) s
theorem Vals.getR {us : List V} {vs : List Value} (r : Vals us vs) {j : Nat} {x : Value} (h : vs[j]? = some x) : ∃ v, us[j]? = some v ∧ RelV v x := by
  induction r generalizing j with
  | nil => simp at h
  | cons h1 _ ih =>
    cases j with
    | zero => rw [List.getElem?_cons_zero] at h; cases h; exact ⟨_, rfl, h1⟩
    | succ j => rw [List.getElem?_cons_succ] at h ⊢; exact ih h
theorem Vals.snoc {us : List V} {vs : List Value} (r : Vals us vs) {v : V} {x : Value} (h : RelV v x) : Vals (us ++ [v]) (vs ++ [x]) := r.append (.cons h .nil)
/-- the state behind some keys -/
def SkSt (X : Cx) (pins : List (Addr × Obj)) (σ : St) (a kS : Addr) (e1 : Nat) (sp : List V → Hp → VK → Prop) (us : List V) (C : List V → Hp → Prop) (i : Nat) (s' : Shared) : Prop :=
  ∃ H' kd ka e, Inv X ((kS, seqObj "list" ka e) :: (a, seqObj "list" #[] e1) :: pins) σ H' s' ∧ Vals kd ka.toList ∧ kd.length = i ∧ SkRun sp (us.drop i) H' fun ks H'' => C (kd ++ ks) H''
theorem sk_rest (hc : SkCall X A2 f sp) {us : List V} {vs : List Value} {C : List V → Hp → Prop} (rv : Vals us vs) (hZ : vs.length ≤ sizeLine) (oa : Own X pins a) (ok : Own X pins kS) (hka : kS ≠ a)
    (st : SkSt X pins σ a kS e1 sp us C 0 s)
    (fin : ∀ s' H' kd ka e, Inv X ((kS, seqObj "list" ka e) :: (a, seqObj "list" #[] e1) :: pins) σ H' s' → Vals kd ka.toList → kd.length = us.length → C kd H' → wpAny (model X.prog X.w) A2 (ksk_end a false vs.toArray e1 (.ref kS) ka) P E s') :
    wpAny (model X.prog X.w) A2 (ksk_rest a f false vs.toArray e1 (.ref kS)) P E s := by
  have hl := rv.length
  unfold ksk_rest
  refine wpAny_bind (wpAny_rule ?_)
  first
    | rw [List.forIn_toArray]
    | (rw [← Array.forIn_toList]; simp only [List.toList_toArray])
    | rw [← Array.forIn_toList]
  refine wpAny_bind (ksk_fold (SkSt X pins σ a kS e1 sp us C) vs 0 s st ?step ?done)
  case step =>
    rintro j x s' hx ⟨H', kd, ka, e, I, rk, hkd, run⟩
    simp only [Nat.zero_add] at hkd run ⊢
    obtain ⟨v, hv, rx⟩ := rv.getR hx
    have hj : j < us.length := (List.getElem?_eq_some_iff.mp hv).1
    have ed : us.drop j = v :: us.drop (j + 1) := by
      rw [List.drop_eq_getElem_cons hj]
      congr 1
      exact Option.some.inj ((List.getElem?_eq_getElem hj).symm.trans hv)
    rw [ed] at run
    refine wpAny_bind (wpAny_attempt (wpAny_mono (hc _ σ H' s' v x _ I rx run) (fun u s'' he => ?_) fun _ _ hF => hF.elim))
    obtain ⟨k, H2, I2, rku, run2⟩ := he
    obtain ⟨nk2, hk2, _, _, _⟩ := I2.pin (kS, seqObj "list" ka e) (List.mem_append_right _ List.mem_cons_self)
    obtain ⟨na2, ha2, _, _, _⟩ := I2.pin (a, seqObj "list" #[] e1) (List.mem_append_right _ (List.mem_cons_of_mem _ List.mem_cons_self))
    try dsimp only at nk2 hk2 na2 ha2 ⊢
    have hz : ka.size ≤ vs.length := by
      have h1 : kd.length = ka.toList.length := rk.length
      have h2 : ka.toList.length = ka.size := Array.length_toList
      omega
    have s1 := Heap.SameBut.update s''.heap kS (Obj.mapSeq (·.push u))
    obtain ⟨c2, hc2⟩ : ∃ c2, (s''.heap.update kS (Obj.mapSeq (·.push u))).get? kS = some (seqObj "list" (ka.push u) c2) := ⟨_, get?_update_seq nk2 (·.push u)⟩
    refine wpAny_bind (listUpdate_at nk2 rfl ?_ (Nat.le_trans hz hZ) (Nat.le_trans (Nat.le_of_eq (Array.size_push ..)) (Nat.succ_le_succ (Nat.le_trans hz hZ))))
    have I3 : Inv X pins σ H2 { s'' with heap := s''.heap.update kS (Obj.mapSeq (·.push u)), toks := s''.toks } :=
      I2.unpin2.turnedL (ch := [kS]) (fun b o hb q => (s1.2 b (fun z => hb (by simp [z]))).trans q) fun b hb => by
        rw [List.mem_singleton.mp hb]
        exact ok.fp hk2
    have I4 := oa.pin2 ok I3 ((s1.2 a hka.symm).trans na2) hc2 ha2 hk2 seq_nc seq_nc
    refine wpAny_pure ⟨rfl, H2, kd ++ [k], ka.push u, c2, I4, ?_, by rw [List.length_append, hkd]; rfl, ?_⟩
    · have ea : (ka.push u).toList = ka.toList ++ [u] := by simp
      rw [ea]
      exact rk.snoc rku
    · simpa [List.append_assoc] using run2
  case done =>
    rintro s' ⟨H', kd, ka, e, I, rk, hkd, run⟩
    simp only [Nat.zero_add] at hkd run
    rw [List.drop_eq_nil_of_le (by omega)] at run
    have run : C (kd ++ []) H' := run
    rw [List.append_nil] at run
    obtain ⟨nk2, _⟩ := I.pin (kS, seqObj "list" ka e) (List.mem_append_right _ List.mem_cons_self)
    try dsimp only at nk2 ⊢
    refine wpAny_bind (listItems_at nk2 rfl ?_)
    exact fin s' H' kd ka e I rk (by omega) run
/-- fewer than two: no comparison -/
theorem sk_short {us : List V} {vs : List Value} {kd : List V} {ka : Array Value} {e : Nat} {H' : Hp} {s' : Shared} (rv : Vals us vs) (hZ : vs.length ≤ sizeLine) (oa : Own X pins a) (ok : Own X pins kS) (hka : kS ≠ a) (h2 : vs.length < 2)
    (I : Inv X ((kS, seqObj "list" ka e) :: (a, seqObj "list" #[] e1) :: pins) σ H' s') (rk : Vals kd ka.toList) (hkd : kd.length = us.length)
    (h : ∀ h' tk, Inv X pins σ (upd H' a (.lst us)) { s' with heap := h', toks := tk } → P (.done (.ret .none)) { s' with heap := h', toks := tk }) : wpAny (model X.prog X.w) A2 (ksk_end a false vs.toArray e1 (.ref kS) ka) P E s' := by
  obtain ⟨nk, hk, _⟩ := I.pin (kS, seqObj "list" ka e) (List.mem_append_right _ List.mem_cons_self)
  obtain ⟨na, ha, _⟩ := I.pin (a, seqObj "list" #[] e1) (List.mem_append_right _ (List.mem_cons_of_mem _ List.mem_cons_self))
  try dsimp only at nk hk na ha
  obtain ⟨G, g1, g2⟩ := restrict s'.heap fun b => !decide (b = kS)
  have kp : KeepsBut a G s'.heap := fun b o _ q => by
    by_cases z : b = kS
    · rw [g2 b (by simp [z])] at q; cases q
    · rw [← g1 b (by simp [z])]; exact q
  have hl := rv.length
  have hks : ka.size = vs.length := by
    have h1 : kd.length = ka.toList.length := rk.length
    have h2 : ka.toList.length = ka.size := Array.length_toList
    omega
  unfold ksk_end
  try dsimp only
  simp only [Bool.false_eq_true, if_false]
  rw [if_pos (show vs.toArray.size < 2 by rw [List.size_toArray]; exact h2), if_pos (show vs.toArray.size < 2 by rw [List.size_toArray]; exact h2)]
  refine wpAny_bind (wpAny_pure ?_)
  rw [StateT.run_pure]
  refine wpAny_bind (wpAny_pure ?_)
  try dsimp only
  refine keyH_tail (b := false) (st := SortSt.mk' general' (ka.zip vs.toArray) #[] 7 none) (out := vs) kp (g2 kS (by simp)) nk na hka (by rw [hks]; exact hZ) hZ rfl ?_ fun h' tk c k2 n2 => h h' tk ?_
  · simp only [Bool.false_eq_true, if_false]
    show ((ka.zip vs.toArray).map (·.2)) = vs.toArray
    apply Array.ext'
    simp only [Array.toList_map, Array.toList_zip, List.toList_toArray]
    exact List.map_snd_zip (by have h2 : ka.toList.length = ka.size := Array.length_toList; simp; omega)
  · refine I.unpin2.turnedOwn (ch := [a, kS]) (fun b o hb q => k2 b o (fun z => hb (by simp [z])) ?_) (fun b hb => ?_) (by simp) ⟨by rw [hl]; exact hZ, vs, c, rv, n2⟩
    · rw [g1 b (by simpa using fun z => hb (by simp [z]))]; exact q
    · rcases List.mem_cons.mp hb with rfl | hb
      · exact oa.fp ha
      · rw [List.mem_singleton.mp hb]; exact ok.fp hk
theorem vals_each {bs : List (V × PyData)} {out : List Value} (h : EachIs (fun (v : Value) (b : V × PyData) => RelV b.1 v) out bs) : Vals (bs.map Prod.fst) out := by
  induction h with
  | nil => exact .nil
  | cons h1 _ ih => exact .cons h1 ih
theorem each_vals {us : List V} {vs : List Value} {ds : List PyData} (h : Vals us vs) (hl : us.length = ds.length) : EachIs (fun (v : Value) (b : V × PyData) => RelV b.1 v) vs (us.zip ds) := by
  induction h generalizing ds with
  | nil => exact .nil
  | cons h1 _ ih =>
    cases ds with
    | nil => cases hl
    | cons d ds => exact .cons h1 (ih (Nat.succ.inj hl))
def skOut (us : List V) (ds : List PyData) : List V := ((us.zip ds).mergeSort (dataLe false Prod.snd)).map Prod.fst
/-- two or more: the keys are compared -/
theorem sk_long {us : List V} {vs : List Value} {kd : List V} {ds : List PyData} {ka : Array Value} {e : Nat} {H' : Hp} {s' : Shared} (rv : Vals us vs) (hZ : vs.length ≤ sizeLine) (oa : Own X pins a) (ok : Own X pins kS) (hka : kS ≠ a)
    (I : Inv X ((kS, seqObj "list" ka e) :: (a, seqObj "list" #[] e1) :: pins) σ H' s') (rk : Vals kd ka.toList) (hkd : kd.length = us.length) (hd : DpAll X.K H' kd ds) (hdl : ds.length = us.length) (hal : AllAlike ds) (hsk : Sortable ds) (hu : ∀ d, d ∈ ds → A2.units + d.depth < cLine)
    (h : ∀ h' tk, Inv X pins σ (upd H' a (.lst (skOut us ds))) { s' with heap := h', toks := tk } → P (.done (.ret .none)) { s' with heap := h', toks := tk }) : wpAny (model X.prog X.w) A2 (ksk_end a false vs.toArray e1 (.ref kS) ka) P E s' := by
  obtain ⟨nk, hk, _⟩ := I.pin (kS, seqObj "list" ka e) (List.mem_append_right _ List.mem_cons_self)
  obtain ⟨na, ha, _⟩ := I.pin (a, seqObj "list" #[] e1) (List.mem_append_right _ (List.mem_cons_of_mem _ List.mem_cons_self))
  try dsimp only at nk hk na ha
  obtain ⟨G, g1, g2⟩ := restrict s'.heap fun b => !decide (b = kS)
  have kp : KeepsBut a G s'.heap := fun b o _ q => by
    by_cases z : b = kS
    · rw [g2 b (by simp [z])] at q; cases q
    · rw [← g1 b (by simp [z])]; exact q
  have hl := rv.length
  have hks : ka.size = vs.length := by
    have h1 : kd.length = ka.toList.length := rk.length
    have h2 : ka.toList.length = ka.size := Array.length_toList
    omega
  obtain ⟨as, hr⟩ := Dp.readsAll I ds kd ka.toList hd rk
  have hk' : EachIs (fun v d => ∃ as, Reads s'.heap v d as) ka.toList ds := PySem.W.readsAll_each id (by rw [List.map_id]; exact hr)
  refine keyH_end (κ := dataKind s'.heap ds) kp (g2 kS (by simp)) nk na hka (SortsAt.data hk' hal hsk hu) hks hZ fun h' tk c k2 n2 => h h' tk ?_
  have ez : (us.zip ds).map Prod.snd = ds := List.map_snd_zip (by omega)
  have ko : KeyedOut false ((us.zip ds).map Prod.snd) vs (sortVals (dataKind s'.heap ds) false ka.toList vs) := by
    rw [ez]
    exact ⟨s'.heap, ka.toList, hal, rfl, hk'⟩
  have eo := vals_each (PySem.W.keyedOut_each Prod.snd ko (each_vals rv hdl.symm))
  have hlen : (skOut us ds).length ≤ sizeLine := by
    unfold skOut
    rw [List.length_map, List.length_mergeSort, List.length_zip, hdl, Nat.min_self, hl]
    exact hZ
  refine I.unpin2.turnedOwn (ch := [a, kS]) (fun b o hb q => k2 b o (fun z => hb (by simp [z])) ?_) (fun b hb => ?_) (by simp) ⟨hlen, _, c, eo, n2⟩
  · rw [g1 b (by simpa using fun z => hb (by simp [z]))]; exact q
  · rcases List.mem_cons.mp hb with rfl | hb
    · exact oa.fp ha
    · rw [List.mem_singleton.mp hb]; exact ok.fp hk
/-- the keys may be compared -/
def SkOk (K : PySem.W.Frag) (H : Hp) (us kd : List V) (ds : List PyData) (u : Nat) : Prop :=
  kd.length = us.length → DpAll K H kd ds ∧ ds.length = us.length ∧ (us.length < 2 ∨ (AllAlike ds ∧ Sortable ds ∧ ∀ d, d ∈ ds → u + d.depth < cLine))
end
end L2
/-! A small language over HandS: sorted(xs, key=f), 2: the whole call. -/
namespace L2
open PySem PySem.Spec PyProof.Rows PySem.Calls
open PySem.W (KeepsBut AllAlike Sortable dataLe sorted_of_sort copyHeap copyHeap_at copyHeap_old KdlSrc)
section
variable {X : Cx} {pins : List (Addr × Obj)} {σ : St} {H : Hp} {s : Shared} {A2 : Around} {E : Value → Shared → Prop} {P : PySem.Fin → Shared → Prop} {sp : List V → Hp → VK → Prop} {f : Value} {a kS : Addr} {e1 : Nat}
theorem skOut_short {us : List V} {ds : List PyData} (hl : ds.length = us.length) (h : us.length < 2) : skOut us ds = us := by
  unfold skOut
  match us, ds, hl, h with
  | [], [], _, _ => simp
  | [u], [d], _, _ => simp
  | _ :: _ :: _, _, _, h => exact absurd h (by simp)
/-- behind all the keys -/
def SkEnd (K : PySem.W.Frag) (us : List V) (D : List V → Hp → Prop) (kd : List V) (H' : Hp) : Prop :=
  ∃ ds, DpAll K H' kd ds ∧ ds.length = us.length ∧ (us.length < 2 ∨ (AllAlike ds ∧ Sortable ds ∧ ∀ d, d ∈ ds → d.depth ≤ 64)) ∧ D (skOut us ds) H'
theorem sk_tree (hc : SkCall X A2 f sp) {us : List V} {vs : List Value} {D : List V → Hp → Prop} {n : Nat} (I : Inv X pins σ H s) (ho : s.heap.get? a = some (seqObj "list" vs.toArray n)) (na : H a = none) (oa : Own X pins a) (rv : Vals us vs) (hZ : vs.length ≤ sizeLine)
    (run : SkRun sp us H (SkEnd X.K us D)) (hu : A2.units + 64 < cLine) (fin : ∀ out H' s'', Inv X pins σ (upd H' a (.lst out)) s'' → H' a = none → D out H' → P (.done (.ret .none)) s'') :
    wpAny (model X.prog X.w) A2 (ksk_tree a f false) P E s := by
  have ha : a < s.heap.objs.size := Heap.lt_size ho
  obtain ⟨e1, ho1⟩ : ∃ e1, (s.heap.update a (Obj.mapSeq fun _ => (#[] : Array Value))).get? a = some (seqObj "list" #[] e1) := ⟨_, get?_update_seq ho fun _ => #[]⟩
  have s1 := Heap.SameBut.update s.heap a (Obj.mapSeq fun _ => (#[] : Array Value))
  have I1 : Inv X pins σ H { s with heap := s.heap.update a (Obj.mapSeq fun _ => (#[] : Array Value)), toks := s.toks } := I.turnedL (ch := [a]) (fun b o hb q => (s1.2 b (fun z => hb (by simp [z]))).trans q) fun b hb => by
    rw [List.mem_singleton.mp hb]
    exact oa.fp na
  have I2 : Inv X pins σ H { s with heap := (s.heap.update a (Obj.mapSeq fun _ => (#[] : Array Value))).push (seqObj "tuple" vs.toArray 0), toks := s.toks } := I1.kept fun b o q => Heap.get?_push_of_some _ q
  have ok : Own X pins ((s.heap.update a (Obj.mapSeq fun _ => (#[] : Array Value))).push (seqObj "tuple" vs.toArray 0)).objs.size := Own.of (H' := H) I2 (Nat.le_refl _)
  have nk : H ((s.heap.update a (Obj.mapSeq fun _ => (#[] : Array Value))).push (seqObj "tuple" vs.toArray 0)).objs.size = none := I2.hok.fresh (Nat.le_refl _)
  have hka : ((s.heap.update a (Obj.mapSeq fun _ => (#[] : Array Value))).push (seqObj "tuple" vs.toArray 0)).objs.size ≠ a := by
    rw [size_push', Heap.size_update]
    exact Nat.ne_of_gt (Nat.lt_succ_of_lt ha)
  have I3 : Inv X pins σ H { s with heap := ((s.heap.update a (Obj.mapSeq fun _ => (#[] : Array Value))).push (seqObj "tuple" vs.toArray 0)).push (seqObj "list" #[] 0), toks := s.toks } := I2.kept fun b o q => Heap.get?_push_of_some _ q
  have I4 := oa.pin2 ok I3 (Heap.get?_push_of_some _ (Heap.get?_push_of_some _ ho1)) (Heap.get?_push_size _ rfl) na nk seq_nc seq_nc
  unfold ksk_tree
  refine wpAny_bind (listItems_at ho rfl ?_)
  refine wpAny_bind (listUpdate_at ho rfl ?_ (by rw [List.size_toArray]; exact hZ) (Nat.zero_le _))
  refine wpAny_bind (seqEpoch_at ho1 rfl ?_)
  refine wpAny_bind (wpAny_newTuple ?_ (by show vs.length ≤ _; exact hZ))
  refine wpAny_bind (wpAny_newList ?_ (Nat.zero_le _))
  refine wpAny_holding ?_
  refine sk_rest (e1 := e1) hc rv hZ oa ok hka ⟨H, [], #[], 0, I4, .nil, rfl, by rw [List.drop_zero]; exact run⟩ fun s' H' kd ka e I' rk hkd he => ?_
  obtain ⟨ds, h1, h2, h3, h4⟩ := he
  have na' : H' a = none := (I'.pin (a, seqObj "list" #[] e1) (List.mem_append_right _ (List.mem_cons_of_mem _ List.mem_cons_self))).2.1
  by_cases hl : us.length < 2
  · refine sk_short rv hZ oa ok hka (by rw [← rv.length]; exact hl) I' rk hkd fun h' tk J => ?_
    rw [skOut_short h2 hl] at h4
    exact fin us H' _ J na' h4
  · obtain ⟨k1, k2, k3⟩ := h3.resolve_left hl
    exact sk_long rv hZ oa ok hka I' rk hkd h1 h2 k1 k2 (fun d hd => Nat.lt_of_le_of_lt (Nat.add_le_add_left (k3 d hd) _) hu) fun h' tk J => fin _ H' _ J na' h4
/-- sorted(xs, key=f), xs a list -/
theorem sk_list {q : Addr} {Q : VK} (hc : SkCall X X.A.in1.in1 (.ref q) sp) {us : List V} {l : Addr} {D : List V → Hp → Prop} (I : Inv X pins σ H s) (hs : SqL X.K H l us) (run : SkRun sp us H (SkEnd X.K us D)) (hu : X.A.in1.in1.units + 64 < cLine)
    (fin : ∀ out H' p, H' p = none → D out H' → Q (.ref p) (upd H' p (.lst out))) :
    wpAny (model X.prog X.w) X.A (call (.builtin "sorted") [.ref l] [(Str.ofString "key", .ref q)]) (EP X pins σ Q) X.xe s := by
  obtain ⟨its, rv, hl, hz⟩ := I.list hs
  have hz : its.length ≤ sizeLine := by rw [← rv.length]; exact hz
  refine sorted_of_sort hl.isList hz (ksk_s1 _ _) (fun _ => ksk_l1 _ _) fun E' => ?_
  rw [ksk_t1]
  have I1 : Inv X pins σ H { s with heap := copyHeap s.heap its, toks := s.toks } := I.kept fun b o e => copyHeap_old e
  exact sk_tree (s := { s with heap := copyHeap s.heap its }) hc I1 (copyHeap_at s.heap its) (I.hok.fresh (Nat.le_succ _)) (Own.of (H' := H) I (Nat.le_succ _)) rv hz run hu fun out H' s'' J na d => ⟨rfl, .ref (s.heap.objs.size + 1), _, J, rfl, fin out H' _ na d⟩
theorem kdl_raw {prog : Program} {w : World} {d : Addr} {es : Array DictEntry} {ep : Nat} (lo : (d == sysModules) = false) : KdlSrc prog w "dict" d d es.size (fun i v => ∃ hi : i < es.size, v = es[i].key) (fun h => h.DictRaw d es ep) where
  type := fun _ hm => hm.typeIs
  there := fun _ hm => let ⟨_, ho, _⟩ := hm; ⟨Heap.lt_size ho, Heap.lt_size ho⟩
  keep := fun _ _ hm hk => hm.at fun o e => hk d (.inl rfl) o e
  notList := by decide
  notTuple := by decide
  hint := fun _ _ _ _ hm hq => PySem.W.kdl_hint_dict hm.typeIs hq
  iter := fun _ s hh hm => ⟨_, _, (fun _ _ hq => wpAny_pyIter_dict_raw lo hm hq), Walks.rawKeys hh _ d (let ⟨_, ho, _⟩ := hm; Nat.ne_of_lt (Heap.lt_size ho)) es ep, ⟨⟨_, Heap.get?_push_size _ rfl, rfl, rfl⟩, hm.at fun o e => Heap.get?_push_of_some _ e⟩⟩
end
end L2
/-! A small language over HandS: dicts by values (keys flat, or tuples of any depth). -/
namespace Mq
open PySem L2 Evl PyProof.Rows
open SX (S S_len S_cat S_inj)
/-! ### lists as tables -/
/-- the place of a key -/
def ixk : List D → D → Option Nat
  | [], _ => none
  | k :: r, d => if k.keq d then some 0 else (ixk r d).map (· + 1)
def putV {α : Type} (ks : List D) (d : D) (vs : List α) (v : α) : List α := match ixk ks d with
  | some i => vs.set i v
  | none => vs ++ [v]
def putKs (ks : List D) (d : D) : List D := match ixk ks d with
  | some _ => ks
  | none => ks ++ [d]
def putR {α : Type} (ks : List D) (d : D) (kr : List α) (y : α) : List α := match ixk ks d with
  | some _ => kr
  | none => kr ++ [y]
/-- keys of one kind -/
def dkOk (ks : List D) (d : D) : Bool := (isF d && ks.all isF) || (isT d && ks.all isT)
theorem ixk_lt : ∀ {ks : List D} {d : D} {i : Nat}, ixk ks d = some i → i < ks.length
  | [], _, _, h => by cases h
  | k :: r, d, i, h => by
    unfold ixk at h
    split at h
    · cases h; exact Nat.succ_pos _
    · obtain ⟨j, hj, e⟩ := Option.map_eq_some_iff.mp h
      subst e
      exact Nat.succ_lt_succ (ixk_lt hj)
theorem isF_T {d : D} (h1 : isF d = true) (h2 : isT d = true) : False := by
  cases d <;> first | (cases h1; done) | (cases h2; done)
theorem valV_ixk : ∀ {ks : List D} {kv : List (Key × V)} {d : D} {k : Key}, ks.map kyF = kv.map (fun q => some q.1) → kyF d = some k → valV kv k = (ixk ks d).bind fun i => (kv.map (·.2))[i]?
  | [], [], _, _, _, _ => rfl
  | [], _ :: _, _, _, h, _ => by cases h
  | _ :: _, [], _, _, h, _ => by cases h
  | x :: ks, q :: kv, d, k, h, hd => by
    rw [List.map_cons, List.map_cons] at h
    injection h with h1 h2
    have e := keq_F h1 hd
    unfold ixk
    by_cases z : q.1 = k
    · rw [valV_pos z, e, decide_eq_true z, if_pos rfl]
      rfl
    · rw [valV_neg z, e, decide_eq_false z, if_neg Bool.false_ne_true, valV_ixk h2 hd]
      cases ixk ks d <;> rfl
theorem putK_ixk : ∀ {ks : List D} {kv : List (Key × V)} {d : D} {k : Key} {v : V}, (kv.map (·.1)).Nodup → ks.map kyF = kv.map (fun q => some q.1) → kyF d = some k →
    (putK kv k v).map (·.2) = putV ks d (kv.map (·.2)) v ∧ (putK kv k v).map (fun q => some q.1) = (putKs ks d).map kyF ∧ (putK kv k v).map (fun q => kV q.1) = putR ks d (kv.map (fun q => kV q.1)) (kV k)
  | ks, kv, d, k, v, hn, h, hd => by
    unfold putK putV putKs putR
    have e := valV_ixk h hd
    rw [valV_any]
    cases q : ixk ks d with
    | none =>
      rw [q, Option.bind_none] at e
      rw [e]
      simp only [Option.isSome_none, Bool.false_eq_true, if_false, List.map_append, List.map_cons, List.map_nil, h, hd, and_self]
    | some i =>
      have hi := ixk_lt q
      have hl : ks.length = kv.length := by simpa using congrArg List.length h
      rw [q, Option.bind_some, List.getElem?_map, List.getElem?_eq_getElem (by omega)] at e
      rw [e]
      simp only [Option.map_some, Option.isSome_some, if_true]
      have key : ∀ {ks : List D} {kv : List (Key × V)} {i : Nat}, (kv.map (·.1)).Nodup → ks.map kyF = kv.map (fun q => some q.1) → ixk ks d = some i → (kv.map fun q => if q.1 = k then (q.1, v) else q).map (·.2) = (kv.map (·.2)).set i v ∧ (kv.map fun q => if q.1 = k then (q.1, v) else q).map (·.1) = kv.map (·.1) := by
        intro ks
        induction ks with
        | nil => intro kv i _ _ q; cases q
        | cons x ks ih =>
          intro kv i hn h q
          cases kv with
          | nil => cases h
          | cons p kv =>
            rw [List.map_cons, List.map_cons] at h
            injection h with h1 h2
            rw [List.map_cons, List.nodup_cons] at hn
            have e := keq_F h1 hd
            unfold ixk at q
            by_cases z : p.1 = k
            · rw [e, decide_eq_true z, if_pos rfl] at q
              cases q
              have rest : (kv.map fun q => if q.1 = k then (q.1, v) else q) = kv := by
                conv => rhs; rw [← List.map_id kv]
                refine List.map_congr_left fun y hy => ?_
                have : ¬ y.1 = k := fun w => hn.1 (by rw [z, ← w]; exact List.mem_map.mpr ⟨y, hy, rfl⟩)
                rw [if_neg this]; rfl
              rw [List.map_cons, rest, if_pos z]
              exact ⟨rfl, rfl⟩
            · rw [e, decide_eq_false z, if_neg Bool.false_ne_true] at q
              obtain ⟨j, hj, e2⟩ := Option.map_eq_some_iff.mp q
              subst e2
              obtain ⟨a, b⟩ := ih hn.2 h2 hj
              rw [List.map_cons, if_neg z]
              exact ⟨by rw [List.map_cons, a]; rfl, by rw [List.map_cons, b]; rfl⟩
      obtain ⟨a, b⟩ := key hn h q
      refine ⟨a, ?_, ?_⟩
      · have := congrArg (List.map some) b
        simp only [List.map_map, Function.comp_def] at this ⊢
        rw [this, h]
      · have := congrArg (List.map kV) b
        simpa [List.map_map, Function.comp_def] using this
theorem atKey_ixk : ∀ {ks : List D} {xs : List (NestedKey × Addr × Value)} {d : D} {k : NestedKey}, ks.map nk = xs.map (fun q => some q.1) → nk d = some k → (atKey xs k).map (·.2) = (ixk ks d).bind fun i => (xs.map (·.2.2))[i]?
  | [], [], _, _, _, _ => rfl
  | [], _ :: _, _, _, h, _ => by cases h
  | _ :: _, [], _, _, h, _ => by cases h
  | x :: ks, q :: xs, d, k, h, hd => by
    rw [List.map_cons, List.map_cons] at h
    injection h with h1 h2
    have e := keq_nk _ _ _ _ h1 hd
    unfold ixk
    by_cases z : q.1 = k
    · rw [e, decide_eq_true z, if_pos rfl]
      simp [atKey, List.find?_cons, z]
    · rw [e, decide_eq_false z, if_neg Bool.false_ne_true]
      have : atKey (q :: xs) k = atKey xs k := by simp [atKey, List.find?_cons, z]
      rw [this, atKey_ixk h2 hd]
      cases ixk ks d <;> rfl
theorem stored_ixk : ∀ {ks : List D} {xs : List (NestedKey × Addr × Value)} {d : D} {k : NestedKey} {a : Addr} {v : Value}, (xs.map (·.1)).Nodup → ks.map nk = xs.map (fun q => some q.1) → nk d = some k →
    (storedH xs k a v).map (·.2.2) = putV ks d (xs.map (·.2.2)) v ∧ (storedH xs k a v).map (fun q => some q.1) = (putKs ks d).map nk ∧ (storedH xs k a v).map (fun q => V.ref q.2.1) = putR ks d (xs.map (fun q => V.ref q.2.1)) (V.ref a)
  | ks, xs, d, k, a, v, hn, h, hd => by
    unfold storedH putV putKs putR
    have e := atKey_ixk h hd
    cases q : ixk ks d with
    | none =>
      rw [q, Option.bind_none] at e
      rw [Option.map_eq_none_iff.mp e]
      simp only [Option.isSome_none, Bool.false_eq_true, if_false, List.map_append, List.map_cons, List.map_nil, h, hd, and_self]
    | some i =>
      have hi := ixk_lt q
      have hl : ks.length = xs.length := by simpa using congrArg List.length h
      rw [q, Option.bind_some, List.getElem?_map, List.getElem?_eq_getElem (by omega)] at e
      obtain ⟨p, hp, _⟩ := Option.map_eq_some_iff.mp e
      rw [hp]
      simp only [Option.isSome_some, if_true]
      have key : ∀ {ks : List D} {xs : List (NestedKey × Addr × Value)} {i : Nat}, (xs.map (·.1)).Nodup → ks.map nk = xs.map (fun q => some q.1) → ixk ks d = some i → (xs.map (putAt k v)).map (·.2.2) = (xs.map (·.2.2)).set i v ∧ (xs.map (putAt k v)).map (fun q => (q.1, q.2.1)) = xs.map (fun q => (q.1, q.2.1)) := by
        intro ks
        induction ks with
        | nil => intro xs i _ _ q; cases q
        | cons x ks ih =>
          intro xs i hn h q
          cases xs with
          | nil => cases h
          | cons p xs =>
            rw [List.map_cons, List.map_cons] at h
            injection h with h1 h2
            rw [List.map_cons, List.nodup_cons] at hn
            have e := keq_nk _ _ _ _ h1 hd
            unfold ixk at q
            by_cases z : p.1 = k
            · rw [e, decide_eq_true z, if_pos rfl] at q
              cases q
              have rest : (xs.map (putAt k v)) = xs := by
                conv => rhs; rw [← List.map_id xs]
                refine List.map_congr_left fun y hy => ?_
                have : ¬ y.1 = k := fun w => hn.1 (by rw [z, ← w]; exact List.mem_map.mpr ⟨y, hy, rfl⟩)
                unfold putAt
                rw [if_neg this]; rfl
              rw [List.map_cons, rest]
              unfold putAt
              rw [if_pos z]
              exact ⟨rfl, rfl⟩
            · rw [e, decide_eq_false z, if_neg Bool.false_ne_true] at q
              obtain ⟨j, hj, e2⟩ := Option.map_eq_some_iff.mp q
              subst e2
              obtain ⟨a1, b1⟩ := ih hn.2 h2 hj
              have hp : putAt k v p = p := by unfold putAt; rw [if_neg z]
              rw [List.map_cons, hp]
              exact ⟨by rw [List.map_cons, a1]; rfl, by rw [List.map_cons, b1]; rfl⟩
      obtain ⟨a1, b1⟩ := key hn h q
      refine ⟨a1, ?_, ?_⟩
      · have := congrArg (List.map fun p => some p.1) b1
        simp only [List.map_map, Function.comp_def] at this
        rw [List.map_map, Function.comp_def, this, h]
      · have := congrArg (List.map fun p => V.ref p.2) b1
        simp only [List.map_map, Function.comp_def] at this
        rw [List.map_map, Function.comp_def, this]
theorem vals_ix {vs : List V} {us : List Value} (h : Vals vs us) : ∀ i : Nat, RelO vs[i]? us[i]? := fun i => by
  cases q : vs[i]? with
  | none => rw [Vals.none_of h q]; exact True.intro
  | some v =>
    have hl := h.length
    have hi : i < us.length := by have := (List.getElem?_eq_some_iff.mp q).1; omega
    rw [List.getElem?_eq_getElem hi]
    have key : ∀ {vs : List V} {us : List Value} (_ : Vals vs us) (i : Nat) (v : V) (u : Value), vs[i]? = some v → us[i]? = some u → RelV v u := by
      intro vs us h
      induction h with
      | nil => intro i v u e _; simp at e
      | cons r t ih =>
        intro i v u e1 e2
        cases i with
        | zero => cases e1; cases e2; exact r
        | succ i => exact ih i v u e1 e2
    exact key h i v _ q (List.getElem?_eq_getElem hi)
theorem vals_set {vs : List V} {us : List Value} (h : Vals vs us) {v : V} {u : Value} (r : RelV v u) : ∀ i : Nat, Vals (vs.set i v) (us.set i u) := by
  induction h with
  | nil => intro i; exact .nil
  | cons q t ih =>
    intro i
    cases i with
    | zero => exact .cons r t
    | succ i => exact .cons q (ih i)
theorem vals_put {ks : List D} {d : D} {vs : List V} {us : List Value} (h : Vals vs us) {v : V} {u : Value} (r : RelV v u) : Vals (putV ks d vs v) (putV ks d us u) := by
  unfold putV
  cases ixk ks d with
  | none => exact h.append (.cons r .nil)
  | some i => exact vals_set h r i
/-! ### the machine's rules -/
structure KX (K : Kx) (X : Cx) : Prop where
  k : K.K = X.K
  p : K.P = X.prog
  w : K.w = X.w
section
variable {X : Cx} {K : Kx} {pins : List (Addr × Obj)} {σ : L2.St} {H : Hp} {s : Shared}
mutual
theorem nested_of (kx : KX K X) (I : Inv X pins σ H s) : ∀ (d : D) (v : V) (u : Value) (k : NestedKey), Rp K H d v → RelV v u → nk d = some k → NestedIs s.heap k u
  | .non, v, u, k, h, r, e => by cases h; cases e; cases (show u = Value.none from r); exact .none
  | .bl b, v, u, k, h, r, e => by cases h; cases e; cases (show u = Value.bool b from r); exact .bool rfl
  | .int i, v, u, k, h, r, e => by cases h; cases e; obtain ⟨t, rfl⟩ := (show ∃ t, u = Value.int i t from r); exact .int i t
  | .str l, v, u, k, h, r, e => by cases h; cases e; obtain ⟨t, rfl⟩ := (show ∃ t, u = Value.str (S l) t from r); exact .text _ t
  | .tup ds, v, u, k, h, r, e => by
    obtain ⟨p, vs, rfl, h1, h2⟩ := h
    have e : (nks ds).map NestedKey.tup = some k := e
    cases q : nks ds with
    | none => rw [q] at e; cases e
    | some ks =>
      rw [q] at e
      cases e
      cases r
      obtain ⟨its, rv, ⟨o, ho, hc, n, hd⟩, _⟩ := I.tuple (by rw [← kx.k]; exact h1.sq)
      exact .tup ho hc hd (by simpa using nesteds_of kx I ds vs its ks h2 rv q)
  | .ty _, _, _, _, _, _, e => by cases e
  | .fn _, _, _, _, _, _, e => by cases e
  | .lst _, _, _, _, _, _, e => by cases e
  | .fls _, _, _, _, _, _, e => by cases e
  | .dct _ _, _, _, _, _, _, e => by cases e
theorem nesteds_of (kx : KX K X) (I : Inv X pins σ H s) : ∀ (ds : List D) (vs : List V) (us : List Value) (ks : List NestedKey), Rps K H ds vs → Vals vs us → nks ds = some ks → NestedAll s.heap ks us
  | [], vs, us, ks, h, r, e => by cases h; cases e; cases r; exact .nil
  | d :: ds, vs, us, ks, h, r, e => by
    obtain ⟨v, ws, rfl, h1, h2⟩ := h
    cases r with
    | cons r1 r2 =>
      unfold nks at e
      split at e
      · rename_i x xs e1 e2
        cases e
        exact .cons (nested_of kx I d v _ x h1 r1 e1) (nesteds_of kx I ds ws _ xs h2 r2 e2)
      · cases e
end
theorem key_is (kx : KX K X) (I : Inv X pins σ H s) {d : D} {v : V} {u : Value} (ht : isT d = true) (h : Rp K H d v) (r : RelV v u) : ∃ k a, nk d = some k ∧ v = .ref a ∧ u = .ref a ∧ (nestedKind X.prog X.w).is s.heap k a := by
  obtain ⟨k, ds, rfl, e, hd⟩ := isT_nk ht
  have n := nested_of kx I _ _ _ k h r e
  obtain ⟨p, vs, rfl, h1, h2⟩ := h
  cases r
  exact ⟨k, p, e, rfl, rfl, n, hd⟩
/-- flat keys -/
theorem dictF {p : Addr} {ks : List D} {kr vs : List V} (h : DcAt K H p ks kr vs) (hF : ks.all isF = true) : ∃ kv : List (Key × V), H p = some (.dK kv) ∧ ks.map kyF = kv.map (fun q => some q.1) ∧ kr = kv.map (fun q => kV q.1) ∧ vs = kv.map (·.2) := by
  rcases h with h | ⟨h0, xs, _, _, hT, _⟩
  · exact h
  · cases ks with
    | nil => exact absurd rfl h0
    | cons d ds =>
      rw [List.all_cons, Bool.and_eq_true] at hF
      exact (isF_T hF.1 (hT d List.mem_cons_self)).elim
/-- flat keys, to be read -/
theorem dictV {p : Addr} {ks : List D} {kr vs : List V} (h : DcV K H p ks kr vs) (hF : ks.all isF = true) : ∃ kv : List (Key × V), Rd H p (.dK kv) ∧ ks.map kyF = kv.map (fun q => some q.1) ∧ kr = kv.map (fun q => kV q.1) ∧ vs = kv.map (·.2) := by
  rcases h.cs with h | ⟨h0, xs, _, _, hT, _⟩
  · exact h
  · cases ks with
    | nil => exact absurd rfl h0
    | cons d ds =>
      rw [List.all_cons, Bool.and_eq_true] at hF
      exact (isF_T hF.1 (hT d List.mem_cons_self)).elim
theorem dk_nodupR {p : Addr} {kv : List (Key × V)} (I : Inv X pins σ H s) (h : Rd H p (.dK kv)) : (kv.map (·.1)).Nodup ∧ kv.length ≤ sizeLine := by
  obtain ⟨z, _, us, rel, o, es, ep, _, _, _, _, _, hn⟩ := (show ObjOk X.prog X.w H s.heap p (.dK kv) from h.ok I.hok)
  exact ⟨by rw [rel.keys]; exact hn, z⟩
theorem DGet_r {H : Hp} {a : Addr} {kvs : List (Key × V)} {k : Key} (e : Rd H a (.dK kvs)) : DGet H a (kV k) (valV kvs k) := .inl ⟨kvs, k, e, rfl, rfl⟩
theorem dk_nodup {p : Addr} {kv : List (Key × V)} (I : Inv X pins σ H s) (h : H p = some (.dK kv)) : (kv.map (·.1)).Nodup ∧ kv.length ≤ sizeLine := by
  obtain ⟨z, _, us, rel, o, es, ep, _, _, _, _, _, hn⟩ := (show ObjOk X.prog X.w H s.heap p (.dK kv) from I.hok p _ h)
  exact ⟨by rw [rel.keys]; exact hn, z⟩
/-- keys that are tuples -/
theorem dictT (kx : KX K X) (I : Inv X pins σ H s) {p : Addr} {ks : List D} {kr vs : List V} (h : DcV K H p ks kr vs) (hk : Rps K H ks kr) (hT : ks.all isT = true) :
    ∃ xs : List (NestedKey × Addr × Value), s.heap.DictOfH (nestedKind X.prog X.w) p xs ∧ ks.map nk = xs.map (fun q => some q.1) ∧ kr = xs.map (fun q => V.ref q.2.1) ∧ Vals vs (xs.map (·.2.2)) ∧ xs.length ≤ sizeLine ∧ (p == sysModules) = false ∧ ∀ q ∈ xs, q.1.depth ≤ 8 := by
  rcases h.cs with ⟨kv, h1, h2, h3, h4⟩ | ⟨h0, xs, h1, h2, _, h3, h4, h5⟩
  · have e : kv = [] := by
      cases ks with
      | nil => cases kv with
        | nil => rfl
        | cons _ _ => cases h2
      | cons d ds =>
        cases kv with
        | nil => cases h2
        | cons q kv =>
          injection h2 with h2 _
          rw [List.all_cons, Bool.and_eq_true] at hT
          obtain ⟨k, dd, e1, _⟩ := isT_nk hT.1
          subst e1
          cases h2
    subst e
    have e2 : ks = [] := by cases ks with
      | nil => rfl
      | cons _ _ => cases h2
    subst e2
    obtain ⟨z, hm, us, rel, o, es, ep, ho, hx, hd, _, hp, _⟩ := (show ObjOk X.prog X.w H s.heap p (.dK []) from h1.ok I.hok)
    cases rel
    refine ⟨[], ⟨o, es, ep, ho, hx, hd, ?_, (fun _ z => nomatch z), List.nodup_nil⟩, rfl, h3, by rw [h4]; exact .nil, Nat.zero_le _, hm, fun _ z => nomatch z⟩
    cases q : es.toList with
    | nil => rfl
    | cons _ _ => rw [q] at hp; cases hp
  · obtain ⟨⟨hm, hz, o, es, ep, ho, hx, hd, he, hn⟩, _⟩ := (show ObjOk X.prog X.w H s.heap p (dxO K p xs) from I.hok p _ h1)
    refine ⟨xs, ⟨o, es, ep, ho, hx, hd, by rw [← kx.p, ← kx.w]; exact he, ?_, hn⟩, h2, h3, h4, hz, hm, h5⟩
    intro q hq
    obtain ⟨i, hi⟩ := List.getElem?_of_mem hq
    have e1 : kr[i]? = some (V.ref q.2.1) := by rw [h3, List.getElem?_map, hi]; rfl
    have hi2 : i < ks.length := by
      have h6 := (List.getElem?_eq_some_iff.mp hi).1
      have h7 : ks.length = xs.length := by simpa using congrArg List.length h2
      omega
    have e2 : ks[i]? = some ks[i] := List.getElem?_eq_getElem hi2
    obtain ⟨v, e3, r3⟩ := Rps.get ks kr i _ hk e2
    rw [e1] at e3
    cases e3
    have e4 : nk ks[i] = some q.1 := by
      have := congrArg (fun l => l[i]?) h2
      simp only [List.getElem?_map, hi, e2, Option.map_some] at this
      exact Option.some.inj this
    exact ⟨nested_of kx I _ _ _ _ r3 (show RelV (V.ref q.2.1) (.ref q.2.1) from rfl) e4, h5 q hq⟩
/-- the dict x holds o at the key y -/
def DLook (K : Kx) (H : Hp) (x y : V) (o : Option V) : Prop := ∃ p ks kr vs kd, x = .ref p ∧ DcV K H p ks kr vs ∧ Rps K H ks kr ∧ Rp K H kd y ∧ dkOk ks kd = true ∧ o = (ixk ks kd).bind fun i => vs[i]?
/-- y may be put into the dict x -/
def DSto (K : Kx) (H : Hp) (x y v : V) (Q : Hp → Prop) : Prop := ∃ p ks kr vs kd, x = .ref p ∧ DcAt K H p ks kr vs ∧ Rps K H ks kr ∧ Rp K H kd y ∧ dkOk ks kd = true ∧ ks.length < sizeLine ∧
  ∀ o, DcAt K (upd H p o) p (putKs ks kd) (putR ks kd kr y) (putV ks kd vs v) → Q (upd H p o)
/-- y is put into the dict x, where it was not -/
def DStN (K : Kx) (H : Hp) (x y v : V) (Q : Hp → Prop) : Prop := ∃ p ks kr vs kd, x = .ref p ∧ DcAt K H p ks kr vs ∧ Rps K H ks kr ∧ Rp K H kd y ∧ dkOk ks kd = true ∧ ixk ks kd = none ∧ ks.length < sizeLine ∧
  ∀ o, DcAt K (upd H p o) p (putKs ks kd) (putR ks kd kr y) (putV ks kd vs v) → Q (upd H p o)
theorem dkOk_or {ks : List D} {d : D} (h : dkOk ks d = true) : (isF d = true ∧ ks.all isF = true) ∨ (isT d = true ∧ ks.all isT = true) := by
  unfold dkOk at h
  rw [Bool.or_eq_true, Bool.and_eq_true, Bool.and_eq_true] at h
  exact h
theorem flat_key {d : D} {y : V} {u : Value} (hF : isF d = true) (h : Rp K H d y) (r : RelV y u) : ∃ k, kyF d = some k ∧ y = kV k ∧ (mixKind X.prog X.w).is k u = true := by
  cases d <;> first | (cases hF; done) | skip
  · cases h; exact ⟨_, rfl, rfl, kV_is (k := .inl _) r⟩
  · cases h; exact ⟨_, rfl, rfl, kV_is (k := .inr _) r⟩
theorem relO_of {vs : List V} {us : List Value} (h : Vals vs us) {o : Option Nat} : RelO (o.bind fun i => vs[i]?) (o.bind fun i => us[i]?) := by
  cases o with
  | none => exact True.intro
  | some i => exact vals_ix h i
theorem D_getItem {Q : Value → Shared → Prop} {E : Value → Shared → Prop} {A : Around} {x y v : V} {a u : Value} (kx : KX K X) (hu : A.units + 9 < cLine) (I : Inv X pins σ H s) (rx : RelV x a) (ry : RelV y u) (g : DLook K H x y (some v)) (h : ∀ w s', Inv X pins σ H s' → RelV v w → Q w s') :
    wpAny (model X.prog X.w) A (getItem a u) Q E s := by
  obtain ⟨p, ks, kr, vs, kd, rfl, h1, h2, h3, h4, h5⟩ := g
  cases rx
  rcases dkOk_or h4 with ⟨c1, c2⟩ | ⟨c1, c2⟩
  · obtain ⟨kv, d1, d2, d3, d4⟩ := dictV h1 c2
    obtain ⟨k, f1, f2, f3⟩ := flat_key (X := X) c1 h3 ry
    have g : DGet H p y (some v) := by rw [f2, h5, d4, ← valV_ixk d2 f1]; exact DGet_r d1
    exact d_getItem (by omega) I g ry h
  · obtain ⟨xs, d1, d2, d3, d4, d5, d6, d7⟩ := dictT kx I h1 h2 c2
    obtain ⟨k, b, f1, rfl, rfl, f3⟩ := key_is kx I c1 h3 ry
    have e := atKey_ixk d2 f1
    have r := relO_of d4 (o := ixk ks kd)
    rw [← h5, ← e] at r
    obtain ⟨w', hw, rw'⟩ := RelO.some_of r
    obtain ⟨q, hq, rfl⟩ := Option.map_eq_some_iff.mp hw
    exact wpAny_getItem_heap (show A.units + 1 + 8 < cLine by omega) f3 d1 hq (h _ _ (I.tok _) rw')
theorem D_in {Q : Value → Shared → Prop} {E : Value → Shared → Prop} {A : Around} {x y : V} {o : Option V} {a u : Value} (kx : KX K X) (hu : A.units + 9 < cLine) (I : Inv X pins σ H s) (rx : RelV x a) (ry : RelV y u) (g : DLook K H x y o) (h : ∀ s', Inv X pins σ H s' → Q (.bool o.isSome) s') :
    wpAny (model X.prog X.w) A (compareOp .In u a) Q E s := by
  obtain ⟨p, ks, kr, vs, kd, rfl, h1, h2, h3, h4, h5⟩ := g
  cases rx
  rcases dkOk_or h4 with ⟨c1, c2⟩ | ⟨c1, c2⟩
  · obtain ⟨kv, d1, d2, d3, d4⟩ := dictV h1 c2
    obtain ⟨k, f1, f2, f3⟩ := flat_key (X := X) c1 h3 ry
    have g : DGet H p y o := by rw [f2, h5, d4, ← valV_ixk d2 f1]; exact DGet_r d1
    exact d_in (by omega) I g ry h
  · obtain ⟨xs, d1, d2, d3, d4, d5, d6, d7⟩ := dictT kx I h1 h2 c2
    obtain ⟨k, b, f1, rfl, rfl, f3⟩ := key_is kx I c1 h3 ry
    have e := atKey_ixk d2 f1
    have r := relO_of d4 (o := ixk ks kd)
    rw [← h5, ← e] at r
    have r2 := r.isSome_eq
    rw [Option.isSome_map] at r2
    refine wpAny_in_heap (show A.units + 1 + 8 < cLine by omega) f3 d6 d1 ?_
    rw [← r2]
    exact h _ (I.tok _)
theorem D_notIn {Q : Value → Shared → Prop} {E : Value → Shared → Prop} {A : Around} {x y : V} {o : Option V} {a u : Value} (kx : KX K X) (hu : A.units + 9 < cLine) (I : Inv X pins σ H s) (rx : RelV x a) (ry : RelV y u) (g : DLook K H x y o) (h : ∀ s', Inv X pins σ H s' → Q (.bool (!o.isSome)) s') :
    wpAny (model X.prog X.w) A (compareOp .NotIn u a) Q E s := by
  obtain ⟨p, ks, kr, vs, kd, rfl, h1, h2, h3, h4, h5⟩ := g
  cases rx
  rcases dkOk_or h4 with ⟨c1, c2⟩ | ⟨c1, c2⟩
  · obtain ⟨kv, d1, d2, d3, d4⟩ := dictV h1 c2
    obtain ⟨k, f1, f2, f3⟩ := flat_key (X := X) c1 h3 ry
    have g : DGet H p y o := by rw [f2, h5, d4, ← valV_ixk d2 f1]; exact DGet_r d1
    exact d_notIn (by omega) I g ry h
  · obtain ⟨xs, d1, d2, d3, d4, d5, d6, d7⟩ := dictT kx I h1 h2 c2
    obtain ⟨k, b, f1, rfl, rfl, f3⟩ := key_is kx I c1 h3 ry
    have e := atKey_ixk d2 f1
    have r := relO_of d4 (o := ixk ks kd)
    rw [← h5, ← e] at r
    have r2 := r.isSome_eq
    rw [Option.isSome_map] at r2
    refine notIn_keyed (show A.units + 1 + 8 < cLine by omega) f3 d6 ⟨xs, d1, rfl⟩ ?_
    rw [valueAt_pairsH, Option.isSome_map, ← r2]
    exact h _ (I.tok _)
/-- the object of a dict with keys that are tuples is laid -/
theorem dx_write (kx : KX K X) (I : Inv X pins σ H s) {p : Addr} {xs : List (NestedKey × Addr × Value)} {h' : Heap} {t' : Nat} (mu : Mut (H p)) (hm : (p == sysModules) = false) (hz : xs.length ≤ sizeLine) (dd : h'.DictOfH (nestedKind X.prog X.w) p xs) (hs : Heap.SameBut p s.heap h') : Inv X pins σ (upd H p (dxO K p xs)) { s with heap := h', toks := t' } := by
  obtain ⟨o, es, ep, ho, hx, hd, he, _, hn⟩ := dd
  refine d_write I mu hs ⟨o, ho⟩ ?_
  refine ⟨⟨hm, hz, o, es, ep, ho, hx, hd, by rw [kx.p, kx.w]; exact he, hn⟩, ⟨o, ho⟩, fun h1 h2 ⟨q1, q2, o', es', ep', z1, z2⟩ k => ⟨q1, q2, o', es', ep', k _ z1, z2⟩⟩
theorem dc_mut {p : Addr} {ks : List D} {kr vs : List V} (h : DcAt K H p ks kr vs) : Mut (H p) := by
  rcases h with ⟨kv, h1, _⟩ | ⟨_, xs, h1, _⟩
  · rw [h1]; exact True.intro
  · rw [h1]; exact True.intro
/-- the new dict's description, flat keys -/
theorem dcF_put {p : Addr} {ks : List D} {kv : List (Key × V)} {d : D} {k : Key} {v : V} {o : HO} {H : Hp} (hn : (kv.map (·.1)).Nodup) (h2 : ks.map kyF = kv.map (fun q => some q.1)) (f1 : kyF d = some k) (ho : o = .dK (putK kv k v)) :
    DcAt K (upd H p o) p (putKs ks d) (putR ks d (kv.map fun q => kV q.1) (kV k)) (putV ks d (kv.map (·.2)) v) := by
  obtain ⟨a, b, c⟩ := putK_ixk (v := v) hn h2 f1
  exact .inl ⟨_, by rw [upd_same, ho], b.symm, c.symm, a.symm⟩
theorem dcT_put {p : Addr} {ks : List D} {xs : List (NestedKey × Addr × Value)} {d : D} {k : NestedKey} {b : Addr} {v : V} {u : Value} {vs : List V} {o : HO} {H : Hp} (hn : (xs.map (·.1)).Nodup) (h2 : ks.map nk = xs.map (fun q => some q.1)) (hT : ks.all isT = true) (ht : isT d = true) (f1 : nk d = some k) (hv : Vals vs (xs.map (·.2.2))) (r : RelV v u) (h8 : ∀ q ∈ xs, q.1.depth ≤ 8) (k8 : k.depth ≤ 8)
    (ho : o = dxO K p (storedH xs k b u)) : DcAt K (upd H p o) p (putKs ks d) (putR ks d (xs.map fun q => V.ref q.2.1) (.ref b)) (putV ks d vs v) := by
  obtain ⟨a, b1, c⟩ := stored_ixk (a := b) (v := u) hn h2 f1
  refine .inr ⟨?_, _, by rw [upd_same, ho], b1.symm, ?_, c.symm, by rw [a]; exact vals_put hv r, ?_⟩
  · unfold putKs
    cases q : ixk ks d with
    | none => simp
    | some i => intro z; have z : ks = [] := z; have := ixk_lt q; rw [z] at this; exact absurd this (Nat.not_lt_zero _)
  · intro x hx
    unfold putKs at hx
    cases q : ixk ks d with
    | none =>
      rw [q] at hx
      rcases List.mem_append.mp hx with z | z
      · exact List.all_eq_true.mp hT x z
      · rw [List.mem_singleton.mp z]; exact ht
    | some i => rw [q] at hx; exact List.all_eq_true.mp hT x hx
  · intro q hq
    unfold storedH at hq
    split at hq
    · obtain ⟨y, hy, rfl⟩ := List.mem_map.mp hq
      unfold putAt
      split
      · exact h8 y hy
      · exact h8 y hy
    · rcases List.mem_append.mp hq with z | z
      · exact h8 q z
      · rw [List.mem_singleton.mp z]; exact k8
theorem stored_len {xs : List (NestedKey × Addr × Value)} {k : NestedKey} {b : Addr} {u : Value} : (storedH xs k b u).length ≤ xs.length + 1 := by
  unfold storedH
  split
  · rw [List.length_map]; omega
  · rw [List.length_append]; exact Nat.le_refl _
theorem D_setItem {Q : Unit → Shared → Prop} {E : Value → Shared → Prop} {A : Around} {x y v : V} {a u w : Value} {R : Hp → Prop} (kx : KX K X) (hu : A.units + 9 < cLine) (I : Inv X pins σ H s) (rx : RelV x a) (ry : RelV y u) (rv : RelV v w) (g : DSto K H x y v R)
    (h : ∀ H' s', Inv X pins σ H' s' → R H' → Q () s') : wpAny (model X.prog X.w) A (setItem a u w) Q E s := by
  obtain ⟨p, ks, kr, vs, kd, rfl, h1, h2, h3, h4, hz, h5⟩ := g
  cases rx
  rcases dkOk_or h4 with ⟨c1, c2⟩ | ⟨c1, c2⟩
  · obtain ⟨kv, d1, d2, d3, d4⟩ := dictF h1 c2
    obtain ⟨k, f1, f2, f3⟩ := flat_key (X := X) c1 h3 ry
    have hl : kv.length = ks.length := by simpa using (congrArg List.length d2).symm
    refine d_setItem (by omega) I (f2 ▸ DPut.k d1 (by omega)) ry rv fun s' I' => h _ s' I' (h5 _ ?_)
    rw [d3, d4, f2]
    exact dcF_put (dk_nodup I d1).1 d2 f1 rfl
  · obtain ⟨xs, d1, d2, d3, d4, d5, d6, d7⟩ := dictT kx I h1.v h2 c2
    obtain ⟨k, b, f1, rfl, rfl, f3⟩ := key_is kx I c1 h3 ry
    have hl : xs.length = ks.length := by simpa using (congrArg List.length d2).symm
    refine wpAny_setItem_heap (hsz := d5) (show A.units + 1 + 8 < cLine by omega) f3 d1 fun h' dd' hs => ?_
    refine h _ _ (dx_write kx I (dc_mut h1) d6 (Nat.le_trans stored_len (by omega)) dd' hs) (h5 _ ?_)
    rw [d3]
    exact dcT_put d1.nodup d2 c2 c1 f1 d4 rv d7 f3.2 rfl
def rDIx (K : Kx) : R2 := fun x y H Q => ∃ v, DLook K H x y (some v) ∧ Q v H
def rDIn (K : Kx) (f : Bool → Bool) : R2 := fun x y H Q => ∃ o, DLook K H y x o ∧ Q (.bl (f o.isSome)) H
theorem dlook_type (kx : KX K X) (I : Inv X pins σ H s) {x y : V} {o : Option V} {a : Value} (rx : RelV x a) (g : DLook K H x y o) : s.TypeIs a "dict" ∧ ∀ b, a = .ref b → ∃ ob, s.heap.get? b = some ob ∧ ob.dict = none := by
  obtain ⟨p, ks, kr, vs, kd, rfl, h1, h2, h3, h4, h5⟩ := g
  cases rx
  have key : ∃ o, s.heap.get? p = some o ∧ o.ExactDict := by
    rcases h1.cs with ⟨kv, h1, _⟩ | ⟨_, xs, h1, _⟩
    · obtain ⟨_, _, _, _, o, _, _, e, ex, _⟩ := (show ObjOk X.prog X.w H s.heap p (.dK kv) from h1.ok I.hok)
      exact ⟨o, e, ex⟩
    · obtain ⟨⟨_, _, o, _, _, e, ex, _⟩, _⟩ := (show ObjOk X.prog X.w H s.heap p (dxO K p xs) from I.hok p _ h1)
      exact ⟨o, e, ex⟩
  obtain ⟨o, e, ex⟩ := key
  refine ⟨⟨o, e, ex.1⟩, fun b z => ?_⟩
  cases z
  exact ⟨o, e, ex.2.1⟩
theorem ix_dict (kx : KX K X) (hu : X.A.units + 9 < cLine) : IxR X (rDIx K) := by
  intro value slice pins s σ H x y v u Q I rx ry ⟨r, g, q⟩ hs
  exact tail_any (dlook_type kx I rx g).1 PySem.F.slot_dict_getitem.lookup (D_getItem kx hu I rx ry g fun w s' I' rw' => ⟨r, H, I', rw', q⟩) hs
theorem op_in_dict (kx : KX K X) (hu : X.A.units + 9 < cLine) : OpR X (compareOp .In) (rDIn K id) := by
  intro pins s σ H x y v u Q I rx ry ⟨o, g, q⟩
  exact D_in kx hu I ry rx g fun s' I' => ⟨.bl (id o.isSome), H, I', rfl, q⟩
theorem op_nin_dict (kx : KX K X) (hu : X.A.units + 9 < cLine) : OpR X (compareOp .NotIn) (rDIn K not) := by
  intro pins s σ H x y v u Q I rx ry ⟨o, g, q⟩
  exact D_notIn kx hu I ry rx g fun s' I' => ⟨.bl (!o.isSome), H, I', rfl, q⟩
/-- d.get(k, x), d.get(k) -/
def rDGet (K : Kx) : V → List V → Hp → VK → Prop := fun x xs H Q => (∃ y z o, xs = [y, z] ∧ DLook K H x y o ∧ Q (o.getD z) H) ∨ ∃ y o, xs = [y] ∧ DLook K H x y o ∧ Q (o.getD .non) H
theorem RelO.getD' {o : Option V} {u : Option Value} (r : RelO o u) {z : V} {w : Value} (rz : RelV z w) : RelV (o.getD z) (u.getD w) := L2.RelO.getD r rz
theorem mt_dget (kx : KX K X) (hu : X.A.units + 9 < cLine) : MtR X "dict.get" (rDGet K) := by
  intro pins s σ H x xs v us Q I rx r h
  rcases h with ⟨y, z, o, rfl, ⟨p, ks, kr, vs, kd, rfl, h1, h2, h3, h4, h5⟩, q⟩ | ⟨y, o, rfl, ⟨p, ks, kr, vs, kd, rfl, h1, h2, h3, h4, h5⟩, q⟩
  · obtain ⟨u1, u2, rfl, r1, r2⟩ := vals2 r
    cases rx
    rcases dkOk_or h4 with ⟨c1, c2⟩ | ⟨c1, c2⟩
    · obtain ⟨kv, d1, d2, d3, d4⟩ := dictV h1 c2
      obtain ⟨k, f1, f2, f3⟩ := flat_key (X := X) c1 h3 r1
      obtain ⟨hz, hd, vs', rel, dd⟩ := dk_rd I.hok d1
      refine call_meetsIn PySem.F.slot_dict_get dd.typeIs PySem.F.entry_dict_get (PySem.F.args_dict_get_3 _ _ _) (meets_dict_get_default (mixKind X.prog X.w) p f3 hd u2) ⟨_, dd.mapOf, ?_⟩
      refine ⟨_, H, I.tok _, L2.RelO.getD ?_ r2, q⟩
      rw [h5, d4, ← valV_ixk d2 f1]
      exact rel.val k
    · obtain ⟨xs, d1, d2, d3, d4, d5, d6, d7⟩ := dictT kx I h1 h2 c2
      obtain ⟨k, b, f1, rfl, rfl, f3⟩ := key_is kx I c1 h3 r1
      have r := relO_of d4 (o := ixk ks kd)
      rw [← h5, ← atKey_ixk d2 f1] at r
      refine getOr_keyed (show X.A.units + 1 + 8 < cLine by omega) f3 d6 ⟨xs, d1, rfl⟩ ?_
      rw [valueAt_pairsH]
      exact ⟨_, H, I.tok _, L2.RelO.getD r r2, q⟩
  · obtain ⟨u1, rfl, r1⟩ := vals1 r
    cases rx
    rcases dkOk_or h4 with ⟨c1, c2⟩ | ⟨c1, c2⟩
    · obtain ⟨kv, d1, d2, d3, d4⟩ := dictV h1 c2
      obtain ⟨k, f1, f2, f3⟩ := flat_key (X := X) c1 h3 r1
      obtain ⟨hz, hd, vs', rel, dd⟩ := dk_rd I.hok d1
      refine call_meetsIn PySem.F.slot_dict_get dd.typeIs PySem.F.entry_dict_get (PySem.F.args_dict_get_2 _ _) (meets_dict_get (mixKind X.prog X.w) p f3 hd) ⟨_, dd.mapOf, ?_⟩
      refine ⟨_, H, I.tok _, L2.RelO.getD (d := .non) (d' := .none) ?_ rfl, q⟩
      rw [h5, d4, ← valV_ixk d2 f1]
      exact rel.val k
    · obtain ⟨xs, d1, d2, d3, d4, d5, d6, d7⟩ := dictT kx I h1 h2 c2
      obtain ⟨k, b, f1, rfl, rfl, f3⟩ := key_is kx I c1 h3 r1
      have r := relO_of d4 (o := ixk ks kd)
      rw [← h5, ← atKey_ixk d2 f1] at r
      refine get_keyed (show X.A.units + 1 + 8 < cLine by omega) f3 d6 ⟨xs, d1, rfl⟩ ?_
      rw [valueAt_pairsH]
      exact ⟨_, H, I.tok _, L2.RelO.getD (d := .non) (d' := .none) r rfl, q⟩
end
end Mq
/-! A small language over HandS: comprehensions that make dicts, keys numbers, texts or tuples. (Turned from HandS.DictComp: the store is DSto.) -/
namespace Mq
open PySem PySem.Spec L2 PyProof.Rows
section
variable {X : Cx} {K : Kx} {pins : List (Addr × Obj)} {σ : L2.St} {H : Hp} {s : Shared}
/-- d[y] = v by a comprehension -/
theorem D_dictSet {Q : Unit → Shared → Prop} {E : Value → Shared → Prop} {A : Around} {p : Addr} {y v : V} {u w : Value} {R : Hp → Prop} (kx : KX K X) (hu : A.units + 9 < cLine) (I : Inv X pins σ H s) (ry : RelV y u) (rv : RelV v w) (g : DSto K H (.ref p) y v R)
    (h : ∀ H' s', Inv X pins σ H' s' → R H' → Q () s') : wpAny (model X.prog X.w) A (dictSet p u w) Q E s := by
  obtain ⟨p', ks, kr, vs, kd, ep, h1, h2, h3, h4, hz, h5⟩ := g
  cases ep
  rcases dkOk_or h4 with ⟨c1, c2⟩ | ⟨c1, c2⟩
  · obtain ⟨kv, d1, d2, d3, d4⟩ := dictF h1 c2
    obtain ⟨k, f1, f2, f3⟩ := flat_key (X := X) c1 h3 ry
    have hl : kv.length = ks.length := by simpa using (congrArg List.length d2).symm
    obtain ⟨z, lo, us, rel, dd⟩ := dk_of I.hok d1
    have hzv : us.length ≤ sizeLine := by rw [← rel.length]; exact z
    have hl2 : (putK kv k v).length ≤ sizeLine := by have := length_putK kv k v; omega
    refine wpAny_dictSet_pairs (hsz := hzv) f3 dd fun h' dd' hs => ?_
    have he : ∃ q, h'.get? p = some q := let ⟨q, _, _, hq, _⟩ := dd'; ⟨q, hq⟩
    refine h (upd H p (.dK (putK kv k v))) _ (d_write I (by rw [d1]; exact True.intro) hs he (dk_new hl2 lo (rel.put k rv) dd')) (h5 _ ?_)
    rw [d3, d4, f2]
    exact dcF_put (dk_nodup I d1).1 d2 f1 rfl
  · obtain ⟨xs, d1, d2, d3, d4, d5, d6, d7⟩ := dictT kx I h1.v h2 c2
    obtain ⟨k, b, f1, rfl, rfl, f3⟩ := key_is kx I c1 h3 ry
    have hl : xs.length = ks.length := by simpa using (congrArg List.length d2).symm
    refine wpAny_dictSet_heap (hsz := d5) (show A.units + 8 < cLine by omega) f3 d1 fun h' dd' hs => ?_
    refine h _ _ (dx_write kx I (dc_mut h1) d6 (Nat.le_trans stored_len (by omega)) dd' hs) (h5 _ ?_)
    rw [d3]
    exact dcT_put d1.nodup d2 c2 c1 f1 d4 rv d7 f3.2 rfl
/-- {k: v for target in iter if ..}: D the new dict -/
def tDcX (K : Kx) (wi : TI) (g : TG) (tt : TT) (tk tv : TE) (vs : List Nat) : TE := fun σ H Q => wi σ H fun J H1 => ∀ D, H1 D = none → ∃ W : Nat → Nat → Hp → Prop, (∃ m, W 0 m (upd H1 D (.dK []))) ∧ ∀ i m H, W i m H →
  (J.stop i H ∧ Q (.ref D) H) ∨ (J.go i H ∧ ∃ Nx : Hp → Prop, (∀ H', Nx H' → ∃ m', m' < m ∧ W (i + 1) m' H') ∧ ∀ x H', J.yld i H x H' → g x (wipe σ vs) H' fun σ2 H2 => wipe σ2 vs = wipe σ vs ∧ tt σ2 H2 fun b H3 =>
    if b = true then tk σ2 H3 fun y H4 => tv σ2 H4 fun z H5 => DSto K H5 (.ref D) y z Nx else Nx H3)
theorem dcX_core {K : Kx} (kz : KX K X) (hu : X.A.units + 9 < cLine) {pins : List (Addr × Obj)} {s : Shared} {σ : L2.St} {H : Hp} {Q : VK} {kx vx tg iter : Expr} {ifs : List Expr} {scope : Scope} {own : List (Str × Nat)} {pos pos' : Pos} {wi : TI} {g : TG} {tt : TT} {tk tv : TE} {use : Option (Value → Sem Unit)} {Qf : Value → Shared → Prop}
    (hc : X.calm = true) (hN : X.N.Nodup) (I : Inv X pins σ H s) (hi : PI X tg iter wi) (ok : BlkOk X.N X.env.scope scope own)
    (hg : ∀ (s : Shared) (H : Hp) (C : Addr) (cl : List (Str × Addr)) (fp : List Addr), PG (X.blk s H scope (compEnvC scope cl C X.env) fp) tg g) (ht : ∀ (s : Shared) (H : Hp) (C : Addr) (cl : List (Str × Addr)) (fp : List Addr), PTs (X.blk s H scope (compEnvC scope cl C X.env) fp) ifs tt)
    (hk : ∀ (s : Shared) (H : Hp) (C : Addr) (cl : List (Str × Addr)) (fp : List Addr), PE (X.blk s H scope (compEnvC scope cl C X.env) fp) kx tk)
    (he : ∀ (s : Shared) (H : Hp) (C : Addr) (cl : List (Str × Addr)) (fp : List Addr), PE (X.blk s H scope (compEnvC scope cl C X.env) fp) vx tv) (hs : ∀ x, foldedSetIterable iter X.env x = pure x)
    (h : tDcX K wi g tt tk tv (own.map (·.2)) σ H Q)
    (hRR : ∀ D C s' m H', Inv X pins σ H' s' → Q (.ref D) H' → s'.heap.Ns C m → FpOk X pins H' C → compPost (model X.prog X.w) X.A X.xe use Qf (.ref D) C (.ok .next) s') :
    wpAny (model X.prog X.w) X.A (comprehension (.DictComp kx vx [⟨tg, iter, ifs, 0⟩] scope pos) scope X.env pos' newDict false (eval iter X.env) use) Qf X.xe s := by
  have hfree : ∀ y ∈ scope.names, y.2 = .free → ∃ c, X.env.cells.lookup y.1 = some c := fun y hy e => by
    rcases ok.free y hy e with k | k
    · exact I.ok.has _ (.inl k)
    · exact I.ok.has _ (.inr k)
  refine wpAny_comprehension_free (use := use) rfl hs (closure_ok hfree) ok.kind (fun y hy e => by rw [ok.uniq y hy, e])
    (thn (hi.run pins s σ H _ I h) fun xv s1 hx => thn hx fun itv s2 h2 => ?_)
  obtain ⟨it, fp, tn, J, H2, e, I2, T, st2, f2, q⟩ := h2
  subst e
  refine wpAny_newObj_type (newEnv_comp ?_)
  generalize hD : s2.heap.objs.size = D
  have hDn : H2 D = none := I2.hok.fresh (Nat.le_of_eq hD)
  obtain ⟨W, ⟨m0, w0⟩, turn⟩ := q D hDn
  -- the new list
  generalize hs3 : ({ s2 with heap := s2.heap.push { cls := .type "dict", data := .dict #[] } } : Shared) = s3
  have I3 : Inv X pins σ (upd H2 D (.dK [])) s3 := by
    rw [← hs3]
    refine I2.laid (t' := s2.toks) (fun b o e => Heap.get?_push_of_some _ e) (Nat.le_of_eq hD) ?_
    rw [← hD]
    exact dk_empty s2.heap I2.big
  have h3 : s3.heap = s2.heap.push { cls := .type "dict", data := .dict #[] } := by rw [← hs3]
  have sz : ∀ b ∈ fp, b < s2.heap.objs.size := fun b hb => by
    obtain ⟨o, e, _⟩ := T.obj _ _ st2 b hb
    exact Heap.lt_size e
  have f3 : ∀ b ∈ fp, FpOk X pins (upd H2 D (.dK [])) b ∧ b < s3.heap.objs.size := fun b hb => by
    have hlt := sz b hb
    refine ⟨⟨?_, (f2 b hb).2⟩, by rw [h3, Heap.size_push]; exact Nat.lt_succ_of_lt hlt⟩
    rw [upd_ne (by rw [← hD]; exact Nat.ne_of_lt hlt)]
    exact (f2 b hb).1
  have st3 : tn 0 s3.heap := T.keep _ _ _ st2 fun b _ o e => by rw [h3]; exact Heap.get?_push_of_some _ e
  have I4 := block_start I3 ok hN f3
  have pg := hg s3 (upd H2 D (.dK [])) s3.heap.objs.size (cellsFrom (s3.heap.objs.size + 1) scope.names (cloFrom X.env.cells scope.names [])) fp
  have pt := ht s3 (upd H2 D (.dK [])) s3.heap.objs.size (cellsFrom (s3.heap.objs.size + 1) scope.names (cloFrom X.env.cells scope.names [])) fp
  have pk := hk s3 (upd H2 D (.dK [])) s3.heap.objs.size (cellsFrom (s3.heap.objs.size + 1) scope.names (cloFrom X.env.cells scope.names [])) fp
  have pe := he s3 (upd H2 D (.dK [])) s3.heap.objs.size (cellsFrom (s3.heap.objs.size + 1) scope.names (cloFrom X.env.cells scope.names [])) fp
  show codeAny _ _ (.compStart (.DictComp kx vx [⟨tg, iter, ifs, 0⟩] scope pos) 0 (.ref it) (.ref D) (compEnvC scope (cellsFrom (s3.heap.objs.size + 1) scope.names (cloFrom X.env.cells scope.names [])) s3.heap.objs.size X.env)) (compPost (model X.prog X.w) X.A X.xe use Qf (.ref D) s3.heap.objs.size) { s3 with heap := pushCells (s3.heap.push { cls := .type "dict", data := .dict #[] }) scope.names }
  have nfp : ∀ b ∈ fp, (upd H2 D (.dK [])) b = none := fun b hb => (f3 b hb).1.1
  generalize hce : compEnvC scope (cellsFrom (s3.heap.objs.size + 1) scope.names (cloFrom X.env.cells scope.names [])) s3.heap.objs.size X.env = ce at I4 pg pt pk pe ⊢
  have cL : ce.locals = s3.heap.objs.size := by subst hce; rfl
  generalize hH3 : upd H2 D (.dK []) = H3 at I3 I4 pg pt pk pe w0 nfp f3
  generalize hs4 : ({ s3 with heap := pushCells (s3.heap.push { cls := .type "dict", data := .dict #[] }) scope.names } : Shared) = s4 at I4 ⊢
  have st4 : tn 0 s4.heap := T.keep _ _ _ st3 fun b _ o e => by rw [← hs4]; exact pushCells_keeps _ _ _ _ (Heap.get?_push_of_some _ e)
  have stat : ∀ {σ' : L2.St} {H' : Hp} {s' : Shared}, Inv (X.blk s3 H3 scope ce fp) [] σ' H' s' → (∀ b ∈ fp, H' b = none) → ∀ b ∈ fp, FpOk (X.blk s3 H3 scope ce fp) [] H' b := fun {σ' H' s'} I' hn b hb =>
    ⟨hn b hb, (I'.ok.exf b hb).1, I'.ok.exfs b hb, .inl hb, fun x c e => (I'.ok.exf b hb).2 x c e, fun p hp => absurd (show p ∈ ([] : List (Addr × Obj)) ++ [] from hp) (by simp)⟩
  have loop : codeAny (model X.prog X.w) X.A (.compLoop (.DictComp kx vx [⟨tg, iter, ifs, 0⟩] scope pos) 0 (.ref it) (.ref D) ce) (compPost (model X.prog X.w) X.A X.xe use Qf (.ref D) s3.heap.objs.size) s4 := by
    refine compLoop_anyD (fun n s' => ∃ i H', Inv (X.blk s3 H3 scope ce fp) [] (wipe σ (own.map (·.2))) H' s' ∧ tn i s'.heap ∧ (∀ b ∈ fp, H' b = none) ∧ W i n H') ?_ m0 ⟨0, H3, I4, st4, nfp, w0⟩
    rintro n s5 ⟨i, H5, I5, st5, n5, w5⟩
    rcases turn i n H5 w5 with ⟨stop, qq⟩ | ⟨go, Nx, hNx, step⟩
    · have td := T.done (X.blk s3 H3 scope ce fp) rfl rfl rfl hc i [] s5 _ H5 (fun _ _ => False) I5 (stat I5 n5) st5 stop
      refine thnF td fun r s6 ⟨hr, I6⟩ => ?_
      subst hr
      -- back in the def's context
      have I7 : Inv X pins σ H5 s6 := I3.call' (ch := fp) I6.os I6.base I6.hok I6.bare fun b hb => ⟨(f3 b hb).1.2.2.2.1, (f3 b hb).1.2.1, (f3 b hb).1.2.2.2.2.1, (f3 b hb).1.2.2.2.2.2⟩
      have nC : H5 s3.heap.objs.size = none := by
        have z : H5 ce.locals = none := I6.free
        rw [cL] at z
        exact z
      obtain ⟨m, hn, _⟩ := I6.loc
      have hn : s6.heap.Ns ce.locals m := hn
      rw [cL] at hn
      exact hRR D s3.heap.objs.size s6 m H5 I7 qq hn (I3.fpOk (Nat.le_refl _) nC)
    · have ti := T.item (X.blk s3 H3 scope ce fp) rfl rfl rfl hc i [] s5 _ H5 (fun _ _ => False) I5 (stat I5 n5) st5 go
      refine thnF ti fun r s6 ⟨u, hr, h6⟩ => ?_
      subst hr
      refine thnF h6 fun _ s7 ⟨x, H7, I7, r7, y7, st7, n7⟩ => ?_
      have I7' := I7.pinned (stat I7 n7) (T.obj _ _ st7)
      refine thnF (pg.run _ s7 _ H7 x u _ I7' r7 (step x H7 y7)) fun _ s8 ⟨σ8, H8, I8, hw8, q8⟩ => ?_
      refine thnF (pt.run _ s8 σ8 H8 _ I8 q8) fun b s9 ⟨H9, I9, q9⟩ => ?_
      -- the turn's end
      have fin : ∀ {s' : Shared} {H' : Hp}, Inv (X.blk s3 H3 scope ce fp) ([] ++ pinsAt fp s7.heap) σ8 H' s' → Nx H' → ∃ m, m < n ∧ ∃ i H', Inv (X.blk s3 H3 scope ce fp) [] (wipe σ (own.map (·.2))) H' s' ∧ tn i s'.heap ∧ (∀ b ∈ fp, H' b = none) ∧ W i m H' := fun {s' H'} I' nx => by
        obtain ⟨m', hm, w'⟩ := hNx H' nx
        have pin' : ∀ b ∈ fp, ∀ o, s7.heap.get? b = some o → s'.heap.get? b = some o ∧ H' b = none := fun b hb o e =>
          let z := I'.pin (b, o) (List.mem_append_right _ (List.mem_append_right _ (mem_pinsAt hb e)))
          ⟨z.1, z.2.1⟩
        have hl : (wipe σ (own.map (·.2))).length = σ8.length := by rw [← hw8, wipe_length]
        refine ⟨m', hm, i + 1, H', (I'.unpinned (pins := [])).weak hl (fun j v e => ?_), T.keep _ _ _ st7 fun b hb o e => (pin' b hb o e).1, fun b hb => ?_, w'⟩
        · rw [← hw8] at e
          exact (wipe_some e).1
        · obtain ⟨o, e, _⟩ := T.obj _ _ st7 b hb
          exact (pin' b hb o e).2
      cases b with
      | false =>
        simp only [Bool.false_eq_true, if_false] at q9 ⊢
        exact fin I9 q9
      | true =>
        simp only [if_true] at q9 ⊢
        refine thnF (pk.run _ s9 σ8 H9 _ I9 q9) fun z s10 ⟨yk, H10, I10, r10, q10⟩ => ?_
        refine thnF (pe.run _ s10 σ8 H10 _ I10 q10) fun z2 s11 ⟨yv, H11, I11, r11, st⟩ => ?_
        exact D_dictSet (X := X.blk s3 H3 scope ce fp) ⟨kz.k, kz.p, kz.w⟩ hu I11 r10 r11 st fun H12 s12 I12 nx => fin I12 nx
  exact codeAny_compStart_dict loop (T.self X.A 0 _ _ _ st4 loop)
/-- as a value -/
theorem pe_dcX {K : Kx} (kz : KX K X) (hu : X.A.units + 9 < cLine) {kx vx tg iter : Expr} {ifs : List Expr} {scope : Scope} {own : List (Str × Nat)} {pos : Pos} {wi : TI} {g : TG} {tt : TT} {tk tv : TE} (hc : X.calm = true) (hN : X.N.Nodup) (hi : PI X tg iter wi) (ok : BlkOk X.N X.env.scope scope own)
    (hg : ∀ (s : Shared) (H : Hp) (C : Addr) (cl : List (Str × Addr)) (fp : List Addr), PG (X.blk s H scope (compEnvC scope cl C X.env) fp) tg g) (ht : ∀ (s : Shared) (H : Hp) (C : Addr) (cl : List (Str × Addr)) (fp : List Addr), PTs (X.blk s H scope (compEnvC scope cl C X.env) fp) ifs tt)
    (hk : ∀ (s : Shared) (H : Hp) (C : Addr) (cl : List (Str × Addr)) (fp : List Addr), PE (X.blk s H scope (compEnvC scope cl C X.env) fp) kx tk)
    (he : ∀ (s : Shared) (H : Hp) (C : Addr) (cl : List (Str × Addr)) (fp : List Addr), PE (X.blk s H scope (compEnvC scope cl C X.env) fp) vx tv) (hs : ∀ x, foldedSetIterable iter X.env x = pure x := by intro _; rfl) :
    PE X (.DictComp kx vx [⟨tg, iter, ifs, 0⟩] scope pos) (tDcX K wi g tt tk tv (own.map (·.2))) := by
  refine ⟨fun pins s σ H Q I h => ?_⟩
  rw [arm_eval_DictComp]
  refine dcX_core kz hu hc hN I hi ok hg ht hk he hs h fun D C s' m H' I' q hn f => ⟨m, hn, fun h'' sb => ?_⟩
  obtain ⟨f0, f1, f2, f3, f4, f5⟩ := f
  exact ⟨.ref D, H', I'.turned (t' := s'.toks) (fun b o hb e => (sb.2 b hb).trans e) f0 f1 f3 f4 f5, rfl, q⟩
end
end Mq
/-! A small language over HandS: sorted(d, key=f), d a dict. -/
namespace Mq
open PySem L2 Evl PySem.Spec PyProof.Rows PySem.Calls
section
variable {X : Cx} {K : Kx} {pins : List (Addr × Obj)} {σ : L2.St} {H : Hp} {s : Shared} {A : Around} {E : Value → Shared → Prop} {sp : List V → Hp → VK → Prop}
theorem vals_refs : ∀ (as : List Addr), Vals (as.map V.ref) (as.map Value.ref)
  | [] => .nil
  | a :: as => .cons rfl (vals_refs as)
theorem sk_collect (hh : A.handled = none) (kx : KX K X) (I : Inv X pins σ H s) {p : Addr} {ks : List D} {kr vs : List V} (h : DcV K H p ks kr vs) {R : List Value → Shared → Prop}
    (q : ∀ h' tk acc, (∀ b o, s.heap.get? b = some o → h'.get? b = some o) → Vals kr acc → acc.length ≤ sizeLine → R acc { s with heap := h', toks := tk }) : wpAny (model X.prog X.w) A (collect (.ref p)) R E s := by
  rcases h.cs with ⟨kv, h1, h2, h3, h4⟩ | ⟨_, xs, h1, h2, h3, h4, h5, h6⟩
  · obtain ⟨z, lo, us, rel, dd⟩ := dk_rd I.hok h1
    obtain ⟨ep, hat⟩ := dd.dictAt
    have ek : kr = us.map fun p => kV p.1 := by
      rw [h3]
      have e := congrArg (List.map kV) rel.keys
      rw [List.map_map, List.map_map] at e
      exact e
    have zz : us.length ≤ sizeLine := by rw [← rel.length]; exact z
    refine PySem.W.kdu_collect (PySem.W.kdl_dict (knd := mixKind X.prog X.w) (kvs := us) (ep := ep) lo) hh hat zz fun h' tk acc hk hacc => ?_
    have hv : Vals (us.map fun p => kV p.1) acc.toList := keys_at (by rw [Array.length_toList]; exact hacc.1) fun j v e => hacc.2 j v (by rw [← Array.getElem?_toList]; exact e)
    exact q h' tk acc.toList hk (by rw [ek]; exact hv) (by rw [Array.length_toList, hacc.1]; exact zz)
  · obtain ⟨⟨lo, hz, o, es, ep, ho, ex, hd, he, nd⟩, _⟩ := (show ObjOk X.prog X.w H s.heap p (dxO K p xs) from I.hok p _ h1)
    have hs : es.size = xs.length := by
      have := congrArg List.length he
      rw [Array.length_toList, List.length_map] at this
      exact this
    refine PySem.W.kdu_collect (kdl_raw (es := es) (ep := ep) lo) hh ⟨o, ho, ex, hd⟩ (by rw [hs]; exact hz) fun h' tk acc hk hacc => ?_
    have ea : acc.toList = (xs.map (·.2.1)).map Value.ref := by
      refine List.ext_getElem ?_ fun i h1 h2 => ?_
      · rw [Array.length_toList, hacc.1, hs, List.length_map, List.length_map]
      · have hi : i < acc.size := by rw [Array.length_toList] at h1; exact h1
        obtain ⟨hi2, e⟩ := hacc.2 i acc[i] (Array.getElem?_eq_getElem hi)
        have e2 : es.toList[i]? = (xs.map (entryOfKey (nestedKind K.P K.w)))[i]? := by rw [he]
        have hx : i < xs.length := by rw [← hs]; exact hi2
        rw [Array.getElem?_toList, Array.getElem?_eq_getElem hi2, List.getElem?_map, List.getElem?_eq_getElem hx] at e2
        have e3 : es[i] = entryOfKey (nestedKind K.P K.w) xs[i] := Option.some.inj e2
        rw [Array.getElem_toList, List.getElem_map, List.getElem_map, e, e3]
        rfl
    refine q h' tk acc.toList hk ?_ (by rw [Array.length_toList, hacc.1, hs]; exact hz)
    rw [h4, ea, show xs.map (fun q => V.ref q.2.1) = (xs.map (·.2.1)).map V.ref by rw [List.map_map]; rfl]
    exact vals_refs _
theorem sk_dict {q p : Addr} {Q : VK} (hc : SkCall X X.A.in1.in1 (.ref q) sp) (hh : X.A.handled = none) (kx : KX K X) {ks : List D} {us vs : List V} {D : List V → Hp → Prop} (I : Inv X pins σ H s) (h : DcV K H p ks us vs) (run : SkRun sp us H (SkEnd X.K us D)) (hu : X.A.in1.in1.units + 64 < cLine)
    (fin : ∀ out H' p, H' p = none → D out H' → Q (.ref p) (upd H' p (.lst out))) :
    wpAny (model X.prog X.w) X.A (call (.builtin "sorted") [.ref p] [(Str.ofString "key", .ref q)]) (EP X pins σ Q) X.xe s := by
  refine call_function_entry_kw kind_sorted plain_sorted entry_sorted (ksk_s1 _ _) ?_
  unfold Builtin.«sorted»
  refine wpAny_bind (m := checkCount "sorted" 1 1 _) (wpAny_pure ?_)
  refine wpAny_bind (sk_collect (A := X.A.in1) hh kx I h fun h' tk acc hk rv hz => ?_)
  have I1 : Inv X pins σ H { s with heap := h', toks := tk } := I.kept hk
  refine wpAny_bind (wpAny_newList ?_ hz)
  have hoL : (h'.push (seqObj "list" acc.toArray 0)).get? h'.objs.size = some (seqObj "list" acc.toArray 0) := Heap.get?_push_size _ rfl
  have I2 : Inv X pins σ H { s with heap := h'.push (seqObj "list" acc.toArray 0), toks := tk } := I1.kept (s := { s with heap := h', toks := tk }) fun b o e => Heap.get?_push_of_some _ e
  show wpAny _ _ _ _ _ { s with heap := h'.push (seqObj "list" acc.toArray 0), toks := tk }
  refine wpAny_bind (wpAny_holding (wpAny_call_entry_kw slot_list_sort ⟨_, hoL, rfl⟩ entry_list_sort ?_ (ksk_l1 _ _)))
  rw [ksk_t1]
  refine sk_tree (s := { s with heap := h'.push (seqObj "list" acc.toArray 0), toks := tk }) hc I2 hoL (I1.hok.fresh (Nat.le_refl _)) (Own.of (H' := H) I1 (Nat.le_refl _)) rv hz run hu fun out H' s'' J na d => ⟨_, rfl, ?_⟩
  exact wpAny_pure ⟨_, rfl, .ref h'.objs.size, _, J, rfl, fin out H' _ na d⟩
/-- what is walked for a key -/
def SkSrc (K : Kx) (H : Hp) (x : V) (us : List V) : Prop := (∃ l, x = .ref l ∧ SqL K.K H l us) ∨ ∃ p ks vs, x = .ref p ∧ DcV K H p ks us vs
theorem sk_src {q : Addr} {Q : VK} {x : V} {u : Value} (hc : SkCall X X.A.in1.in1 (.ref q) sp) (hh : X.A.handled = none) (kx : KX K X) {us : List V} {D : List V → Hp → Prop} (I : Inv X pins σ H s) (h : SkSrc K H x us) (rx : RelV x u) (run : SkRun sp us H (SkEnd X.K us D)) (hu : X.A.in1.in1.units + 64 < cLine)
    (fin : ∀ out H' p, H' p = none → D out H' → Q (.ref p) (upd H' p (.lst out))) :
    wpAny (model X.prog X.w) X.A (call (.builtin "sorted") [u] [(Str.ofString "key", .ref q)]) (EP X pins σ Q) X.xe s := by
  rcases h with ⟨l, rfl, h⟩ | ⟨p, ks, vs, rfl, h⟩
  · cases rx
    exact sk_list hc I (by rw [← kx.k]; exact h) run hu fin
  · cases rx
    exact sk_dict hc hh kx I h run hu fin
end
end Mq
/-! A mini language over HandS, 2: operations by values. -/
namespace Mq
open PySem L2 Evl
open SX (S S_len S_cat S_inj)

inductive Op2 where
  | add | sub | mul | fdiv | mod | pow | eq | ne | lt | le | gt | ge | inn | nin | isn | nsn | idx
  deriving DecidableEq, Repr
def flat : D → Bool
  | .non | .bl _ | .int _ | .str _ => true
  | _ => false
def shp (d : D) : Bool := SeqAt.shaped d.py
def eqD (a b : D) : Option Bool := if shp a && shp b then some (PyData.eqv a.py b.py) else none
/-- x in ds -/
def inD (x : D) (ds : List D) : Bool := ds.any fun z => PyData.eqv z.py x.py
def memD (x y : D) : Option Bool :=
  match y with
  | .dct ks _ => if dkOk ks x then some (ixk ks x).isSome else none
  | .str l => match x with
    | .str [c] => some (decide (c ∈ l))
    | _ => none
  | .tup ds => if flat x && ds.all flat then some (inD x ds) else none
  | .lst ds => if flat x && ds.all flat then some (inD x ds) else if shp x && shp (.lst ds) then some (inD x ds) else none
  | _ => none
def idxD (x i : D) : Option D :=
  match x with
  | .dct ks ds => if dkOk ks i then (ixk ks i).bind fun n => ds[n]? else none
  | _ => match i with
    | .int i => match x with
      | .lst ds => atI ds i
      | .tup ds => atI ds i
      | .fls ds => atI ds i
      | .str l => if l.length ≤ 16777216 then (atI l i).map fun c => .str [c] else none
      | _ => none
    | _ => none
def addD (x y : D) : Option D :=
  match x, y with
  | .int a, .int b => some (.int (a + b))
  | .str a, .str b => if a.length + b.length ≤ 16777216 then some (.str (a ++ b)) else none
  | .lst a, .lst b => if a.length + b.length ≤ 16777216 then some (.lst (a ++ b)) else none
  | .tup a, .tup b => if a.length + b.length ≤ 16777216 then some (.tup (a ++ b)) else none
  | _, _ => none
def mulD (x y : D) : Option D :=
  match x, y with
  | .int a, .int b => if (decide (-(2 ^ 64) < a) && decide (a < 2 ^ 64)) || (decide (-(2 ^ 64) < b) && decide (b < 2 ^ 64)) then some (.int (a * b)) else none
  | .str a, .int n => if 2 ≤ n ∧ n ≤ 1000 ∧ 1 ≤ a.length ∧ a.length ≤ 1000 then some (.str (List.replicate n.toNat a).flatten) else none
  | .lst a, .int n => if 0 ≤ n ∧ n ≤ 1000 ∧ a.length ≤ 1000 then some (.lst (List.replicate n.toNat a).flatten) else none
  | .tup a, .int n => if a ≠ [] ∧ 0 ≤ n ∧ n ≤ 1000 ∧ a.length ≤ 1000 then some (.tup (List.replicate n.toNat a).flatten) else none
  | _, _ => none
def i2 (f : Int → Int → Option D) (x y : D) : Option D :=
  match x, y with
  | .int a, .int b => f a b
  | _, _ => none
/-- an order: ints, texts -/
def ordD (f : Int → Int → Bool) (g : List Nat → List Nat → Bool) (x y : D) : Option D :=
  match x, y with
  | .int a, .int b => some (.bl (f a b))
  | .str a, .str b => some (.bl (g a b))
  | _, _ => none
def nonD : D → Bool
  | .non => true
  | _ => false
def Op2.run : Op2 → D → D → Option D
  | .add, x, y => addD x y
  | .sub, x, y => i2 (fun a b => some (.int (a - b))) x y
  | .mul, x, y => mulD x y
  | .fdiv, x, y => i2 (fun a b => if 0 < b ∧ b < 1073741824 then some (.int (a / b)) else none) x y
  | .mod, x, y => i2 (fun a b => if 0 < b then some (.int (a % b)) else none) x y
  | .pow, x, y => i2 (fun a b => if 0 ≤ b ∧ b ≤ 1000 ∧ a.natAbs < 2 ^ 64 then some (.int (a ^ b.toNat)) else none) x y
  | .eq, x, y => (eqD x y).map .bl
  | .ne, x, y => (eqD x y).map fun b => .bl (!b)
  | .lt, x, y => ordD (fun a b => decide (a < b)) (fun a b => decide (a < b)) x y
  | .le, x, y => ordD (fun a b => decide (a ≤ b)) (fun a b => !decide (b < a)) x y
  | .gt, x, y => ordD (fun a b => decide (b < a)) (fun a b => decide (b < a)) x y
  | .ge, x, y => ordD (fun a b => decide (b ≤ a)) (fun a b => !decide (a < b)) x y
  | .inn, x, y => (memD x y).map .bl
  | .nin, x, y => (memD x y).map fun b => .bl (!b)
  | .isn, x, y => if nonD y then some (.bl (nonD x)) else none
  | .nsn, x, y => if nonD y then some (.bl (!nonD x)) else none
  | .idx, x, y => idxD x y

def rOr (r r' : R2) : R2 := fun x y H Q => r x y H Q ∨ r' x y H Q
def rStr (g : Str → Str → Bool) : R2 := fun x y H Q => ∃ i j, x = .str i ∧ y = .str j ∧ Q (.bl (g i j)) H
def rAddS2 : R2 := fun x y H Q => ∃ i j, x = .str i ∧ y = .str j ∧ i.length + j.length ≤ sizeLine ∧ Q (.str (i ++ j)) H
def rMulS : R2 := fun x y H Q => ∃ (i : Str) (n : Int), x = .str i ∧ y = .int n ∧ 2 ≤ n ∧ n ≤ 1000 ∧ 1 ≤ i.length ∧ i.length ≤ 1000 ∧ Q (.str (Txt.mul i n)) H
def rIsN2 (f : Bool → Bool) : R2 := fun x y H Q => y = .non ∧ Q (.bl (f (decide (x = .non)))) H
def rInC (f : Bool → Bool) : R2 := fun x y H Q => ∃ (c : Nat) (z : Str), x = .str ⟨#[c]⟩ ∧ y = .str z ∧ Q (.bl (f (decide (c ∈ z.cps.toList)))) H
def Op2.rd (K : Kx) : Op2 → R2
  | .add => rOr (rI0 fun i j => .int (i + j)) (rOr rAddS2 (rOr rCat (rCatF K.K)))
  | .sub => rI0 fun i j => .int (i - j)
  | .mul => rOr (rI CMul fun i j => .int (i * j)) (rOr rMulS (rOr rRep (rRepF K.K)))
  | .fdiv => rI CDiv fun i j => .int (i / j)
  | .mod => rI (fun _ j => 0 < j) fun i j => .int (i % j)
  | .pow => rI CPow fun i j => .int (i ^ j.toNat)
  | .eq => rEqD K.K
  | .ne => rNeD K.K
  | .lt => rOr (rI0 fun i j => .bl (decide (i < j))) (rStr fun i j => decide (i.cps.toList < j.cps.toList))
  | .le => rOr (rI0 fun i j => .bl (decide (i ≤ j))) (rStr fun i j => !decide (j.cps.toList < i.cps.toList))
  | .gt => rOr (rI0 fun i j => .bl (decide (j < i))) (rStr fun i j => decide (j.cps.toList < i.cps.toList))
  | .ge => rOr (rI0 fun i j => .bl (decide (j ≤ i))) (rStr fun i j => !decide (i.cps.toList < j.cps.toList))
  | .inn => rOr (rInC id) (rOr (rIn K.K false) (rOr (rInD K.K) (rDIn K id)))
  | .nin => rOr (rInC not) (rOr (rIn K.K true) (rOr (rNotInD K.K) (rDIn K not)))
  | .isn => rIsN2 id
  | .nsn => rIsN2 not
  | .idx => rOr (rIx K.K) (rDIx K)

/-! ### the machine's rules for these readings -/
section
variable {X : Cx} {K : Kx}
theorem op_mulS : OpR X (binaryOp .Mult) rMulS := by
  intro pins s σ H x y v u Q I rx ry h
  obtain ⟨i, n, rfl, rfl, h2, h3, h1, h4, q⟩ := h
  obtain ⟨t, rfl⟩ := rx
  obtain ⟨t', rfl⟩ := ry
  refine SB.mul ⟨by rw [decide_eq_false (by omega), decide_eq_false (by omega)]; rfl, fun _ _ z => ?_, fun _ _ => ?_⟩ (fun t' k => ⟨.str (Txt.mul i n), H, I.tok _, ⟨_, rfl⟩, q⟩)
  · have e : (1000 : Int) ≤ (2 ^ 63 - 1) / n := by
      refine (Int.le_ediv_iff_mul_le (by omega)).mpr ?_
      have : 1000 * n ≤ 1000 * 1000 := by omega
      omega
    omega
  · have e : i.length * n.toNat ≤ 1000 * 1000 := Nat.mul_le_mul h4 (by omega)
    have e2 : 1000 * 1000 ≤ sizeLine := by decide
    show decide (i.length * n.toNat > sizeLine) = false
    exact decide_eq_false (by omega)

theorem opr_add (kx : KX K X) : OpR X (binaryOp .Add) (Op2.rd K .add) := by
  show OpR _ _ _
  unfold Op2.rd
  try rw [kx.k]
  exact OpR.or op_add (OpR.or op_add_str (OpR.or op_cat op_catF))
theorem opr_sub (kx : KX K X) : OpR X (binaryOp .Sub) (Op2.rd K .sub) := by
  show OpR _ _ _
  unfold Op2.rd
  try rw [kx.k]
  exact op_sub
theorem opr_mul (kx : KX K X) : OpR X (binaryOp .Mult) (Op2.rd K .mul) := by
  show OpR _ _ _
  unfold Op2.rd
  try rw [kx.k]
  exact OpR.or op_mul (OpR.or op_mulS (OpR.or op_rep op_repF))
theorem opr_fdiv (kx : KX K X) : OpR X (binaryOp .FloorDiv) (Op2.rd K .fdiv) := by
  show OpR _ _ _
  unfold Op2.rd
  try rw [kx.k]
  exact op_fdiv
theorem opr_mod (kx : KX K X) : OpR X (binaryOp .Mod) (Op2.rd K .mod) := by
  show OpR _ _ _
  unfold Op2.rd
  try rw [kx.k]
  exact op_mod
theorem opr_pow (kx : KX K X) : OpR X (binaryOp .Pow) (Op2.rd K .pow) := by
  show OpR _ _ _
  unfold Op2.rd
  try rw [kx.k]
  exact op_pow
theorem opr_eq (kx : KX K X) (hu : X.A.units + 64 < cLine) : OpR X (compareOp .Eq) (Op2.rd K .eq) := by
  show OpR _ _ _
  unfold Op2.rd
  try rw [kx.k]
  exact op_eqD hu
theorem opr_ne (kx : KX K X) (hu : X.A.units + 64 < cLine) : OpR X (compareOp .NotEq) (Op2.rd K .ne) := by
  show OpR _ _ _
  unfold Op2.rd
  try rw [kx.k]
  exact op_neD hu
theorem opr_lt (kx : KX K X) : OpR X (compareOp .Lt) (Op2.rd K .lt) := by
  show OpR _ _ _
  unfold Op2.rd
  try rw [kx.k]
  exact OpR.or op_lt op_lt_str
theorem opr_le (kx : KX K X) : OpR X (compareOp .LtE) (Op2.rd K .le) := by
  show OpR _ _ _
  unfold Op2.rd
  try rw [kx.k]
  exact OpR.or op_le op_le_str
theorem opr_gt (kx : KX K X) : OpR X (compareOp .Gt) (Op2.rd K .gt) := by
  show OpR _ _ _
  unfold Op2.rd
  try rw [kx.k]
  exact OpR.or op_gt op_gt_str
theorem opr_ge (kx : KX K X) : OpR X (compareOp .GtE) (Op2.rd K .ge) := by
  show OpR _ _ _
  unfold Op2.rd
  try rw [kx.k]
  exact OpR.or op_ge op_ge_str
theorem opr_in (kx : KX K X) (hu : X.A.units + 65 < cLine) : OpR X (compareOp .In) (Op2.rd K .inn) := by
  show OpR _ _ _
  unfold Op2.rd
  try rw [kx.k]
  exact OpR.or op_in_sign (OpR.or op_in_seq (OpR.or (op_inD hu) (op_in_dict kx (by omega))))
theorem opr_nin (kx : KX K X) (hu : X.A.units + 65 < cLine) : OpR X (compareOp .NotIn) (Op2.rd K .nin) := by
  show OpR _ _ _
  unfold Op2.rd
  try rw [kx.k]
  exact OpR.or op_notIn_sign (OpR.or op_notIn_seq (OpR.or (op_notInD hu) (op_nin_dict kx (by omega))))
theorem opr_isn (kx : KX K X) : OpR X (compareOp .Is) (Op2.rd K .isn) := by
  show OpR _ _ _
  unfold Op2.rd
  try rw [kx.k]
  exact op_isN
theorem opr_nsn (kx : KX K X) : OpR X (compareOp .IsNot) (Op2.rd K .nsn) := by
  show OpR _ _ _
  unfold Op2.rd
  try rw [kx.k]
  exact op_notN
theorem ixr (kx : KX K X) (hu : X.A.units + 65 < cLine) : IxR X (Op2.rd K .idx) := by
  show IxR X (rOr (rIx K.K) (rDIx K))
  rw [kx.k]
  exact IxR.or ix_seq (ix_dict kx (by omega))
end

/-! ### what is run is told -/
section
variable {K : Kx} {G H : Hp} {Q : VK} {a b : V}
theorem mul_rep {l : List Nat} {n : Int} (h2 : 2 ≤ n) (h1 : 1 ≤ l.length) : Txt.mul (S l) n = S (List.replicate n.toNat l).flatten := by
  unfold Txt.mul
  rw [if_neg (by omega), if_neg ?_]
  · show (⟨(List.replicate n.toNat l.toArray).foldl (· ++ ·) #[]⟩ : Str) = ⟨((List.replicate n.toNat l).flatten).toArray⟩
    have key : ∀ (m : Nat) (acc : List Nat), (List.replicate m l.toArray).foldl (· ++ ·) acc.toArray = (acc ++ (List.replicate m l).flatten).toArray := by
      intro m
      induction m with
      | zero => intro acc; simp
      | succ m ih =>
        intro acc
        rw [List.replicate_succ, List.replicate_succ, List.foldl_cons, List.flatten_cons]
        have e : acc.toArray ++ l.toArray = (acc ++ l).toArray := by simp
        rw [e, ih (acc ++ l), List.append_assoc]
    have := key n.toNat []
    simpa using this
  · rw [Bool.or_eq_true]
    intro z
    rcases z with z | z
    · have := eq_of_beq z; omega
    · have := eq_of_beq z
      rw [S_len] at this
      omega
theorem eqV_py : ∀ {x y : D} {v u : V}, flat x = true → flat y = true → Rp K G x v → Rp K G y u → eqV v u = PyData.eqv x.py y.py := by
  intro x y v u hx hy h1 h2
  cases x <;> cases y <;> first
    | (cases hx; done)
    | (cases hy; done)
    | (cases h1; cases h2; simp [eqV, D.py, PyData.eqv])
theorem flatV_of {x : D} {v : V} (hx : flat x = true) (h : Rp K G x v) : flatV v = true := by
  cases x <;> first | (cases hx; done) | (cases h; rfl)
theorem flats_of : ∀ (ds : List D) (vs : List V), ds.all flat = true → Rps K G ds vs → vs.all flatV = true
  | [], _, _, h => by cases h; rfl
  | d :: ds, _, hf, h => by
    obtain ⟨v, r, rfl, h2, h3⟩ := h
    rw [List.all_cons, Bool.and_eq_true] at hf
    rw [List.all_cons, flatV_of hf.1 h2, flats_of ds r hf.2 h3]
    rfl
theorem inV_py {x : D} {v : V} (hx : flat x = true) (h1 : Rp K G x v) : ∀ (ds : List D) (vs : List V), ds.all flat = true → Rps K G ds vs → inV v vs = inD x ds
  | [], _, _, h => by cases h; rfl
  | d :: ds, _, hf, h => by
    obtain ⟨u, r, rfl, h2, h3⟩ := h
    rw [List.all_cons, Bool.and_eq_true] at hf
    show (u :: r).any (fun y => eqV y v) = (d :: ds).any fun z => PyData.eqv z.py x.py
    rw [List.any_cons, List.any_cons, eqV_py hf.1 hx h2 h1]
    have ih := inV_py hx h1 ds r hf.2 h3
    have ih' : r.any (fun y => eqV y v) = ds.any fun z => PyData.eqv z.py x.py := ih
    rw [ih']
theorem inD_py (x : D) (ds : List D) : ((D.pys ds).any fun z => PyData.eqv z x.py) = inD x ds := by
  rw [pys_map, List.any_map]
  rfl
theorem eq_sound {x y : D} {c : Bool} (h : eqD x y = some c) (e : Ex G H) (hx : Rq K G H x a) (hy : Rq K G H y b) : ∃ d1 d2, Dp K.K H a d1 ∧ Dp K.K H b d2 ∧ SeqAt.shaped d1 = true ∧ SeqAt.shaped d2 = true ∧ PyData.eqv d1 d2 = c := by
  unfold eqD at h
  split at h
  · rename_i hs
    rw [Bool.and_eq_true] at hs
    exact ⟨x.py, y.py, hx.dp e (SeqAt.canLay_of_shaped hs.1), hy.dp e (SeqAt.canLay_of_shaped hs.2), hs.1, hs.2, Option.some.inj h⟩
  · cases h
theorem ix_rp {ds : List D} {vs : List V} {i : Int} {d : D} (h : Rps K G ds vs) (e : atI ds i = some d) : ∃ v, atI vs i = some v ∧ Rp K G d v := by
  unfold atI at e ⊢
  rw [Rps.length ds vs h]
  cases q : ixN ds.length i with
  | none => rw [q] at e; cases e
  | some j =>
    rw [q] at e
    exact Rps.get ds vs j d h e
theorem nonD_rp {x : D} {v : V} (h : Rq K G H x v) : decide (v = V.non) = nonD x := by
  rcases h with h | ⟨ds, p, vs, rfl, rfl, _⟩ | ⟨ks, ds, p, kr, vs, rfl, rfl, _⟩
  · cases x <;> first
      | (cases h; rfl)
      | (obtain ⟨p, vs, rfl, _⟩ := h; rfl)
      | (obtain ⟨p, kr, vs, rfl, _⟩ := h; rfl)
  · rfl
  · rfl
theorem look_some {p : Addr} {ks : List D} {kr vs : List V} {x : D} {n : Nat} (h : DcV K H p ks kr vs) (hk : Rps K G ks kr) (hl : vs.length = n) : ((ixk ks x).bind fun i => vs[i]?).isSome = (ixk ks x).isSome := by
  have hlen : vs.length = ks.length := by
    rcases h.cs with ⟨kv, h1, h2, h3, h4⟩ | ⟨h0, xs, h1, h2, _, h3, h4, h5⟩
    · rw [h4]; simpa using (congrArg List.length h2).symm
    · have := h4.length; rw [this]; simpa using (congrArg List.length h2).symm
  cases q : ixk ks x with
  | none => rfl
  | some i => rw [Option.bind_some, List.getElem?_eq_getElem (by rw [hlen]; exact ixk_lt q)]; rfl
/-- a flat value read -/
theorem Rq.flat {x : D} {v : V} (h : Rq K G H x v) (hf : flat x = true) : Rp K G x v := h.rp ⟨(fun ds z => by rw [z] at hf; cases hf), fun ks ds z => by rw [z] at hf; cases hf⟩
theorem mem_sound {x y : D} {c : Bool} {f : Bool → Bool} {neg : Bool} (hn : ∀ t, (if neg = true then !t else t) = f t) (h : memD x y = some c) (e : Ex G H) (hx : Rq K G H x a) (hy : Rq K G H y b) (q : Q (.bl (f c)) H) :
    rInC f a b H Q ∨ rIn K.K neg a b H Q ∨ (∃ d ds, Dp K.K H a d ∧ Dp K.K H b (.list ds) ∧ SeqAt.shaped d = true ∧ SeqAt.shaped (.list ds) = true ∧ Q (.bl (f (ds.any fun z => PyData.eqv z d))) H) ∨ rDIn K f a b H Q := by
  unfold memD at h
  split at h
  · split at h
    · rename_i hd
      cases Option.some.inj h
      obtain ⟨p, kr, vs, rfl, h1, h2, h3⟩ := hy.dct e
      have hr : Rp K G x a := hx.rp ⟨(fun ds z => by rw [z] at hd; unfold dkOk at hd; simp [isF, isT] at hd), fun ks ds z => by rw [z] at hd; unfold dkOk at hd; simp [isF, isT] at hd⟩
      refine .inr (.inr (.inr ⟨_, ⟨p, _, kr, vs, x, rfl, h1, Rps.mono e _ _ h2, Rp.mono e _ _ hr, hd, rfl⟩, ?_⟩))
      have : ((ixk _ x).bind fun i => vs[i]?).isSome = (ixk _ x).isSome := look_some h1 h2 (Rps.length _ _ h3)
      rw [this]
      exact q
    · cases h
  · split at h
    · cases Option.some.inj h
      exact .inl ⟨_, _, hx.str, hy.str, q⟩
    · cases h
  · split at h
    · rename_i hf
      rw [Bool.and_eq_true] at hf
      cases Option.some.inj h
      obtain ⟨p, vs, rfl, h1, h2⟩ := hy.tup
      refine .inr (.inl ⟨p, vs, rfl, .inr (h1.mono e).sq, flatV_of hf.1 (hx.flat hf.1), flats_of _ _ hf.2 h2, ?_⟩)
      rw [inV_py hf.1 (hx.flat hf.1) _ _ hf.2 h2, hn]
      exact q
    · cases h
  · split at h
    · rename_i hf
      rw [Bool.and_eq_true] at hf
      cases Option.some.inj h
      obtain ⟨p, vs, rfl, h1, h2⟩ := hy.lst e
      refine .inr (.inl ⟨p, vs, rfl, .inl (SqL.of h1), flatV_of hf.1 (hx.flat hf.1), flats_of _ _ hf.2 h2, ?_⟩)
      rw [inV_py hf.1 (hx.flat hf.1) _ _ hf.2 h2, hn]
      exact q
    · split at h
      · rename_i hs
        rw [Bool.and_eq_true] at hs
        cases Option.some.inj h
        refine .inr (.inr (.inl ⟨_, _, hx.dp e (SeqAt.canLay_of_shaped hs.1), hy.dp e (SeqAt.canLay_of_shaped hs.2), hs.1, hs.2, ?_⟩))
        rw [inD_py]
        exact q
      · cases h
  · cases h
theorem Op2.sound {o : Op2} {x y d : D} (h : o.run x y = some d) (e : Ex G H) (hx : Rq K G H x a) (hy : Rq K G H y b) (k : ∀ v G' H', Pu G H G' H' → Rp K G' d v → Q v H') : o.rd K a b H Q := by
  have k0 : ∀ v, Rp K G d v → Q v H := fun v r => k v G H (Pu.refl e) r
  cases o with
  | add =>
    have h : addD x y = some d := h
    unfold addD at h
    split at h
    · cases Option.some.inj h
      exact .inl ⟨_, _, hx.int, hy.int, k0 _ rfl⟩
    · split at h
      · rename_i hz
        cases Option.some.inj h
        refine .inr (.inl ⟨_, _, hx.str, hy.str, by rw [S_len, S_len]; exact sz_line hz, k0 _ ?_⟩)
        rw [S_cat]
        rfl
      · cases h
    · split at h
      · rename_i hz
        cases Option.some.inj h
        obtain ⟨p, vs, rfl, p1, p2⟩ := hx.lst e
        obtain ⟨q, us, rfl, q1, q2⟩ := hy.lst e
        refine .inr (.inr (.inl ⟨p, q, vs, us, rfl, rfl, p1, q1, by rw [Rps.length _ _ p2, Rps.length _ _ q2]; exact sz_line hz, fun r hr => k _ _ _ (Pu.new e hr) ?_⟩))
        exact ⟨r, _, rfl, upd_same, Rps.mono (Ex.new (none_of_ex e hr)) _ _ (Rps.append _ _ _ _ p2 q2)⟩
      · cases h
    · split at h
      · rename_i hz
        cases Option.some.inj h
        obtain ⟨p, vs, rfl, p1, p2⟩ := hx.tup
        obtain ⟨q, us, rfl, q1, q2⟩ := hy.tup
        refine .inr (.inr (.inr ⟨p, q, vs, us, rfl, rfl, (p1.mono e).sq, (q1.mono e).sq, by rw [Rps.length _ _ p2, Rps.length _ _ q2]; exact sz_line hz, fun z => k0 _ ?_, fun _ z => k0 _ ?_, fun _ _ r o hr ho => k _ _ _ (Pu.new e hr) ?_⟩))
        · refine ⟨q, us, rfl, q1, ?_⟩
          subst z
          have e0 := List.eq_nil_of_length_eq_zero (Rps.length _ _ p2).symm
          rw [e0, List.nil_append]
          exact q2
        · refine ⟨p, vs, rfl, p1, ?_⟩
          subst z
          have e0 := List.eq_nil_of_length_eq_zero (Rps.length _ _ q2).symm
          rw [e0, List.append_nil]
          exact p2
        · exact ⟨r, _, rfl, .new ho, Rps.mono (Ex.new (none_of_ex e hr)) _ _ (Rps.append _ _ _ _ p2 q2)⟩
      · cases h
    · cases h
  | sub =>
    have h : i2 (fun a b => some (.int (a - b))) x y = some d := h
    unfold i2 at h
    split at h
    · cases Option.some.inj h
      exact ⟨_, _, hx.int, hy.int, k0 _ rfl⟩
    · cases h
  | mul =>
    have h : mulD x y = some d := h
    unfold mulD at h
    split at h
    · split at h
      · rename_i hz
        cases Option.some.inj h
        refine .inl ⟨_, _, hx.int, hy.int, ?_, k0 _ rfl⟩
        rw [Bool.or_eq_true, Bool.and_eq_true, Bool.and_eq_true] at hz
        rcases hz with hz | hz
        · exact .inl ⟨of_decide_eq_true hz.1, of_decide_eq_true hz.2⟩
        · exact .inr ⟨of_decide_eq_true hz.1, of_decide_eq_true hz.2⟩
      · cases h
    · split at h
      · rename_i hz
        cases Option.some.inj h
        refine .inr (.inl ⟨_, _, hx.str, hy.int, hz.1, hz.2.1, by rw [S_len]; exact hz.2.2.1, by rw [S_len]; exact hz.2.2.2, k0 _ ?_⟩)
        rw [mul_rep hz.1 hz.2.2.1]
        rfl
      · cases h
    · split at h
      · rename_i hz
        cases Option.some.inj h
        obtain ⟨p, vs, rfl, p1, p2⟩ := hx.lst e
        have hl := Rps.length _ _ p2
        refine .inr (.inr (.inl ⟨p, _, vs, rfl, hy.int, p1, by omega, by omega, ?_, fun r hr => k _ _ _ (Pu.new e hr) ?_⟩))
        · refine Nat.le_trans (Nat.mul_le_mul (by omega : vs.length ≤ 1000) (by omega : _ ≤ 1000)) (by decide)
        · refine ⟨r, _, rfl, upd_same, Rps.mono (Ex.new (none_of_ex e hr)) _ _ ?_⟩
          have : ∀ m : Nat, Rps K G (List.replicate m ‹List D›).flatten (List.replicate m vs).flatten := fun m => by
            induction m with
            | zero => exact rfl
            | succ m ih => rw [List.replicate_succ, List.replicate_succ, List.flatten_cons, List.flatten_cons]; exact Rps.append _ _ _ _ p2 ih
          exact this _
      · cases h
    · split at h
      · rename_i hz
        cases Option.some.inj h
        obtain ⟨p, vs, rfl, p1, p2⟩ := hx.tup
        have hl := Rps.length _ _ p2
        refine .inr (.inr (.inr ⟨p, _, vs, rfl, hy.int, (p1.mono e).sq, (fun z => hz.1 (List.eq_nil_of_length_eq_zero (by rw [← hl, z]; rfl))), hz.2.2.1, hz.2.1, by omega, fun z => ?_, fun _ r o hr ho => k _ _ _ (Pu.new e hr) ?_⟩))
        · subst z
          refine k0 _ ⟨p, vs, rfl, p1, ?_⟩
          simpa using p2
        · refine ⟨r, _, rfl, .new ho, Rps.mono (Ex.new (none_of_ex e hr)) _ _ ?_⟩
          have : ∀ m : Nat, Rps K G (List.replicate m ‹List D›).flatten (List.replicate m vs).flatten := fun m => by
            induction m with
            | zero => exact rfl
            | succ m ih => rw [List.replicate_succ, List.replicate_succ, List.flatten_cons, List.flatten_cons]; exact Rps.append _ _ _ _ p2 ih
          exact this _
      · cases h
    · cases h
  | fdiv =>
    have h : i2 (fun a b => if 0 < b ∧ b < 1073741824 then some (.int (a / b)) else none) x y = some d := h
    unfold i2 at h
    split at h
    · dsimp only at h
      split at h
      · rename_i hz
        cases Option.some.inj h
        exact ⟨_, _, hx.int, hy.int, hz, k0 _ rfl⟩
      · cases h
    · cases h
  | mod =>
    have h : i2 (fun a b => if 0 < b then some (.int (a % b)) else none) x y = some d := h
    unfold i2 at h
    split at h
    · dsimp only at h
      split at h
      · rename_i hz
        cases Option.some.inj h
        exact ⟨_, _, hx.int, hy.int, hz, k0 _ rfl⟩
      · cases h
    · cases h
  | pow =>
    have h : i2 (fun a b => if 0 ≤ b ∧ b ≤ 1000 ∧ a.natAbs < 2 ^ 64 then some (.int (a ^ b.toNat)) else none) x y = some d := h
    unfold i2 at h
    split at h
    · dsimp only at h
      split at h
      · rename_i hz
        cases Option.some.inj h
        exact ⟨_, _, hx.int, hy.int, ⟨hz.1, by omega, hz.2.2⟩, k0 _ rfl⟩
      · cases h
    · cases h
  | eq =>
    have h : (eqD x y).map D.bl = some d := h
    cases q : eqD x y with
    | none => rw [q] at h; cases h
    | some c =>
      rw [q] at h
      cases Option.some.inj h
      obtain ⟨d1, d2, h1, h2, h3, h4, h5⟩ := eq_sound q e hx hy
      exact ⟨d1, d2, h1, h2, h3, h4, by rw [h5]; exact k0 _ rfl⟩
  | ne =>
    have h : (eqD x y).map (fun b => D.bl (!b)) = some d := h
    cases q : eqD x y with
    | none => rw [q] at h; cases h
    | some c =>
      rw [q] at h
      cases Option.some.inj h
      obtain ⟨d1, d2, h1, h2, h3, h4, h5⟩ := eq_sound q e hx hy
      exact ⟨d1, d2, h1, h2, h3, h4, by rw [h5]; exact k0 _ rfl⟩
  | lt =>
    have h : ordD (fun a b => decide (a < b)) (fun a b => decide (a < b)) x y = some d := h
    unfold ordD at h
    split at h
    · cases Option.some.inj h
      exact .inl ⟨_, _, hx.int, hy.int, k0 _ rfl⟩
    · cases Option.some.inj h
      exact .inr ⟨_, _, hx.str, hy.str, k0 _ rfl⟩
    · cases h
  | le =>
    have h : ordD (fun a b => decide (a ≤ b)) (fun a b => !decide (b < a)) x y = some d := h
    unfold ordD at h
    split at h
    · cases Option.some.inj h
      exact .inl ⟨_, _, hx.int, hy.int, k0 _ rfl⟩
    · cases Option.some.inj h
      exact .inr ⟨_, _, hx.str, hy.str, k0 _ rfl⟩
    · cases h
  | gt =>
    have h : ordD (fun a b => decide (b < a)) (fun a b => decide (b < a)) x y = some d := h
    unfold ordD at h
    split at h
    · cases Option.some.inj h
      exact .inl ⟨_, _, hx.int, hy.int, k0 _ rfl⟩
    · cases Option.some.inj h
      exact .inr ⟨_, _, hx.str, hy.str, k0 _ rfl⟩
    · cases h
  | ge =>
    have h : ordD (fun a b => decide (b ≤ a)) (fun a b => !decide (a < b)) x y = some d := h
    unfold ordD at h
    split at h
    · cases Option.some.inj h
      exact .inl ⟨_, _, hx.int, hy.int, k0 _ rfl⟩
    · cases Option.some.inj h
      exact .inr ⟨_, _, hx.str, hy.str, k0 _ rfl⟩
    · cases h
  | inn =>
    have h : (memD x y).map D.bl = some d := h
    cases q : memD x y with
    | none => rw [q] at h; cases h
    | some c =>
      rw [q] at h
      cases Option.some.inj h
      rcases mem_sound (f := id) (neg := false) (fun t => rfl) q e hx hy (k0 _ rfl) with z | z | z
      · exact .inl z
      · exact .inr (.inl z)
      · exact .inr (.inr z)
  | nin =>
    have h : (memD x y).map (fun b => D.bl (!b)) = some d := h
    cases q : memD x y with
    | none => rw [q] at h; cases h
    | some c =>
      rw [q] at h
      cases Option.some.inj h
      rcases mem_sound (f := not) (neg := true) (fun t => rfl) q e hx hy (k0 _ rfl) with z | z | z
      · exact .inl z
      · exact .inr (.inl z)
      · exact .inr (.inr z)
  | isn =>
    have h : (if nonD y then some (D.bl (nonD x)) else none) = some d := h
    split at h
    · rename_i hn
      cases Option.some.inj h
      have ey := nonD_rp hy
      rw [hn] at ey
      refine ⟨of_decide_eq_true ey, ?_⟩
      rw [nonD_rp hx]
      exact k0 _ rfl
    · cases h
  | nsn =>
    have h : (if nonD y then some (D.bl (!nonD x)) else none) = some d := h
    split at h
    · rename_i hn
      cases Option.some.inj h
      have ey := nonD_rp hy
      rw [hn] at ey
      refine ⟨of_decide_eq_true ey, ?_⟩
      rw [nonD_rp hx]
      exact k0 _ rfl
    · cases h
  | idx =>
    have h : idxD x y = some d := h
    unfold idxD at h
    split at h
    · split at h
      · rename_i hd
        obtain ⟨p, kr, vs, rfl, h1, h2, h3⟩ := hx.dct e
        have hr : Rp K G y b := hy.rp ⟨(fun ds z => by rw [z] at hd; unfold dkOk at hd; simp [isF, isT] at hd), fun ks ds z => by rw [z] at hd; unfold dkOk at hd; simp [isF, isT] at hd⟩
        obtain ⟨n, hn, e2⟩ := Option.bind_eq_some_iff.mp h
        obtain ⟨v, e3, r3⟩ := Rps.get _ _ _ _ h3 e2
        exact .inr ⟨v, ⟨p, _, kr, vs, y, rfl, h1, Rps.mono e _ _ h2, Rp.mono e _ _ hr, hd, by rw [hn]; exact e3.symm⟩, k0 _ r3⟩
      · cases h
    · split at h
      · split at h
        · obtain ⟨p, vs, rfl, p1, p2⟩ := hx.lst e
          obtain ⟨v, e1, e2⟩ := ix_rp p2 h
          exact .inl (.inl ⟨p, vs, _, v, rfl, hy.int, SqL.of p1, e1, k0 _ e2⟩)
        · obtain ⟨p, vs, rfl, p1, p2⟩ := hx.tup
          obtain ⟨v, e1, e2⟩ := ix_rp p2 h
          exact .inl (.inr (.inl ⟨p, vs, _, v, rfl, hy.int, (p1.mono e).sq, e1, k0 _ e2⟩))
        · obtain ⟨p, vs, rfl, p1, p2⟩ := hx.fls
          obtain ⟨v, e1, e2⟩ := ix_rp p2 h
          exact .inl (.inl ⟨p, vs, _, v, rfl, hy.int, ex_l e p1, e1, k0 _ e2⟩)
        · split at h
          · rename_i hz
            cases q : atI ‹List Nat› ‹Int› with
            | none => rw [q] at h; cases h
            | some c =>
              rw [q] at h
              cases Option.some.inj h
              exact .inl (.inr (.inr ⟨_, _, c, hx.str, hy.int, by rw [S_len]; exact sz_line hz, q, k0 _ rfl⟩))
          · cases h
        · cases h
      · cases h
end
end Mq
/-! A small language over HandS, 3a: texts and whole numbers put in order. -/
namespace Mq
open PySem L2 Evl PyProof.Rows
open SX (S S_len S_cat S_inj)
def strsD : List D → Option (List (List Nat))
  | [] => some []
  | .str l :: r => (strsD r).map (l :: ·)
  | _ :: _ => none
/-- a text before the first that is greater -/
def insL (x : List Nat) : List (List Nat) → List (List Nat)
  | [] => [x]
  | y :: r => if Spec.ltCps y x = true then y :: insL x r else x :: y :: r
def srtL : List (List Nat) → List (List Nat)
  | [] => []
  | x :: r => insL x (srtL r)
def insI (x : Int) : List Int → List Int
  | [] => [x]
  | y :: r => if y < x then y :: insI x r else x :: y :: r
def srtI : List Int → List Int
  | [] => []
  | x :: r => insI x (srtI r)
theorem insL_perm (x : List Nat) : ∀ l : List (List Nat), (insL x l).Perm (x :: l)
  | [] => .refl _
  | y :: r => by
    unfold insL
    split
    · exact ((insL_perm x r).cons y).trans (.swap x y r)
    · exact .refl _
theorem srtL_perm : ∀ l : List (List Nat), (srtL l).Perm l
  | [] => .refl _
  | x :: r => (insL_perm x _).trans ((srtL_perm r).cons x)
theorem insI_perm (x : Int) : ∀ l : List Int, (insI x l).Perm (x :: l)
  | [] => .refl _
  | y :: r => by
    unfold insI
    split
    · exact ((insI_perm x r).cons y).trans (.swap x y r)
    · exact .refl _
theorem srtI_perm : ∀ l : List Int, (srtI l).Perm l
  | [] => .refl _
  | x :: r => (insI_perm x _).trans ((srtI_perm r).cons x)
theorem lt_iff {a b : List Nat} : Spec.ltCps a b = true ↔ a < b := by rw [ltCps_eq, decide_eq_true_iff]
theorem lt_iff0 {a b : List Nat} : Spec.ltCps a b = false ↔ b ≤ a := by
  rw [ltCps_eq, decide_eq_false_iff_not]
  exact Iff.rfl
theorem le_tr {a b c : List Nat} (h1 : a ≤ b) (h2 : b ≤ c) : a ≤ c := List.le_trans h1 h2
theorem le_anti {a b : List Nat} (h1 : a ≤ b) (h2 : b ≤ a) : a = b := List.le_antisymm h1 h2
theorem le_of {a b : List Nat} (h : a < b) : a ≤ b := List.le_of_lt h
theorem insL_pw (x : List Nat) : ∀ l : List (List Nat), l.Pairwise (· ≤ ·) → (insL x l).Pairwise (· ≤ ·)
  | [], _ => List.pairwise_singleton _ _
  | y :: r, h => by
    obtain ⟨h1, h2⟩ := List.pairwise_cons.mp h
    unfold insL
    split
    · rename_i q
      refine List.pairwise_cons.mpr ⟨fun z hz => ?_, insL_pw x r h2⟩
      rcases List.mem_cons.mp ((insL_perm x r).subset hz) with e | e
      · rw [e]; exact le_of (lt_iff.mp q)
      · exact h1 z e
    · rename_i q
      have q := lt_iff0.mp (by simpa using q)
      refine List.pairwise_cons.mpr ⟨fun z hz => ?_, h⟩
      rcases List.mem_cons.mp hz with e | e
      · rw [e]; exact q
      · exact le_tr q (h1 z e)
theorem srtL_pw : ∀ l : List (List Nat), (srtL l).Pairwise (· ≤ ·)
  | [] => .nil
  | x :: r => insL_pw x _ (srtL_pw r)
theorem insI_pw (x : Int) : ∀ l : List Int, l.Pairwise (· ≤ ·) → (insI x l).Pairwise (· ≤ ·)
  | [], _ => List.pairwise_singleton _ _
  | y :: r, h => by
    obtain ⟨h1, h2⟩ := List.pairwise_cons.mp h
    unfold insI
    split
    · rename_i q
      refine List.pairwise_cons.mpr ⟨fun z hz => ?_, insI_pw x r h2⟩
      rcases List.mem_cons.mp ((insI_perm x r).subset hz) with e | e
      · rw [e]; exact Int.le_of_lt q
      · exact h1 z e
    · rename_i q
      refine List.pairwise_cons.mpr ⟨fun z hz => ?_, h⟩
      rcases List.mem_cons.mp hz with e | e
      · rw [e]; omega
      · have := h1 z e; omega
theorem srtI_pw : ∀ l : List Int, (srtI l).Pairwise (· ≤ ·)
  | [] => .nil
  | x :: r => insI_pw x _ (srtI_pw r)
theorem srtI_of {ys ns : List Int} (hp : ys.Perm ns) (h : ys.Pairwise (· ≤ ·)) : ys = srtI ns :=
  List.Perm.eq_of_pairwise (le := (· ≤ ·)) (fun a b _ _ h1 h2 => Int.le_antisymm h1 h2) h (srtI_pw ns) (hp.trans (srtI_perm ns).symm)
theorem rising_pw : ∀ (p : Str) (l : List Str), risingS p l = true → ((p :: l).map (·.cps.toList)).Pairwise (· ≤ ·)
  | p, [], _ => List.pairwise_singleton _ _
  | p, x :: r, h => by
    unfold risingS at h
    rw [Bool.and_eq_true, Bool.not_eq_true'] at h
    have q := lt_iff0.mp h.1
    have ih := rising_pw x r h.2
    refine List.pairwise_cons.mpr ⟨fun z hz => ?_, ih⟩
    rw [List.map_cons] at hz ih
    obtain ⟨h1, _⟩ := List.pairwise_cons.mp ih
    rcases List.mem_cons.mp hz with e | e
    · rw [e]; exact q
    · exact le_tr q (h1 z e)
theorem sorted_pw {l : List Str} (h : sortedS l = true) : (l.map (·.cps.toList)).Pairwise (· ≤ ·) := by
  cases l with
  | nil => exact .nil
  | cons x r => exact rising_pw x r h
/-- what sorted gives of texts -/
theorem srtL_of {ys : List Str} {ls : List (List Nat)} (hp : ys.Perm (ls.map S)) (h : sortedS ys = true) : ys = (srtL ls).map S := by
  have e1 : ys.map (·.cps.toList) = srtL ls := by
    refine List.Perm.eq_of_pairwise (le := (· ≤ ·)) (fun a b _ _ h1 h2 => le_anti h1 h2) (sorted_pw h) (srtL_pw ls) ?_
    have q := hp.map (·.cps.toList)
    rw [List.map_map] at q
    have e : (ls.map ((fun x : Str => x.cps.toList) ∘ S)) = ls := by
      rw [show ((fun x : Str => x.cps.toList) ∘ S) = id from by funext l; simp [S], List.map_id]
    rw [e] at q
    exact q.trans (srtL_perm ls).symm
  rw [← e1, List.map_map]
  have e : (S ∘ fun x : Str => x.cps.toList) = id := by funext x; exact SX.S_tl x
  rw [e, List.map_id]
end Mq
/-! A small language over HandS: sorted of tuples. -/
namespace L2
open PySem PySem.Spec PyProof.Rows PySem.Calls
open PySem.W (AllAlike Sortable dataLe EachIs)
def rSortT (K : PySem.W.Frag) (xs : List V) (H : Hp) (Q : VK) : Prop := ∃ p us ds, xs = [.ref p] ∧ SqL K H p us ∧ DpAll K H us ds ∧ ds.length = us.length ∧ AllAlike ds ∧ Sortable ds ∧ (∀ d, d ∈ ds → d.depth ≤ 61) ∧ ∀ l, H l = none → Q (.ref l) (upd H l (.lst (skOut us ds)))
theorem call_sortedT {X : Cx} (hu : X.A.units + 64 < cLine) : CallR X (.builtin "sorted") (rSortT X.K) := by
  intro pins s σ H vs us Q I r h
  obtain ⟨p, ws, ds, rfl, hs, hd, hl, hal, hsk, hdp, q⟩ := h
  obtain ⟨its, rv, hL, hz⟩ := I.list hs
  rw [Vals.ref1 r]
  have hlen := rv.length
  have ez : (ws.zip ds).map Prod.snd = ds := List.map_snd_zip (by omega)
  obtain ⟨as, hr⟩ := Dp.readsAll I ds ws its hd rv
  refine PySem.W.sorted_data (bs := ws.zip ds) (enc := Prod.snd) hL.isList (each_vals rv hl.symm) (PySem.W.readsAll_each Prod.snd (by rw [ez]; exact hr)) (by rw [ez]; exact hal) (by rw [ez]; exact hsk) (by rw [List.length_zip, hl, Nat.min_self]; exact hz) (fun b hb => ?_) fun out ho eo => ?_
  · have := hdp b.2 (List.of_mem_zip hb).2
    omega
  · obtain ⟨ep, he'⟩ := sortedAll_at s.heap its out.toArray
    have hz2 : (skOut ws ds).length ≤ sizeLine := by
      unfold skOut
      rw [List.length_map, List.length_mergeSort, List.length_zip, hl, Nat.min_self]
      exact hz
    exact ⟨.ref _, upd H (s.heap.objs.size + 1) (.lst (skOut ws ds)), I.laid (t' := s.toks) (fun _ _ => sortedAll_old) (Nat.le_succ _) ⟨hz2, out, ep, vals_each eo, he'⟩, rfl, q _ (I.hok.fresh (Nat.le_succ _))⟩
end L2
namespace Mq
open PySem L2 Evl
def skSort (ds ks : List D) : List D := ((ds.zip ks).mergeSort (PySem.W.dataLe false fun p : D × D => p.2.py)).map Prod.fst
section
variable {G H : Hp}
theorem sk_sorted {K : Kx} {ds ks : List D} {us : List V} (hl : ks.length = ds.length) (r : Rps K G ds us) : Rps K G (skSort ds ks) (skOut us (ks.map D.py)) := by
  have hu := Rps.length _ _ r
  have gen : ∀ (l : List ((D × V) × D)), (∀ p ∈ l, Rp K G p.1.1 p.1.2) → Rps K G (l.map fun p => p.1.1) (l.map fun p => p.1.2) := by
    intro l
    induction l with
    | nil => intro _; rfl
    | cons p l ih => intro h; exact ⟨_, _, rfl, h p List.mem_cons_self, ih fun q hq => h q (List.mem_cons_of_mem _ hq)⟩
  have base : ∀ (ds : List D) (us : List V), Rps K G ds us → ∀ p ∈ ds.zip us, Rp K G p.1 p.2 := by
    intro ds
    induction ds with
    | nil => intro us _ p hp; simp at hp
    | cons d ds ih =>
      intro us h p hp
      obtain ⟨v, us', rfl, h1, h2⟩ := h
      rcases List.mem_cons.mp hp with rfl | hp
      · exact h1
      · exact ih us' h2 p hp
  have e1 : ((ds.zip us).zip ks).map (fun p => (p.1.1, p.2)) = ds.zip ks := by
    have h3 : (ds.zip us).map Prod.fst = ds := List.map_fst_zip (by omega)
    conv => rhs; rw [← h3]
    rw [List.zip_map_left]
    rfl
  have e2 : ((ds.zip us).zip ks).map (fun p => (p.1.2, p.2.py)) = us.zip (ks.map D.py) := by
    have h3 : (ds.zip us).map Prod.snd = us := List.map_snd_zip (by omega)
    conv => rhs; rw [← h3]
    rw [List.zip_map]
    rfl
  have m1 := List.map_mergeSort (r := fun a b : (D × V) × D => PySem.W.dataLe false (fun p : D × D => p.2.py) (a.1.1, a.2) (b.1.1, b.2)) (s := PySem.W.dataLe false fun p : D × D => p.2.py) (f := fun p : (D × V) × D => (p.1.1, p.2)) (l := (ds.zip us).zip ks) (fun _ _ _ _ => rfl)
  have m2 := List.map_mergeSort (r := fun a b : (D × V) × D => PySem.W.dataLe false (fun p : D × D => p.2.py) (a.1.1, a.2) (b.1.1, b.2)) (s := PySem.W.dataLe false (Prod.snd : V × PyData → PyData)) (f := fun p : (D × V) × D => (p.1.2, p.2.py)) (l := (ds.zip us).zip ks) (fun _ _ _ _ => rfl)
  rw [e1] at m1
  rw [e2] at m2
  unfold skSort skOut
  rw [← m1, ← m2, List.map_map, List.map_map]
  refine gen _ fun p hp => ?_
  have hp2 := List.mem_mergeSort.mp hp
  exact base ds us r p.1 (List.of_mem_zip hp2).1
/-- tuples that may be sorted -/
def tupsOk (ds : List D) : Bool := ((ds.all shp && ds.all fun a => ds.all fun b => PySem.W.alike a.py b.py) && ds.all fun d => match d with | .tup (_ :: _) => true | _ => false) && ds.all fun d => decide (d.py.depth ≤ 61)
theorem tupsOk_of {K : Kx} {p : Addr} {ds : List D} {us : List V} {Q : VK} (h : tupsOk ds = true) (e : Ex G H) (r : Rps K G ds us) (hs : SqL K.K H p us) (q : ∀ l, H l = none → Q (.ref l) (upd H l (.lst (skOut us (ds.map D.py))))) : rSortT K.K [.ref p] H Q := by
  unfold tupsOk at h
  rw [Bool.and_eq_true, Bool.and_eq_true, Bool.and_eq_true] at h
  obtain ⟨⟨⟨h1, h2⟩, h3⟩, h4⟩ := h
  have sh : ∀ k ∈ ds, shp k = true := fun k hk => List.all_eq_true.mp h1 k hk
  have cl : ∀ l : List D, (∀ k ∈ l, shp k = true) → PyData.canLayAll0 (D.pys l) = true := by
    intro l
    induction l with
    | nil => intro _; rfl
    | cons k l ih =>
      intro h
      show (k.py.canLay0 && PyData.canLayAll0 (D.pys l)) = true
      rw [SeqAt.canLay_of_shaped (h k List.mem_cons_self), ih fun x hx => h x (List.mem_cons_of_mem _ hx)]
      rfl
  refine ⟨p, us, ds.map D.py, rfl, hs, ?_, by rw [List.length_map]; exact (Rps.length _ _ r).symm, fun d hd d' hd' => ?_, .inl fun d hd => ?_, fun d hd => ?_, q⟩
  · rw [← pys_map]
    exact Rps.dp ds us (cl ds sh) (Rps.mono e _ _ r)
  · obtain ⟨k, hk, rfl⟩ := List.mem_map.mp hd
    obtain ⟨k', hk', rfl⟩ := List.mem_map.mp hd'
    exact List.all_eq_true.mp (List.all_eq_true.mp h2 k hk) k' hk'
  · obtain ⟨k, hk, rfl⟩ := List.mem_map.mp hd
    have := List.all_eq_true.mp h3 k hk
    cases k with
    | tup l =>
      cases l with
      | nil => cases this
      | cons a r => exact ⟨a.py, D.pys r, rfl⟩
    | _ => cases this
  · obtain ⟨k, hk, rfl⟩ := List.mem_map.mp hd
    exact of_decide_eq_true (List.all_eq_true.mp h4 k hk)
end
end Mq
/-! A mini language over HandS, 3: built-in functions, methods of texts, slices. -/
namespace Mq
open PySem L2 Evl
open SX (S S_len S_cat S_inj)

/-! ### one sign in a text: first place, last place, how often -/
def firstIx (c : Nat) : List Nat → Option Nat
  | [] => none
  | x :: r => if x = c then some 0 else (firstIx c r).map (· + 1)
def lastIx (c : Nat) : List Nat → Option Nat
  | [] => none
  | x :: r => match lastIx c r with
    | some i => some (i + 1)
    | none => if x = c then some 0 else none
theorem firstIx_none {c : Nat} : ∀ {l : List Nat}, firstIx c l = none ↔ c ∉ l
  | [] => by simp [firstIx]
  | x :: r => by
    unfold firstIx
    by_cases h : x = c
    · simp [h]
    · have ih := @firstIx_none c r
      simp only [h, if_false, Option.map_eq_none_iff, ih, List.mem_cons, not_or]
      exact ⟨fun z => ⟨fun e => h e.symm, z⟩, fun z => z.2⟩
theorem firstIx_some {c : Nat} : ∀ {l : List Nat} {i : Nat}, firstIx c l = some i ↔ (l[i]? = some c ∧ ∀ k, k < i → l[k]? ≠ some c)
  | [], i => by simp [firstIx]
  | x :: r, i => by
    unfold firstIx
    by_cases h : x = c
    · subst h
      rw [if_pos rfl]
      constructor
      · intro e; cases e; exact ⟨rfl, fun k hk => absurd hk (Nat.not_lt_zero _)⟩
      · rintro ⟨h1, h2⟩
        cases i with
        | zero => rfl
        | succ i => exact absurd rfl (h2 0 (Nat.succ_pos _))
    · rw [if_neg h]
      cases i with
      | zero =>
        constructor
        · intro e
          cases q : firstIx c r with
          | none => rw [q] at e; cases e
          | some k => rw [q] at e; cases e
        · rintro ⟨h1, _⟩
          exact absurd (Option.some.inj h1) h
      | succ i =>
        have ih := @firstIx_some c r i
        constructor
        · intro e
          have e2 : firstIx c r = some i := by
            cases q : firstIx c r with
            | none => rw [q] at e; cases e
            | some k =>
              rw [q] at e
              have e3 : k + 1 = i + 1 := Option.some.inj e
              rw [Nat.succ.inj e3]
          obtain ⟨a, b⟩ := ih.mp e2
          refine ⟨a, fun k hk => ?_⟩
          cases k with
          | zero => exact fun z => h (Option.some.inj z)
          | succ k => exact b k (by omega)
        · rintro ⟨a, b⟩
          rw [ih.mpr ⟨a, fun k hk => b (k + 1) (by omega)⟩]
          rfl
theorem lastIx_none {c : Nat} : ∀ {l : List Nat}, lastIx c l = none ↔ c ∉ l
  | [] => by simp [lastIx]
  | x :: r => by
    have ih := @lastIx_none c r
    unfold lastIx
    cases q : lastIx c r with
    | some i =>
      simp only [List.mem_cons, not_or]
      constructor
      · intro z; cases z
      · rintro ⟨_, z⟩; rw [ih.mpr z] at q; cases q
    | none =>
      have h := ih.mp q
      by_cases e : x = c
      · simp [e]
      · simp only [e, if_false, List.mem_cons, not_or, true_iff]
        exact ⟨fun z => e z.symm, h⟩
theorem lastIx_some {c : Nat} : ∀ {l : List Nat} {i : Nat}, lastIx c l = some i → (l[i]? = some c ∧ ∀ k, i < k → l[k]? ≠ some c)
  | [], i, h => by cases h
  | x :: r, i, h => by
    unfold lastIx at h
    cases q : lastIx c r with
    | some j =>
      rw [q] at h
      have e := Option.some.inj h
      subst e
      obtain ⟨a, b⟩ := lastIx_some q
      refine ⟨a, fun k hk => ?_⟩
      cases k with
      | zero => omega
      | succ k => exact b k (by omega)
    | none =>
      rw [q] at h
      have hn := lastIx_none.mp q
      by_cases e : x = c
      · simp only [e, if_true] at h
        have e2 := Option.some.inj h
        subst e2
        refine ⟨by rw [e]; rfl, fun k hk => ?_⟩
        cases k with
        | zero => omega
        | succ k => exact fun z => hn (List.mem_of_getElem? z)
      · simp only [e, if_false] at h
        cases h
theorem at_one {l : List Nat} {c i : Nat} : StrLaws.At (S l) ⟨#[c]⟩ (S l).length i ↔ l[i]? = some c := StrLaws.subAt_one (S l) c i
theorem count_chain {l : List Nat} {c : Nat} : ∀ (cuts : List Nat) (a f : Nat), StrLaws.ChainG (S l) ⟨#[c]⟩ (S l).length a cuts f → (∀ k, f ≤ k → ¬ StrLaws.At (S l) ⟨#[c]⟩ (S l).length k) → (l.drop a).count c = cuts.length
  | [], a, f, h, hn => by
    have e : f = a := h
    subst e
    refine List.count_eq_zero.mpr fun hm => ?_
    obtain ⟨j, hj⟩ := List.getElem?_of_mem hm
    rw [List.getElem?_drop] at hj
    exact hn _ (Nat.le_add_right _ j) (at_one.mpr hj)
  | k :: r, a, f, h, hn => by
    obtain ⟨h1, h2, h3, h4⟩ := h
    have ih := count_chain r (k + 1) f h4 hn
    have hk := at_one.mp h2
    obtain ⟨hlt, hval⟩ := List.getElem?_eq_some_iff.mp hk
    have e1 : l.drop a = (l.drop a).take (k - a) ++ l.drop k := by
      conv => lhs; rw [← List.take_append_drop (k - a) (l.drop a)]
      rw [List.drop_drop]
      congr 2
      omega
    have e2 : l.drop k = c :: l.drop (k + 1) := by rw [List.drop_eq_getElem_cons hlt, hval]
    have e3 : ((l.drop a).take (k - a)).count c = 0 := by
      refine List.count_eq_zero.mpr fun hm => ?_
      obtain ⟨j, hj⟩ := List.getElem?_of_mem hm
      have hj2 : j < k - a := by
        have := (List.getElem?_eq_some_iff.mp hj).1
        rw [List.length_take] at this
        omega
      rw [List.getElem?_take_of_lt hj2, List.getElem?_drop] at hj
      exact h3 (a + j) (by omega) (by omega) (at_one.mpr hj)
    rw [e1, List.count_append, e3, e2, List.count_cons_self, ih]
    simp
theorem count_S (l : List Nat) (c : Nat) : Txt.count (S l) (S [c]) = ((l.count c : Nat) : Int) := by
  obtain ⟨f, h1, h2⟩ := StrLaws.occ_tight (S l) ⟨#[c]⟩ (Nat.le_refl 1)
  have := count_chain _ _ _ h1 h2
  show (((Builtin.Str.occurrences (S l) ⟨#[c]⟩ 0 (S l).length ((S l).length + 1)).length : Nat) : Int) = _
  rw [← this]
  rfl
def ixI : Option Nat → Int
  | some i => (i : Int)
  | none => -1
theorem rfind_S (l : List Nat) (c : Nat) : Txt.rfind (S l) (S [c]) = ixI (lastIx c l) := by
  unfold Txt.rfind
  rcases StrLaws.last_spec (S l) ⟨#[c]⟩ with ⟨h1, h2⟩ | ⟨i, h1, h2, h3⟩
  · rw [show Builtin.Str.lastOccurrence (S l) (S [c]) 0 (S l).length = none from h1]
    have : lastIx c l = none := lastIx_none.mpr fun hm => by
      obtain ⟨j, hj⟩ := List.getElem?_of_mem hm
      exact h2 j (at_one.mpr hj)
    rw [this]
    rfl
  · rw [show Builtin.Str.lastOccurrence (S l) (S [c]) 0 (S l).length = some i from h1]
    cases q : lastIx c l with
    | none => exact absurd (List.mem_of_getElem? (at_one.mp h2)) (lastIx_none.mp q)
    | some j =>
      obtain ⟨a, b⟩ := lastIx_some q
      have e : j = i := by
        rcases Nat.lt_trichotomy i j with z | z | z
        · exact absurd (at_one.mpr a) (h3 j z)
        · exact z.symm
        · exact absurd (at_one.mp h2) (b i z)
      subst e
      rfl
/-- the first c from i on -/
def findFrom (l : List Nat) (c i : Nat) : Int := ixI ((firstIx c (l.drop i)).map (· + i))
theorem find3_S (l : List Nat) (c i : Nat) : Txt.find3 (S l) (S [c]) (i : Int) = findFrom l c i := by
  have hfi : fromIndex (S l).length (i : Int) = i := by
    unfold fromIndex
    rw [if_neg (by omega)]
    omega
  have gd : ∀ v : Nat, (S l).cps.getD v 0 = l.getD v 0 := fun v => by simp [Array.getD, List.getD]; split <;> simp_all
  have hlen : (S l).length = l.length := S_len l
  rcases StrLaws.find3_spec (S l) c (i : Int) with ⟨h1, h2⟩ | ⟨k, h1, h2, h3, h4, h5⟩
  · rw [show Txt.find3 (S l) (S [c]) (i : Int) = -1 from h1]
    rw [hfi] at h2
    have : firstIx c (l.drop i) = none := firstIx_none.mpr fun hm => by
      obtain ⟨j, hj⟩ := List.getElem?_of_mem hm
      rw [List.getElem?_drop] at hj
      obtain ⟨hlt, hv⟩ := List.getElem?_eq_some_iff.mp hj
      exact h2 (i + j) (by omega) (by omega) (by rw [gd, List.getD_eq_getElem?_getD, hj]; rfl)
    unfold findFrom
    rw [this]
    rfl
  · rw [show Txt.find3 (S l) (S [c]) (i : Int) = (k : Int) from h1]
    rw [hfi] at h2 h5
    rw [hlen] at h3
    have hk : l[k]? = some c := by
      rw [gd, List.getD_eq_getElem?_getD, List.getElem?_eq_getElem h3] at h4
      rw [List.getElem?_eq_getElem h3]
      exact congrArg some h4
    have : firstIx c (l.drop i) = some (k - i) := firstIx_some.mpr ⟨by rw [List.getElem?_drop, show i + (k - i) = k by omega]; exact hk, fun m hm z => by
      rw [List.getElem?_drop] at z
      exact h5 (i + m) (by omega) (by omega) (by rw [gd, List.getD_eq_getElem?_getD, z]; rfl)⟩
    unfold findFrom
    rw [this]
    show (k : Int) = ((k - i + i : Nat) : Int)
    omega

/-! ### built-in functions -/
inductive Bif where
  | len | int | str | tuple | list | ord | min2 | max2 | isi | abs | sum | any | all | sorted
  deriving DecidableEq, Repr
def lenD : D → Option Nat
  | .str l => if l.length ≤ 16777216 then some l.length else none
  | .lst ds => some ds.length
  | .tup ds => some ds.length
  | .fls ds => some ds.length
  | .dct ks _ => if ks.all isF = true then some ks.length else none
  | _ => none
def isDig (c : Nat) : Bool := decide (48 ≤ c) && decide (c ≤ 57)
/-- the text of a whole number -/
def strI (i : Int) : List Nat := (Str.ofString (toString i)).cps.toList
def tyName : D → Option String
  | .non => some "NoneType"
  | .bl _ => some "bool"
  | .int _ => some "int"
  | .str _ => some "str"
  | .lst _ => some "list"
  | .fls _ => some "list"
  | .tup _ => some "tuple"
  | .ty _ => none
  | .fn _ => none
  | .dct ks _ => if ks.all isF = true then some "dict" else none
def subTy (a b : String) : Option Bool :=
  if a == b then some true else if a == "bool" && b == "int" then some true else
  if ["NoneType", "bool", "int", "str", "list", "tuple", "dict"].contains a && ["bool", "int", "str", "list", "tuple", "dict"].contains b then some false else none
def anyTy (a : String) : List D → Option Bool
  | [] => some false
  | .ty b :: r => match subTy a b, anyTy a r with
    | some t, some u => some (t || u)
    | _, _ => none
  | _ :: _ => none
def isiD (x c : D) : Option Bool :=
  match tyName x with
  | none => none
  | some a => match c with
    | .ty b => subTy a b
    | .tup cs => anyTy a cs
    | _ => none
def intL : List D → Option (List Int)
  | [] => some []
  | .int i :: r => (intL r).map (i :: ·)
  | _ :: _ => none
def intsD : D → Option (List Int)
  | .lst ds => intL ds
  | .fls ds => intL ds
  | _ => none
def blL : List D → Option (List Bool)
  | [] => some []
  | .bl b :: r => (blL r).map (b :: ·)
  | _ :: _ => none
def blsD : D → Option (List Bool)
  | .lst ds => blL ds
  | _ => none
/-- the texts of a list, or the keys of a dict -/
def txtsD : D → Option (List (List Nat))
  | .lst ds => strsD ds
  | .fls ds => strsD ds
  | .dct ks _ => strsD ks
  | _ => none
def sortD (x : D) : Option D := match txtsD x with
  | some ls => if ls.length < 64 then some (.lst ((srtL ls).map .str)) else none
  | none => match intsD x with
    | some ns => some (.lst ((srtI ns).map .int))
    | none => match x with
      | .lst ds => if tupsOk ds = true then some (.lst (skSort ds ds)) else none
      | _ => none
def Bif.run : Bif → List D → Option D
  | .sorted, [x] => sortD x
  | .len, [x] => (lenD x).map fun n => .int n
  | .int, [x] => match x with
    | .int i => some (.int i)
    | .bl b => some (.int (if b then 1 else 0))
    | .str l => if l.all isDig && !l.isEmpty && decide (l.length ≤ 640) then some (.int (NumText.digitsVal l : Nat)) else none
    | _ => none
  | .str, [x] => match x with
    | .int i => if i.natAbs.log2 < 1920 then some (.str (strI i)) else none
    | .str l => some (.str l)
    | .non => some (.str [78, 111, 110, 101])
    | _ => none
  | .tuple, [x] => match x with
    | .lst ds => some (.tup ds)
    | .tup ds => some (.tup ds)
    | .fls ds => some (.tup ds)
    | _ => none
  | .list, [x] => match x with
    | .lst ds => some (.lst ds)
    | .tup ds => some (.lst ds)
    | .fls ds => some (.lst ds)
    | .dct ks _ => if ks.all isF = true then some (.lst ks) else none
    | _ => none
  | .ord, [x] => match x with
    | .str [c] => some (.int c)
    | _ => none
  | .min2, [x, y] => i2 (fun i j => some (.int (if j < i then j else i))) x y
  | .max2, [x, y] => i2 (fun i j => some (.int (if j > i then j else i))) x y
  | .abs, [x] => match x with
    | .int i => some (.int (if i < 0 then -i else i))
    | _ => none
  | .isi, [x, c] => (isiD x c).map .bl
  | .sum, [x] => (intsD x).map fun ns => .int ns.sum
  | .any, [x] => (blsD x).map fun bs => .bl (bs.any id)
  | .all, [x] => (blsD x).map fun bs => .bl (bs.all id)
  | .min2, [x] => (intsD x).bind fun ns => ns.min?.map .int
  | .max2, [x] => (intsD x).bind fun ns => ns.max?.map .int
  | _, _ => none
abbrev RB := List V → Hp → VK → Prop
def bOr (r r' : RB) : RB := fun xs H Q => r xs H Q ∨ r' xs H Q
/-- isinstance(x, (c1, c2, ..)) -/
def rIsiS (K : PySem.W.Frag) : RB := fun xs H Q => ∃ (x : V) (tp : Addr) (cs : List V) (t : Value) (us : List Value) (b : Bool), xs = [x, .ref tp] ∧ SqT K H tp cs ∧ Paired ClsV cs us ∧ TyX K H x t ∧ PySem.W.kitAny K t us = some b ∧ Q (.bl b) H
theorem call_isiS {X : Cx} : CallR X (.builtin "isinstance") (rIsiS X.K) := by
  intro pins s σ H xs us Q I r h
  obtain ⟨x, tp, cs, t, ws, b, rfl, hT, k, ty, e, q⟩ := h
  obtain ⟨u1, u2, rfl, r1, r2⟩ := vals2 r
  cases (show u2 = Value.ref tp from r2)
  obtain ⟨P, Z, p, hx⟩ := kit_of I r1 ty
  obtain ⟨its, rv, ⟨o, h1, h2, n, h3⟩, _⟩ := I.tuple hT
  have e3 := ClsV.all k rv
  subst e3
  obtain ⟨oc, od, dt, sl⟩ := o
  simp only at h2 h3
  subst h2 h3
  exact PySem.W.kia_tup Z I.kIn p h1 e hx fun tk => ⟨.bl b, H, I.tok tk, rfl, q⟩
/-- sorted(d), all keys texts -/
def rSortDk : RB := fun xs H Q => ∃ (a : Addr) (kvs : List (Key × V)) (ks : List Str), xs = [.ref a] ∧ Rd H a (.dK kvs) ∧ kvs.map (·.1) = ks.map Sum.inr ∧ ks.length < 64 ∧
  ∀ ys p, ys.Perm ks → PyProof.Rows.sortedS ys = true → H p = none → Q (.ref p) (upd H p (.lst (ys.map V.str)))
def Bif.rd (K : Kx) : Bif → RB
  | .len => bOr (fun xs H Q => ∃ x n, xs = [x] ∧ LenV K.K x H n ∧ Q (.int n) H) (fun xs H Q => ∃ a kvs, xs = [V.ref a] ∧ Rd H a (.dK kvs) ∧ Q (.int kvs.length) H)
  | .int => bOr (fun xs H Q => (∃ i, xs = [.int i] ∧ Q (.int i) H) ∨ ∃ k, xs = [.bl k] ∧ Q (.int (if k then 1 else 0)) H) (fun xs H Q => ∃ a n, xs = [.str a] ∧ PySem.intText? a = some n ∧ a.length ≤ 640 ∧ Q (.int n) H)
  | .str => bOr (fun xs H Q => ∃ i, xs = [.int i] ∧ i.natAbs.log2 < 1920 ∧ Q (.str (toString i)) H) (bOr (fun xs H Q => ∃ a, xs = [.str a] ∧ Q (.str a) H) (fun xs H Q => xs = [.non] ∧ Q (.str "None") H))
  | .tuple => rTupleF K.K
  | .list => bOr (fun xs H Q => ∃ p ys, xs = [.ref p] ∧ (SqL K.K H p ys ∨ SqT K.K H p ys) ∧ ∀ l, H l = none → Q (.ref l) (upd H l (.lst ys))) (fun xs H Q => ∃ (a : Addr) (kvs : List (Key × V)), xs = [.ref a] ∧ Rd H a (.dK kvs) ∧ ∀ p, H p = none → Q (.ref p) (upd H p (.lst (kvs.map fun kv => kV kv.1))))
  | .ord => fun xs H Q => ∃ x, xs = [.str x] ∧ x.length = 1 ∧ Q (.int (x.cps.getD 0 0 : Nat)) H
  | .min2 => bOr (fun xs H Q => ∃ i j, xs = [.int i, .int j] ∧ Q (.int (if j < i then j else i)) H) (rMin K.K)
  | .max2 => bOr (fun xs H Q => ∃ i j, xs = [.int i, .int j] ∧ Q (.int (if j > i then j else i)) H) (rMax K.K)
  | .any => rAny K.K
  | .all => rAll K.K
  | .abs => fun xs H Q => ∃ i, xs = [.int i] ∧ Q (.int (if i < 0 then -i else i)) H
  | .isi => bOr (rIsi K.K) (rIsiS K.K)
  | .sum => rSum K.K
  | .sorted => bOr (rSortedS K.K) (bOr rSortDk (bOr (rSortedI K.K) (rSortT K.K)))
section
variable {X : Cx} {K : Kx}
theorem call_lenR : CallR X (.builtin "len") (fun xs H Q => ∃ a kvs, xs = [V.ref a] ∧ Rd H a (.dK kvs) ∧ Q (.int kvs.length) H) := by
  intro pins s σ H xs us Q I r h
  obtain ⟨a, kvs, rfl, ha, q⟩ := h
  obtain ⟨u, rfl, ru⟩ := vals1 r
  cases ru
  exact d_len I ha fun t s' I' => ⟨.int kvs.length, H, I', ⟨t, rfl⟩, q⟩
theorem bif_len (kx : KX K X) : CallR X (.builtin "len") (Bif.rd K .len) := by
  unfold Bif.rd
  try rw [kx.k]
  exact CallR.or call_len call_lenR
theorem bif_int (kx : KX K X) : CallR X (.type "int") (Bif.rd K .int) := by
  unfold Bif.rd
  try rw [kx.k]
  exact CallR.or call_int1 call_int_str
theorem call_str_text : CallR X (.type "str") (fun xs H Q => ∃ a, xs = [.str a] ∧ Q (.str a) H) := by
  intro pins s σ H xs us Q I r h
  obtain ⟨a, rfl, q⟩ := h
  obtain ⟨u, rfl, t, rfl⟩ := vals1 r
  exact PySem.P.str_of_str ⟨.str a, H, I, ⟨t, rfl⟩, q⟩
theorem call_str_non : CallR X (.type "str") (fun xs H Q => xs = [.non] ∧ Q (.str "None") H) := by
  intro pins s σ H xs us Q I r h
  obtain ⟨rfl, q⟩ := h
  obtain ⟨u, rfl, r1⟩ := vals1 r
  cases r1
  exact PySem.P.str_of_none ⟨.str "None", H, I.tok _, ⟨_, rfl⟩, q⟩
theorem bif_str (kx : KX K X) : CallR X (.type "str") (Bif.rd K .str) := by
  unfold Bif.rd
  try rw [kx.k]
  exact CallR.or call_str_int (CallR.or call_str_text call_str_non)
theorem bif_tuple (kx : KX K X) : CallR X (.type "tuple") (Bif.rd K .tuple) := by
  unfold Bif.rd
  try rw [kx.k]
  exact call_tupleF
theorem bif_list (kx : KX K X) (hc : X.calm = true) : CallR X (.type "list") (Bif.rd K .list) := by
  unfold Bif.rd
  try rw [kx.k]
  exact CallR.or call_list_of (call_listD hc)
theorem bif_ord (kx : KX K X) : CallR X (.builtin "ord") (Bif.rd K .ord) := by
  unfold Bif.rd
  try rw [kx.k]
  exact call_ord
theorem bif_min2 (kx : KX K X) (hc : X.calm = true) : CallR X (.builtin "min") (Bif.rd K .min2) := by
  unfold Bif.rd
  try rw [kx.k]
  exact CallR.or (call_min2 hc) (cr_min hc)
theorem bif_max2 (kx : KX K X) (hc : X.calm = true) : CallR X (.builtin "max") (Bif.rd K .max2) := by
  unfold Bif.rd
  try rw [kx.k]
  exact CallR.or (call_max2 hc) (cr_max hc)
theorem bif_abs (kx : KX K X) : CallR X (.builtin "abs") (Bif.rd K .abs) := by
  unfold Bif.rd
  try rw [kx.k]
  exact call_abs
theorem bif_sum (kx : KX K X) (hc : X.calm = true) : CallR X (.builtin "sum") (Bif.rd K .sum) := by
  unfold Bif.rd
  try rw [kx.k]
  exact cr_sum hc
theorem bif_any (kx : KX K X) (hc : X.calm = true) : CallR X (.builtin "any") (Bif.rd K .any) := by
  unfold Bif.rd
  rw [kx.k]
  exact cr_any hc
theorem bif_all (kx : KX K X) (hc : X.calm = true) : CallR X (.builtin "all") (Bif.rd K .all) := by
  unfold Bif.rd
  rw [kx.k]
  exact cr_all hc
theorem bif_sorted (kx : KX K X) (hc : X.calm = true) (hu : X.A.units + 64 < cLine) : CallR X (.builtin "sorted") (Bif.rd K .sorted) := by
  unfold Bif.rd
  rw [kx.k]
  exact CallR.or cr_sortedS (CallR.or (call_sortedD hc) (CallR.or cr_sortedI (call_sortedT hu)))
theorem bif_isi (kx : KX K X) : CallR X (.builtin "isinstance") (Bif.rd K .isi) := by
  unfold Bif.rd
  try rw [kx.k]
  exact CallR.or call_isi call_isiS
end
theorem kit_sub {a b : String} {r : Bool} (h : subTy a b = some r) (ha : a ∈ ["NoneType", "bool", "int", "str", "list", "tuple", "dict"]) : kitB a b = some r := by
  unfold subTy at h
  split at h
  · rename_i e
    have e := eq_of_beq e
    subst e
    cases Option.some.inj h
    unfold kitB
    rw [if_pos (beq_self_eq_true _)]
  · split at h
    · rename_i e
      rw [Bool.and_eq_true] at e
      have e1 := eq_of_beq e.1
      have e2 := eq_of_beq e.2
      subst e1 e2
      cases Option.some.inj h
      decide +kernel
    · split at h
      · rename_i n1 n2 e
        rw [Bool.and_eq_true] at e
        have hb : b ∈ ["bool", "int", "str", "list", "tuple", "dict"] := by simpa using e.2
        cases Option.some.inj h
        have all : ∀ a ∈ (["NoneType", "bool", "int", "str", "list", "tuple", "dict"] : List String), ∀ b ∈ (["bool", "int", "str", "list", "tuple", "dict"] : List String), (a == b) = true ∨ (a == "bool" && b == "int") = true ∨ kitB a b = some false := by decide +kernel
        rcases all a ha b hb with z | z | z
        · exact absurd z n1
        · exact absurd z n2
        · exact z
      · cases h
theorem tyName_mem {x : D} {a : String} (h : tyName x = some a) : a ∈ ["NoneType", "bool", "int", "str", "list", "tuple", "dict"] := by
  cases x <;> first
    | (cases h; done)
    | (cases Option.some.inj h; simp; done)
    | (unfold tyName at h; dsimp only at h; split at h <;> first | (cases h; done) | (cases Option.some.inj h; simp))
section
variable {K : Kx} {G H : Hp} {Q : VK}
theorem tyX_of {x : D} {v : V} {a : String} (e : Ex G H) (h : Rq K G H x v) (n : tyName x = some a) : TyX K.K H v (.type a) := by
  cases x with
  | non => cases Option.some.inj n; cases h.non; exact .base .non
  | bl b => cases Option.some.inj n; cases h.bl; exact .base (.bl _)
  | int i => cases Option.some.inj n; cases h.int; exact .base (.int _)
  | str l => cases Option.some.inj n; cases h.str; exact .base (.str _)
  | ty _ => cases n
  | fn _ => cases n
  | dct ks ds =>
    unfold tyName at n
    dsimp only at n
    split at n
    · rename_i hF
      cases Option.some.inj n
      obtain ⟨p, kr, vs, rfl, h1, h2, h3⟩ := h.dct e
      obtain ⟨kv, d1, d2, d3, d4⟩ := dictV h1 hF
      rcases d1 with d1 | ⟨o, d1⟩
      · exact .base (.dK d1)
      · exact .fDict d1
    · cases n
  | lst ds =>
    cases Option.some.inj n
    obtain ⟨p, vs, rfl, h1, _⟩ := h.lst e
    exact .base (.lst h1)
  | tup ds =>
    cases Option.some.inj n
    obtain ⟨p, vs, rfl, h1, _⟩ := h.tup
    rcases h1.mono e with ⟨o, h1, _⟩ | ⟨o, its, m, h1, h2, _⟩
    · exact .fTuple h1
    · exact .kTuple h1 h2
  | fls ds =>
    cases Option.some.inj n
    obtain ⟨p, vs, rfl, h1, _⟩ := h.fls
    rcases ex_l e h1 with (h1 | ⟨o, h1⟩) | ⟨o, its, m, h1, h2, _⟩
    · exact .base (.lst h1)
    · exact .base (.frz h1)
    · exact .kList h1 h2
theorem any_sound {a : String} (ha : a ∈ ["NoneType", "bool", "int", "str", "list", "tuple", "dict"]) : ∀ (cs : List D) (vs : List V) (r : Bool), anyTy a cs = some r → Rps K G cs vs → ∃ us, Paired ClsV vs us ∧ PySem.W.kitAny K.K (.type a) us = some r
  | [], _, r, h, p => by
    cases p
    cases Option.some.inj h
    exact ⟨[], .nil, rfl⟩
  | c :: cs, _, r, h, p => by
    obtain ⟨v, vs, rfl, p1, p2⟩ := p
    cases c <;> first | (cases h; done) | skip
    rename_i b
    cases (show v = V.ty b from p1)
    unfold anyTy at h
    cases q : subTy a b with
    | none => rw [q] at h; cases h
    | some t =>
      cases q2 : anyTy a cs with
      | none => rw [q, q2] at h; cases h
      | some u =>
        rw [q, q2] at h
        cases Option.some.inj h
        obtain ⟨us, hu, hk⟩ := any_sound ha cs vs u q2 p2
        refine ⟨.type b :: us, .cons (.ty b) hu, kitAny_cons (kit_ty (kit_sub q ha)) (fun z => ?_) fun z => ?_⟩
        · rw [z, Bool.false_or]; exact hk
        · rw [z, Bool.true_or]
/-- values that are read only, one by one -/
def Rqs (K : Kx) (G H : Hp) : List D → List V → Prop
  | [], vs => vs = []
  | d :: ds, vs => ∃ v r, vs = v :: r ∧ Rq K G H d v ∧ Rqs K G H ds r
theorem Rqs.of : ∀ (ds : List D) (vs : List V), Rps K G ds vs → Rqs K G H ds vs
  | [], _, h => h
  | d :: ds, _, h => by
    obtain ⟨v, r, h1, h2, h3⟩ := h
    exact ⟨v, r, h1, .inl h2, Rqs.of ds r h3⟩
theorem intText_S {l : List Nat} (h : (l.all isDig && !l.isEmpty && decide (l.length ≤ 640)) = true) : intText? (S l) = some ((NumText.digitsVal l : Nat) : Int) ∧ (S l).length ≤ 640 := by
  rw [Bool.and_eq_true, Bool.and_eq_true] at h
  have h3 := of_decide_eq_true h.2
  refine ⟨SX.int_S h.1.1 ?_ (by omega), by rw [S_len]; exact h3⟩
  intro z
  rw [z] at h
  cases h.1.2
theorem intL_rp : ∀ {ds : List D} {ns : List Int} {us : List V}, intL ds = some ns → Rps K G ds us → us = ns.map V.int
  | [], ns, us, h, r => by
    cases Option.some.inj h
    cases r
    rfl
  | d :: ds, ns, us, h, r => by
    obtain ⟨v, ws, rfl, r1, r2⟩ := r
    cases d with
    | int i =>
      have h : (intL ds).map (i :: ·) = some ns := h
      cases q : intL ds with
      | none => rw [q] at h; cases h
      | some ms =>
        rw [q] at h
        cases Option.some.inj h
        cases (show v = V.int i from r1)
        rw [intL_rp q r2]
        rfl
    | non => cases h
    | bl _ => cases h
    | str _ => cases h
    | ty _ => cases h
    | lst _ => cases h
    | tup _ => cases h
    | fls _ => cases h
    | fn _ => cases h
    | dct _ _ => cases h
theorem blL_rp : ∀ {ds : List D} {ns : List Bool} {us : List V}, blL ds = some ns → Rps K G ds us → us = ns.map V.bl
  | [], ns, us, h, r => by
    cases Option.some.inj h
    cases r
    rfl
  | d :: ds, ns, us, h, r => by
    obtain ⟨v, ws, rfl, r1, r2⟩ := r
    cases d <;> first | (cases h; done) | skip
    rename_i i
    have h : (blL ds).map (i :: ·) = some ns := h
    obtain ⟨ms, q, rfl⟩ := Option.map_eq_some_iff.mp h
    cases (show v = V.bl i from r1)
    rw [blL_rp q r2]
    rfl
theorem ints_at {x : D} {ns : List Int} {v : V} (e : Ex G H) (q : intsD x = some ns) (h1 : Rq K G H x v) : ∃ p, v = .ref p ∧ SqL K.K H p (ns.map V.int) := by
  cases x <;> first | (cases q; done) | skip
  · obtain ⟨p, us, rfl, p1, p2⟩ := h1.lst e
    rw [intL_rp q p2] at p1
    exact ⟨p, rfl, SqL.of p1⟩
  · obtain ⟨p, us, rfl, p1, p2⟩ := h1.fls
    rw [intL_rp q p2] at p1
    exact ⟨p, rfl, ex_l e p1⟩
theorem strs_rp : ∀ (ds : List D) (vs : List V) (ys : List (List Nat)), strsD ds = some ys → Rps K G ds vs → vs = (ys.map S).map V.str
  | [], _, _, h, r => by cases Option.some.inj h; cases r; rfl
  | d :: ds, _, ys, h, r => by
    obtain ⟨v, us, rfl, r1, r2⟩ := r
    cases d with
    | str l =>
      have h : (strsD ds).map (l :: ·) = some ys := h
      cases q : strsD ds with
      | none => rw [q] at h; cases h
      | some zs =>
        rw [q] at h
        cases Option.some.inj h
        cases (show v = _ from r1)
        rw [strs_rp ds us zs q r2]
        rfl
    | non => cases h
    | bl _ => cases h
    | int _ => cases h
    | ty _ => cases h
    | lst _ => cases h
    | tup _ => cases h
    | fls _ => cases h
    | fn _ => cases h
    | dct _ _ => cases h
theorem keys_S : ∀ {ks : List D} {ls : List (List Nat)} {kv : List (Key × V)}, strsD ks = some ls → ks.map kyF = kv.map (fun q => some q.1) → kv.map (·.1) = (ls.map S).map Sum.inr
  | [], ls, kv, h, e => by
    cases Option.some.inj h
    cases kv with
    | nil => rfl
    | cons q r => cases e
  | d :: ks, ls, kv, h, e => by
    cases d <;> first | (cases h; done) | skip
    rename_i l
    have h : (strsD ks).map (l :: ·) = some ls := h
    obtain ⟨zs, q, rfl⟩ := Option.map_eq_some_iff.mp h
    cases kv with
    | nil => cases e
    | cons y r =>
      injection e with e1 e2
      have ih := keys_S q e2
      have e1 : y.1 = Sum.inr (S l) := (Option.some.inj e1).symm
      show y.1 :: r.map (·.1) = _
      rw [e1, ih]
      rfl
theorem strs_F : ∀ {ks : List D} {ls : List (List Nat)}, strsD ks = some ls → ks.all isF = true
  | [], _, _ => rfl
  | d :: ks, ls, h => by
    cases d <;> first | (cases h; done) | skip
    rename_i l
    have h : (strsD ks).map (l :: ·) = some ls := h
    obtain ⟨zs, q, rfl⟩ := Option.map_eq_some_iff.mp h
    show (true && ks.all isF) = true
    rw [strs_F q]
    rfl
theorem rps_strs : ∀ (ls : List (List Nat)), Rps K G (ls.map D.str) ((ls.map S).map V.str)
  | [] => rfl
  | l :: r => ⟨_, _, rfl, rfl, rps_strs r⟩
theorem rps_ints : ∀ (ls : List Int), Rps K G (ls.map D.int) (ls.map V.int)
  | [] => rfl
  | l :: r => ⟨_, _, rfl, rfl, rps_ints r⟩
theorem Bif.sound {b : Bif} {ds : List D} {d : D} {vs : List V} (h : b.run ds = some d) (e : Ex G H) (hx : Rqs K G H ds vs) (k : ∀ v G' H', Pu G H G' H' → Rp K G' d v → Q v H') : b.rd K vs H Q := by
  have k0 : ∀ v, Rp K G d v → Q v H := fun v r => k v G H (Pu.refl e) r
  match b, ds, h with
  | .sorted, [x], h =>
    obtain ⟨v, _, rfl, h1, rfl⟩ := hx
    have h : sortD x = some d := h
    unfold sortD at h
    cases q : txtsD x with
    | none =>
      rw [q] at h
      dsimp only at h
      cases q2 : intsD x with
      | some ns =>
        rw [q2] at h
        cases Option.some.inj h
        obtain ⟨p, rfl, p1⟩ := ints_at e q2 h1
        refine .inr (.inr (.inl ⟨p, ns, rfl, p1, fun ns' l z1 z2 hl => ?_⟩))
        rw [srtI_of z1 z2]
        exact k _ _ _ (Pu.new e hl) ⟨l, _, rfl, upd_same, rps_ints _⟩
      | none =>
        rw [q2] at h
        cases x with
        | lst ds =>
          dsimp only at h
          split at h
          · rename_i hk
            cases Option.some.inj h
            obtain ⟨p, us, rfl, p1, p2⟩ := h1.lst e
            exact .inr (.inr (.inr (tupsOk_of hk e p2 (SqL.of p1) fun l hl => k _ _ _ (Pu.new e hl) ⟨l, _, rfl, upd_same, Rps.mono (Pu.new e hl).g _ _ (sk_sorted rfl p2)⟩)))
          · cases h
        | _ => cases h
    | some ls =>
      rw [q] at h
      have h : (if ls.length < 64 then some (D.lst ((srtL ls).map .str)) else none) = some d := h
      split at h
      · rename_i hz
        cases Option.some.inj h
        have fin : ∀ (ys : List Str) (l : Addr), ys.Perm (ls.map S) → PyProof.Rows.sortedS ys = true → H l = none → Q (.ref l) (upd H l (.lst (ys.map V.str))) := fun ys l z1 z2 hl => by
          rw [srtL_of z1 z2]
          exact k _ _ _ (Pu.new e hl) ⟨l, _, rfl, upd_same, rps_strs _⟩
        cases x <;> first | (cases q; done) | skip
        · obtain ⟨p, us, rfl, p1, p2⟩ := h1.lst e
          rw [strs_rp _ _ _ q p2] at p1
          exact .inl ⟨p, _, rfl, SqL.of p1, by rw [List.length_map]; exact hz, fin⟩
        · obtain ⟨p, us, rfl, p1, p2⟩ := h1.fls
          rw [strs_rp _ _ _ q p2] at p1
          exact .inl ⟨p, _, rfl, ex_l e p1, by rw [List.length_map]; exact hz, fin⟩
        · obtain ⟨p, kr, us, rfl, p1, p2, p3⟩ := h1.dct e
          have q : strsD _ = some ls := q
          obtain ⟨kv, d1, d2, d3, d4⟩ := dictV p1 (strs_F q)
          exact .inr (.inl ⟨p, kv, _, rfl, d1, keys_S q d2, by rw [List.length_map]; exact hz, fin⟩)
      · cases h
  | .sum, [x], h =>
    obtain ⟨v, _, rfl, h1, rfl⟩ := hx
    have h : (intsD x).map (fun ns => D.int ns.sum) = some d := h
    cases q : intsD x with
    | none => rw [q] at h; cases h
    | some ns =>
      rw [q] at h
      cases Option.some.inj h
      cases x with
      | lst ds =>
        obtain ⟨p, us, rfl, p1, p2⟩ := h1.lst e
        rw [intL_rp q p2] at p1
        exact ⟨p, ns, rfl, SqL.of p1, k0 _ rfl⟩
      | fls ds =>
        obtain ⟨p, us, rfl, p1, p2⟩ := h1.fls
        rw [intL_rp q p2] at p1
        exact ⟨p, ns, rfl, ex_l e p1, k0 _ rfl⟩
      | non => cases q
      | bl _ => cases q
      | int _ => cases q
      | str _ => cases q
      | ty _ => cases q
      | tup _ => cases q
      | fn _ => cases q
      | dct _ _ => cases q
  | .len, [x], h =>
    obtain ⟨v, _, rfl, h1, rfl⟩ := hx
    have h : (lenD x).map (fun n => D.int n) = some d := h
    cases q : lenD x with
    | none => rw [q] at h; cases h
    | some n =>
      rw [q] at h
      cases Option.some.inj h
      have fin : LenV K.K v H n → Bif.rd K .len [v] H Q := fun z => .inl ⟨v, n, rfl, z, k0 _ rfl⟩
      unfold lenD at q
      split at q
      · split at q
        · rename_i hz
          cases Option.some.inj q
          cases h1.str
          exact fin ⟨by rw [S_len]; exact sz_line hz, (S_len _).symm⟩
        · cases q
      · cases Option.some.inj q
        obtain ⟨p, us, rfl, p1, p2⟩ := h1.lst e
        exact fin (.inl ⟨us, SqL.of p1, (Rps.length _ _ p2).symm⟩)
      · cases Option.some.inj q
        obtain ⟨p, us, rfl, p1, p2⟩ := h1.tup
        exact fin (.inr ⟨us, (p1.mono e).sq, (Rps.length _ _ p2).symm⟩)
      · cases Option.some.inj q
        obtain ⟨p, us, rfl, p1, p2⟩ := h1.fls
        exact fin (.inl ⟨us, ex_l e p1, (Rps.length _ _ p2).symm⟩)
      · split at q
        · rename_i hF
          cases Option.some.inj q
          obtain ⟨p, kr, us, rfl, p1, p2, p3⟩ := h1.dct e
          obtain ⟨kv, d1, d2, d3, d4⟩ := dictV p1 hF
          refine .inr ⟨p, kv, rfl, d1, ?_⟩
          have : ∀ l : List D, l.map kyF = kv.map (fun q => some q.1) → kv.length = l.length := fun l z => by simpa using (congrArg List.length z).symm
          rw [this _ d2]
          exact k0 _ rfl
        · cases q
      · cases q
  | .int, [x], h =>
    obtain ⟨v, _, rfl, h1, rfl⟩ := hx
    cases x with
    | int i =>
      cases Option.some.inj (show some (D.int i) = some d from h)
      cases h1.int
      exact .inl (.inl ⟨i, rfl, k0 _ rfl⟩)
    | bl c =>
      cases Option.some.inj (show some (D.int (if c then 1 else 0)) = some d from h)
      cases h1.bl
      exact .inl (.inr ⟨c, rfl, k0 _ rfl⟩)
    | str l =>
      have h : (if l.all isDig && !l.isEmpty && decide (l.length ≤ 640) then some (D.int (NumText.digitsVal l : Nat)) else none) = some d := h
      split at h
      · rename_i hz
        cases Option.some.inj h
        cases h1.str
        obtain ⟨z1, z2⟩ := intText_S hz
        exact .inr ⟨_, _, rfl, z1, z2, k0 _ rfl⟩
      · cases h
    | non => cases h
    | ty _ => cases h
    | lst _ => cases h
    | tup _ => cases h
    | fls _ => cases h
    | fn _ => cases h
    | dct _ _ => cases h
  | .str, [x], h =>
    obtain ⟨v, _, rfl, h1, rfl⟩ := hx
    cases x with
    | int i =>
      have h : (if i.natAbs.log2 < 1920 then some (D.str (strI i)) else none) = some d := h
      split at h
      · rename_i hz
        cases Option.some.inj h
        cases h1.int
        exact .inl ⟨i, rfl, hz, k0 _ rfl⟩
      · cases h
    | bl _ => cases h
    | str l =>
      cases Option.some.inj (show some (D.str l) = some d from h)
      cases h1.str
      exact .inr (.inl ⟨_, rfl, k0 _ rfl⟩)
    | non =>
      cases Option.some.inj (show some (D.str [78, 111, 110, 101]) = some d from h)
      obtain rfl := h1.non
      exact .inr (.inr ⟨rfl, k0 _ rfl⟩)
    | ty _ => cases h
    | lst _ => cases h
    | tup _ => cases h
    | fls _ => cases h
    | fn _ => cases h
    | dct _ _ => cases h
  | .tuple, [x], h =>
    obtain ⟨v, _, rfl, h1, rfl⟩ := hx
    cases x with
    | lst ds =>
      cases Option.some.inj (show some (D.tup ds) = some d from h)
      obtain ⟨p, us, rfl, p1, p2⟩ := h1.lst e
      exact ⟨p, us, rfl, .inl ⟨SqL.of p1, fun l o hl ho => k _ _ _ (Pu.new e hl) ⟨l, us, rfl, .new ho, Rps.mono (Ex.new (none_of_ex e hl)) _ _ p2⟩⟩⟩
    | tup ds =>
      cases Option.some.inj (show some (D.tup ds) = some d from h)
      obtain ⟨p, us, rfl, p1, p2⟩ := h1.tup
      exact ⟨p, us, rfl, .inr ⟨(p1.mono e).sq, k0 _ ⟨p, us, rfl, p1, p2⟩⟩⟩
    | fls ds =>
      cases Option.some.inj (show some (D.tup ds) = some d from h)
      obtain ⟨p, us, rfl, p1, p2⟩ := h1.fls
      exact ⟨p, us, rfl, .inl ⟨ex_l e p1, fun l o hl ho => k _ _ _ (Pu.new e hl) ⟨l, us, rfl, .new ho, Rps.mono (Ex.new (none_of_ex e hl)) _ _ p2⟩⟩⟩
    | int _ => cases h
    | bl _ => cases h
    | str _ => cases h
    | non => cases h
    | ty _ => cases h
    | fn _ => cases h
    | dct _ _ => cases h
  | .list, [x], h =>
    obtain ⟨v, _, rfl, h1, rfl⟩ := hx
    cases x with
    | lst ds =>
      cases Option.some.inj (show some (D.lst ds) = some d from h)
      obtain ⟨p, us, rfl, p1, p2⟩ := h1.lst e
      exact .inl ⟨p, us, rfl, .inl (SqL.of p1), fun l hl => k _ _ _ (Pu.new e hl) ⟨l, us, rfl, upd_same, Rps.mono (Ex.new (none_of_ex e hl)) _ _ p2⟩⟩
    | tup ds =>
      cases Option.some.inj (show some (D.lst ds) = some d from h)
      obtain ⟨p, us, rfl, p1, p2⟩ := h1.tup
      exact .inl ⟨p, us, rfl, .inr (p1.mono e).sq, fun l hl => k _ _ _ (Pu.new e hl) ⟨l, us, rfl, upd_same, Rps.mono (Ex.new (none_of_ex e hl)) _ _ p2⟩⟩
    | fls ds =>
      cases Option.some.inj (show some (D.lst ds) = some d from h)
      obtain ⟨p, us, rfl, p1, p2⟩ := h1.fls
      exact .inl ⟨p, us, rfl, .inl (ex_l e p1), fun l hl => k _ _ _ (Pu.new e hl) ⟨l, us, rfl, upd_same, Rps.mono (Ex.new (none_of_ex e hl)) _ _ p2⟩⟩
    | int _ => cases h
    | bl _ => cases h
    | str _ => cases h
    | non => cases h
    | ty _ => cases h
    | fn _ => cases h
    | dct ks ds =>
      have h : (if ks.all isF = true then some (D.lst ks) else none) = some d := h
      split at h
      · rename_i hF
        cases Option.some.inj h
        obtain ⟨p, kr, us, rfl, p1, p2, p3⟩ := h1.dct e
        obtain ⟨kv, d1, d2, d3, d4⟩ := dictV p1 hF
        refine .inr ⟨p, kv, rfl, d1, fun l hl => k _ _ _ (Pu.new e hl) ⟨l, _, rfl, upd_same, ?_⟩⟩
        rw [← d3]
        exact Rps.mono (Ex.new (none_of_ex e hl)) _ _ p2
      · cases h
  | .ord, [x], h =>
    obtain ⟨v, _, rfl, h1, rfl⟩ := hx
    cases x with
    | str l =>
      match l, h with
      | [c], h =>
        cases Option.some.inj (show some (D.int c) = some d from h)
        cases h1.str
        exact ⟨_, rfl, rfl, k0 _ rfl⟩
      | [], h => cases h
      | _ :: _ :: _, h => cases h
    | int _ => cases h
    | bl _ => cases h
    | non => cases h
    | ty _ => cases h
    | lst _ => cases h
    | tup _ => cases h
    | fls _ => cases h
    | fn _ => cases h
    | dct _ _ => cases h
  | .abs, [x], h =>
    obtain ⟨v, _, rfl, h1, rfl⟩ := hx
    cases x with
    | int i =>
      cases Option.some.inj (show some (D.int (if i < 0 then -i else i)) = some d from h)
      cases h1.int
      exact ⟨i, rfl, k0 _ rfl⟩
    | str _ => cases h
    | bl _ => cases h
    | non => cases h
    | ty _ => cases h
    | lst _ => cases h
    | tup _ => cases h
    | fls _ => cases h
    | fn _ => cases h
    | dct _ _ => cases h
  | .min2, [x, y], h =>
    obtain ⟨v, _, rfl, h1, u, _, rfl, h2, rfl⟩ := hx
    have h : i2 (fun i j => some (.int (if j < i then j else i))) x y = some d := h
    unfold i2 at h
    split at h
    · cases Option.some.inj h
      cases h1.int
      cases h2.int
      exact .inl ⟨_, _, rfl, k0 _ rfl⟩
    · cases h
  | .max2, [x, y], h =>
    obtain ⟨v, _, rfl, h1, u, _, rfl, h2, rfl⟩ := hx
    have h : i2 (fun i j => some (.int (if j > i then j else i))) x y = some d := h
    unfold i2 at h
    split at h
    · cases Option.some.inj h
      cases h1.int
      cases h2.int
      exact .inl ⟨_, _, rfl, k0 _ rfl⟩
    · cases h
  | .min2, [x], h =>
    obtain ⟨v, _, rfl, h1, rfl⟩ := hx
    have h : ((intsD x).bind fun ns => ns.min?.map D.int) = some d := h
    obtain ⟨ns, q, h⟩ := Option.bind_eq_some_iff.mp h
    obtain ⟨m, q2, rfl⟩ := Option.map_eq_some_iff.mp h
    obtain ⟨p, rfl, p1⟩ := ints_at e q h1
    have hm := List.min?_eq_some_iff.mp q2
    refine .inr ⟨p, ns, rfl, p1, List.length_pos_of_mem hm.1, fun z h1 h2 => ?_⟩
    have e1 := hm.2 z h1
    have e2 := h2 m hm.1
    rw [show z = m by omega]
    exact k0 _ rfl
  | .max2, [x], h =>
    obtain ⟨v, _, rfl, h1, rfl⟩ := hx
    have h : ((intsD x).bind fun ns => ns.max?.map D.int) = some d := h
    obtain ⟨ns, q, h⟩ := Option.bind_eq_some_iff.mp h
    obtain ⟨m, q2, rfl⟩ := Option.map_eq_some_iff.mp h
    obtain ⟨p, rfl, p1⟩ := ints_at e q h1
    have hm := List.max?_eq_some_iff.mp q2
    refine .inr ⟨p, ns, rfl, p1, List.length_pos_of_mem hm.1, fun z h1 h2 => ?_⟩
    have e1 := hm.2 z h1
    have e2 := h2 m hm.1
    rw [show z = m by omega]
    exact k0 _ rfl
  | .any, [x], h =>
    obtain ⟨v, _, rfl, h1, rfl⟩ := hx
    have h : (blsD x).map (fun bs => D.bl (bs.any id)) = some d := h
    obtain ⟨bs, q, rfl⟩ := Option.map_eq_some_iff.mp h
    cases x <;> first | (cases q; done) | skip
    obtain ⟨p, us, rfl, p1, p2⟩ := h1.lst e
    rw [blL_rp q p2] at p1
    exact ⟨p, bs, rfl, SqL.of p1, k0 _ rfl⟩
  | .all, [x], h =>
    obtain ⟨v, _, rfl, h1, rfl⟩ := hx
    have h : (blsD x).map (fun bs => D.bl (bs.all id)) = some d := h
    obtain ⟨bs, q, rfl⟩ := Option.map_eq_some_iff.mp h
    cases x <;> first | (cases q; done) | skip
    obtain ⟨p, us, rfl, p1, p2⟩ := h1.lst e
    rw [blL_rp q p2] at p1
    exact ⟨p, bs, rfl, SqL.of p1, k0 _ rfl⟩
  | .isi, [x, c], h =>
    obtain ⟨v, _, rfl, h1, u, _, rfl, h2, rfl⟩ := hx
    have h : (isiD x c).map D.bl = some d := h
    unfold isiD at h
    cases q : tyName x with
    | none => rw [q] at h; cases h
    | some a =>
      rw [q] at h
      have tx := tyX_of e h1 q
      have ma := tyName_mem q
      cases c with
      | ty n =>
        have h : (subTy a n).map D.bl = some d := h
        cases q2 : subTy a n with
        | none => rw [q2] at h; cases h
        | some r =>
          rw [q2] at h
          cases Option.some.inj h
          cases (show u = V.ty n from h2.rp ⟨(fun _ z => nomatch z), fun _ _ z => nomatch z⟩)
          exact .inl ⟨v, .ty n, .type a, .type n, r, rfl, .ty n, tx, kit_ty (kit_sub q2 ma), k0 _ rfl⟩
      | tup cs =>
        have h : (anyTy a cs).map D.bl = some d := h
        cases q2 : anyTy a cs with
        | none => rw [q2] at h; cases h
        | some r =>
          rw [q2] at h
          cases Option.some.inj h
          obtain ⟨p, us, rfl, p1, p2⟩ := h2.tup
          obtain ⟨ws, w1, w2⟩ := any_sound ma cs us r q2 p2
          exact .inr ⟨v, p, us, .type a, ws, r, rfl, (p1.mono e).sq, w1, tx, w2, k0 _ rfl⟩
      | int _ => cases h
      | bl _ => cases h
      | str _ => cases h
      | non => cases h
      | lst _ => cases h
      | fls _ => cases h
      | fn _ => cases h
      | dct _ _ => cases h
end
end Mq
/-! A small language over HandS, 4: methods of built-ins, slices, truth. -/
namespace Mq
open PySem L2 Evl
open SX (S S_len S_cat S_inj)

/-! ### methods of built-ins -/
/-- a value of a built-in type, tuples and dicts among them -/
def tyX (K : Kx) (T : String) (x : V) (H : Hp) : Prop := tyV K.K T x H ∨ (T = "tuple" ∧ ∃ p vs, x = .ref p ∧ TpAt K H p vs) ∨ (T = "dict" ∧ ∃ p ks kr vs, x = .ref p ∧ DcV K H p ks kr vs)
def tBMX (K : Kx) (T : String) (r : V → List V → Hp → VK → Prop) (to : TE) (t : TA) : TE := fun σ H Q => to σ H fun x H1 => tyX K T x H1 ∧ t σ H1 fun xs H2 => r x xs H2 Q
section
variable {X : Cx} {K : Kx} {pins : List (Addr × Obj)} {σ : L2.St} {H : Hp} {s : Shared}
theorem tyX_is (kx : KX K X) (I : Inv X pins σ H s) {x : V} {v : Value} {T : String} (r : RelV x v) (ty : tyX K T x H) : s.TypeIs v T ∧ ∀ a, v = .ref a → ∃ ob, s.heap.get? a = some ob ∧ ob.dict = none := by
  rcases ty with ty | ⟨rfl, p, vs, rfl, h⟩ | ⟨rfl, p, ks, kr, vs, rfl, h⟩
  · exact tyV_is I r (by rw [← kx.k]; exact ty)
  · cases r
    rcases h with ⟨o, h, hd⟩ | ⟨o, its, n, h1, h2, h3, _⟩
    · obtain ⟨e, _, its, _, ⟨o', e', hc, _⟩⟩ := (show ObjOk X.prog X.w H s.heap p (.frz o (.tup vs)) from I.hok p _ h)
      rw [e] at e'
      cases e'
      refine ⟨⟨o, e, hc⟩, fun a z => ?_⟩
      cases z
      exact ⟨o, e, hd⟩
    · have e := I.kIn p o (by rw [← kx.k]; exact h1)
      refine ⟨⟨o, e, h2⟩, fun a z => ?_⟩
      cases z
      exact ⟨o, e, h3⟩
  · cases r
    have key : ∃ o, s.heap.get? p = some o ∧ o.ExactDict := by
      rcases h.cs with ⟨kv, h1, _⟩ | ⟨_, xs, h1, _⟩
      · obtain ⟨_, _, _, _, o, _, _, e, ex, _⟩ := (show ObjOk X.prog X.w H s.heap p (.dK kv) from h1.ok I.hok)
        exact ⟨o, e, ex⟩
      · obtain ⟨⟨_, _, o, _, _, e, ex, _⟩, _⟩ := (show ObjOk X.prog X.w H s.heap p (dxO K p xs) from I.hok p _ h1)
        exact ⟨o, e, ex⟩
    obtain ⟨o, e, ex⟩ := key
    refine ⟨⟨o, e, ex.1⟩, fun a z => ?_⟩
    cases z
    exact ⟨o, e, ex.2.1⟩
theorem pe_bmX {o e : Expr} {es : List Expr} {to : TE} {t : TA} {name : Str} {apos cpos : Pos} {T id : String} {r : V → List V → Hp → VK → Prop} (kx : KX K X) (pa : PlainAttrs T) (slot : Slot T name id) (hty : typeOf (.builtin id) = pure (.type "method_descriptor")) (hm : MtR X id r) (ho : PE X o to) (ha : PA X (e :: es) t)
    (hbase : attributeBase o name X.env (eval o X.env) = eval o X.env := by rfl)
    (hfew : ((backTo cpos (starEach (e :: es) X.env)).all (fun x => !x.1) && (backToKw cpos (keywordEach [] X.env)).all (fun x => x.1.isSome)
      && decide ((e :: es).length + ([] : List Keyword).length + (if ([] : List Keyword).isEmpty then 0 else 1) < 30)) = true := by rfl)
    (hline : (apos.endLine == cpos.line) = true := by rfl) (hs : starEach (e :: es) X.env = (false, eval e X.env) :: starEach es X.env := by rfl) (hplain : (backTo cpos (starEach es X.env)).any (·.1) = false := by rfl) :
    PE X (.Call (.Attribute o name apos) (e :: es) [] cpos) (tBMX K T r to t) := by
  refine ⟨fun pins s σ H Q I h => ?_⟩
  refine wpAny_Call_method_late hbase hfew hline rfl (thn (ho.run pins s σ H _ I h) fun v s1 ⟨x, H1, I1, r1, ty, q1⟩ => ?_)
  obtain ⟨h1, h2⟩ := tyX_is kx I1 r1 ty
  refine ⟨T, id, pa, slot, hty, h1, h2, ?_⟩
  have hA := ha.run cpos pins s1 σ H1 _ I1 q1
  rw [hs] at hA ⊢
  refine Calls.callWith_builtin (by show (false || (backTo cpos (starEach es X.env)).any (·.1)) = false; rw [hplain] <;> rfl) (Calls.evalArgs_plain ?_)
  exact thn hA fun us s2 ⟨vs, H2, I2, r2, q2⟩ => hm pins s2 σ H2 x vs v us Q I2 r1 r2 q2
end
inductive Mth where
  | find | find3 | count | rfind | join | lindex | tindex | dget | split
  deriving DecidableEq, Repr
def Mth.ty : Mth → String
  | .find | .find3 | .count | .rfind | .join | .split => "str"
  | .lindex => "list"
  | .tindex => "tuple"
  | .dget => "dict"
def itemsD : D → Option (List D)
  | .lst ds => some ds
  | .tup ds => some ds
  | _ => none
def ixStr (ys : List (List Nat)) (z : List Nat) : Option Nat := ys.findIdx? fun y => decide (y = z)
def Mth.run : Mth → D → List D → Option D
  | .find, .str l, [.str [c]] => some (.int (findFrom l c 0))
  | .find3, .str l, [.str [c], .int i] => if 0 ≤ i then some (.int (findFrom l c i.toNat)) else none
  | .count, .str l, [.str [c]] => some (.int (l.count c : Nat))
  | .rfind, .str l, [.str [c]] => some (.int (ixI (lastIx c l)))
  | .join, .str l, [x] => (itemsD x).bind fun ds => (strsD ds).bind fun ys => if (ys.map (·.length)).sum + ys.length * l.length ≤ 16777216 then some (.str (TL.joinL l ys)) else none
  | .lindex, .lst ds, [.str z] => (strsD ds).bind fun ys => (ixStr ys z).map fun (j : Nat) => .int j
  | .tindex, .tup ds, [.str z] => (strsD ds).bind fun ys => (ixStr ys z).map fun (j : Nat) => .int j
  | .dget, .dct ks ds, [k, x] => if dkOk ks k then some (((ixk ks k).bind fun i => ds[i]?).getD x) else none
  | .dget, .dct ks ds, [k] => if dkOk ks k then some (((ixk ks k).bind fun i => ds[i]?).getD .non) else none
  | .split, .str l, [.str b] => if (!b.isEmpty && b.all (· < 256)) = true ∧ l.length + 2 ≤ 16777216 then some (.lst ((TL.spl b 0 [] l).map .str)) else none
  | _, _, _ => none
abbrev RM := V → List V → Hp → VK → Prop
def Mth.rd (K : Kx) : Mth → RM
  | .find => fun x xs H Q => ∃ a b, x = .str a ∧ xs = [.str b] ∧ Q (.int (Txt.find a b)) H
  | .find3 => fun x xs H Q => ∃ (a b : Str) (i : Int), x = .str a ∧ xs = [.str b, .int i] ∧ Q (.int (Txt.find3 a b i)) H
  | .count => fun x xs H Q => ∃ a b, x = .str a ∧ xs = [.str b] ∧ Q (.int (Txt.count a b)) H
  | .rfind => fun x xs H Q => ∃ a b, x = .str a ∧ xs = [.str b] ∧ Q (.int (Txt.rfind a b)) H
  | .join => fun x xs H Q => ∃ a p, ∃ ys : List Str, x = .str a ∧ xs = [.ref p] ∧ (SqL K.K H p (ys.map V.str) ∨ SqT K.K H p (ys.map V.str)) ∧ (ys.map (·.length)).sum + ys.length * a.length ≤ 16777216 ∧ Q (.str (Txt.join a ys)) H
  | .lindex => rIndex K.K
  | .tindex => fun x xs H Q => ∃ p, ∃ ys : List Str, ∃ z j, x = .ref p ∧ xs = [.str z] ∧ SqT K.K H p (ys.map V.str) ∧ ys[j]? = some z ∧ (∀ m, m < j → ys[m]? ≠ some z) ∧ Q (.int (j : Nat)) H
  | .dget => rDGet K
  | .split => fun x xs H Q => ∃ a b, x = .str a ∧ xs = [.str b] ∧ (b.length == 0) = false ∧ a.length + 2 ≤ sizeLine ∧ rNewStrs (Txt.split a b) H Q
section
variable {X : Cx} {K : Kx}
theorem mth_find (kx : KX K X) : MtR X "str.find" (Mth.rd K .find) := mt_find
theorem mth_find3 (kx : KX K X) : MtR X "str.find" (Mth.rd K .find3) := mt_find3
theorem mth_count (kx : KX K X) : MtR X "str.count" (Mth.rd K .count) := mt_count
theorem mth_rfind (kx : KX K X) : MtR X "str.rfind" (Mth.rd K .rfind) := mt_rfind
theorem mth_split (kx : KX K X) : MtR X "str.split" (Mth.rd K .split) := mt_split
theorem mth_join (kx : KX K X) : MtR X "str.join" (Mth.rd K .join) := by
  unfold Mth.rd
  rw [kx.k]
  exact mt_join
theorem mth_lindex (kx : KX K X) : MtR X "list.index" (Mth.rd K .lindex) := by
  unfold Mth.rd
  rw [kx.k]
  exact mt_index
theorem mth_tindex (kx : KX K X) : MtR X "tuple.index" (Mth.rd K .tindex) := by
  unfold Mth.rd
  rw [kx.k]
  exact mt_tup_index
theorem mth_dget (kx : KX K X) (hu : X.A.units + 9 < cLine) : MtR X "dict.get" (Mth.rd K .dget) := mt_dget kx hu
end
section
variable {K : Kx} {G H : Hp} {Q : VK}
theorem find_S (l : List Nat) (c : Nat) : Txt.find (S l) (S [c]) = findFrom l c 0 := by
  rw [← find3_S l c 0]
  unfold Txt.find Txt.find3
  rw [show fromIndex (S l).length ((0 : Nat) : Int) = 0 by unfold fromIndex; rw [if_neg (by omega)]; omega]
  cases Builtin.Str.occurrences (S l) (S [c]) 0 (S l).length 1 <;> rfl
theorem ixStr_some {ys : List (List Nat)} {z : List Nat} {j : Nat} (h : ixStr ys z = some j) : ys[j]? = some z ∧ ∀ m, m < j → ys[m]? ≠ some z := by
  unfold ixStr at h
  obtain ⟨h1, h2, h3⟩ := List.findIdx?_eq_some_iff_getElem.mp h
  refine ⟨by rw [List.getElem?_eq_getElem h1]; exact congrArg some (of_decide_eq_true h2), fun m hm e => ?_⟩
  have hl : m < ys.length := by omega
  rw [List.getElem?_eq_getElem hl] at e
  exact h3 m hm (decide_eq_true (Option.some.inj e))
theorem tyM_of {x : D} {v : V} {m : Mth} {ds : List D} {d : D} (h : m.run x ds = some d) (e : Ex G H) (hx : Rq K G H x v) : tyX K m.ty v H := by
  unfold Mth.run at h
  split at h
  · cases hx.str; exact .inl rfl
  · cases hx.str; exact .inl rfl
  · cases hx.str; exact .inl rfl
  · cases hx.str; exact .inl rfl
  · cases hx.str; exact .inl rfl
  · obtain ⟨p, us, rfl, p1, _⟩ := hx.lst e
    exact .inl (.inl ⟨rfl, us, SqL.of p1⟩)
  · obtain ⟨p, us, rfl, p1, _⟩ := hx.tup
    exact .inr (.inl ⟨rfl, p, us, rfl, p1.mono e⟩)
  · obtain ⟨p, kr, us, rfl, p1, _⟩ := hx.dct e
    exact .inr (.inr ⟨rfl, p, _, kr, us, rfl, p1⟩)
  · obtain ⟨p, kr, us, rfl, p1, _⟩ := hx.dct e
    exact .inr (.inr ⟨rfl, p, _, kr, us, rfl, p1⟩)
  · cases hx.str; exact .inl rfl
  · cases h
theorem strs_all {ys : List (List Nat)} : ((ys.map S).map V.str).all flatV = true := List.all_eq_true.mpr fun x hx => by
  obtain ⟨y, _, rfl⟩ := List.mem_map.mp hx
  rfl
theorem nrm_dct {x : D} {ks : List D} (hd : dkOk ks x = true) : (∀ ds, x ≠ .lst ds) ∧ ∀ ks ds, x ≠ .dct ks ds :=
  ⟨(fun ds z => by rw [z] at hd; unfold dkOk at hd; simp [isF, isT] at hd), fun ks ds z => by rw [z] at hd; unfold dkOk at hd; simp [isF, isT] at hd⟩
theorem look_rp {ds : List D} {vs : List V} {i : Option Nat} {x : D} {v : V} (h : Rps K G ds vs) (hx : Rp K G x v) : Rp K G ((i.bind fun n => ds[n]?).getD x) ((i.bind fun n => vs[n]?).getD v) := by
  cases i with
  | none => exact hx
  | some n =>
    rw [Option.bind_some, Option.bind_some]
    cases q : ds[n]? with
    | none =>
      have : vs[n]? = none := by
        rw [List.getElem?_eq_none_iff] at q ⊢
        rw [Rps.length _ _ h]
        exact q
      rw [this]
      exact hx
    | some d =>
      obtain ⟨u, e1, e2⟩ := Rps.get _ _ _ _ h q
      rw [e1]
      exact e2
theorem Mth.sound {m : Mth} {x : D} {ds : List D} {d : D} {v : V} {vs : List V} (h : m.run x ds = some d) (e : Ex G H) (hr : Rq K G H x v) (hx0 : Rps K G ds vs) (k : ∀ v G' H', Pu G H G' H' → Rp K G' d v → Q v H') : m.rd K v vs H Q := by
  have hx : Rqs K G H ds vs := Rqs.of _ _ hx0
  have k0 : ∀ v, Rp K G d v → Q v H := fun v r => k v G H (Pu.refl e) r
  unfold Mth.run at h
  split at h
  · cases hr.str
    obtain ⟨v, _, rfl, h1, rfl⟩ := hx
    cases Option.some.inj h
    cases h1.str
    refine ⟨_, _, rfl, rfl, k0 _ ?_⟩
    rw [find_S]
    rfl
  · cases hr.str
    split at h
    · rename_i hi
      obtain ⟨v, _, rfl, h1, u, _, rfl, h2, rfl⟩ := hx
      cases Option.some.inj h
      cases h1.str
      cases h2.int
      refine ⟨_, _, _, rfl, rfl, k0 _ ?_⟩
      rename_i i
      have e2 : i = ((i.toNat : Nat) : Int) := by omega
      rw [e2, find3_S, ← e2]
      rfl
    · cases h
  · cases hr.str
    obtain ⟨v, _, rfl, h1, rfl⟩ := hx
    cases Option.some.inj h
    cases h1.str
    refine ⟨_, _, rfl, rfl, k0 _ ?_⟩
    rw [count_S]
    rfl
  · cases hr.str
    obtain ⟨v, _, rfl, h1, rfl⟩ := hx
    cases Option.some.inj h
    cases h1.str
    refine ⟨_, _, rfl, rfl, k0 _ ?_⟩
    rw [rfind_S]
    rfl
  · cases hr.str
    obtain ⟨v, _, rfl, h1, rfl⟩ := hx
    rename_i l x
    obtain ⟨es, q1, h⟩ := Option.bind_eq_some_iff.mp h
    obtain ⟨ys, q2, h⟩ := Option.bind_eq_some_iff.mp h
    split at h
    · rename_i hz
      cases Option.some.inj h
      have fin : ∀ p, (SqL K.K H p ((ys.map S).map V.str) ∨ SqT K.K H p ((ys.map S).map V.str)) → Mth.rd K .join (.str (S l)) [.ref p] H Q := fun p hp => by
        refine ⟨S l, p, ys.map S, rfl, rfl, hp, ?_, k0 _ ?_⟩
        · rw [SX.lens, List.length_map, S_len]
          exact hz
        · rw [SX.join_S]
          rfl
      cases x <;> first | (cases q1; done) | skip
      · cases Option.some.inj q1
        obtain ⟨p, us, rfl, p1, p2⟩ := h1.lst e
        rw [strs_rp _ _ _ q2 p2] at p1
        exact fin p (.inl (SqL.of p1))
      · cases Option.some.inj q1
        obtain ⟨p, us, rfl, p1, p2⟩ := h1.tup
        rw [strs_rp _ _ _ q2 p2] at p1
        exact fin p (.inr (p1.mono e).sq)
    · cases h
  · obtain ⟨v, _, rfl, h1, rfl⟩ := hx
    obtain ⟨ys, q, h⟩ := Option.bind_eq_some_iff.mp h
    obtain ⟨j, q2, rfl⟩ := Option.map_eq_some_iff.mp h
    cases h1.str
    obtain ⟨p, us, rfl, p1, p2⟩ := hr.lst e
    rw [strs_rp _ _ _ q p2] at p1
    obtain ⟨j1, j2⟩ := ixStr_some q2
    refine ⟨p, _, _, j, _, rfl, rfl, SqL.of p1, rfl, strs_all, (by rw [List.getElem?_map, List.getElem?_map, j1]; rfl), ?_, fun m z hm hz => ?_, k0 _ rfl⟩
    · exact beq_self_eq_true _
    · rw [List.getElem?_map, List.getElem?_map] at hz
      obtain ⟨s1, hz1, rfl⟩ := Option.map_eq_some_iff.mp hz
      obtain ⟨y, hy, rfl⟩ := Option.map_eq_some_iff.mp hz1
      have : ¬ S y = S _ := fun w => j2 m hm (by rw [hy, S_inj w])
      exact beq_eq_false_iff_ne.mpr this
  · obtain ⟨v, _, rfl, h1, rfl⟩ := hx
    obtain ⟨ys, q, h⟩ := Option.bind_eq_some_iff.mp h
    obtain ⟨j, q2, rfl⟩ := Option.map_eq_some_iff.mp h
    cases h1.str
    obtain ⟨p, us, rfl, p1, p2⟩ := hr.tup
    rw [strs_rp _ _ _ q p2] at p1
    obtain ⟨j1, j2⟩ := ixStr_some q2
    refine ⟨p, ys.map S, _, j, rfl, rfl, (p1.mono e).sq, by rw [List.getElem?_map, j1]; rfl, fun m hm hz => ?_, k0 _ rfl⟩
    rw [List.getElem?_map] at hz
    obtain ⟨y, hy, hz1⟩ := Option.map_eq_some_iff.mp hz
    exact j2 m hm (by rw [hy, S_inj hz1])
  · obtain ⟨v1, _, rfl, h1, v2, _, rfl, h2, rfl⟩ := hx0
    split at h
    · rename_i hd
      cases Option.some.inj h
      obtain ⟨p, kr, us, rfl, p1, p2, p3⟩ := hr.dct e
      exact .inl ⟨v1, v2, _, rfl, ⟨p, _, kr, us, _, rfl, p1, Rps.mono e _ _ p2, Rp.mono e _ _ h1, hd, rfl⟩, k0 _ (look_rp p3 h2)⟩
    · cases h
  · obtain ⟨v1, _, rfl, h1, rfl⟩ := hx
    split at h
    · rename_i hd
      cases Option.some.inj h
      obtain ⟨p, kr, us, rfl, p1, p2, p3⟩ := hr.dct e
      exact .inr ⟨v1, _, rfl, ⟨p, _, kr, us, _, rfl, p1, Rps.mono e _ _ p2, Rp.mono e _ _ (h1.rp (nrm_dct hd)), hd, rfl⟩, k0 _ (look_rp (x := .non) (v := .non) p3 rfl)⟩
    · cases h
  · cases hr.str
    obtain ⟨v, _, rfl, h1, rfl⟩ := hx
    cases h1.str
    split at h
    · rename_i hz
      cases Option.some.inj h
      obtain ⟨hz1, hz2⟩ := hz
      rw [Bool.and_eq_true] at hz1
      rename_i l b
      have hb : b ≠ [] := fun z => by rw [z] at hz1; cases hz1.1
      refine ⟨_, _, rfl, rfl, ?_, by rw [S_len]; exact hz2, fun p hp => k _ _ _ (Pu.new e hp) ⟨p, _, rfl, upd_same, ?_⟩⟩
      · rw [S_len]
        cases b with
        | nil => exact absurd rfl hb
        | cons _ _ => rfl
      · rw [SX.split_S hb hz1.2]
        have go : ∀ ys : List (List Nat), Rps K (upd G p (.lst ((((TL.spl b 0 [] l).map S)).map V.str))) (ys.map D.str) ((ys.map S).map V.str) := by
          intro ys
          induction ys with
          | nil => exact rfl
          | cons y ys ih => exact ⟨.str (S y), _, rfl, rfl, ih⟩
        exact go _
    · cases h
  · cases h
end
section
variable {K : Kx} {G H : Hp} {Q : VK}
/-! ### slices -/
def cutL {α : Type} (xs : List α) (lo hi : Option Int) : List α := (xs.drop (HT.sIx xs.length 0 lo)).take (HT.sIx xs.length xs.length hi - HT.sIx xs.length 0 lo)
def sliceD (x : D) (lo hi : Option Int) : Option D :=
  match x with
  | .str l => if l.length ≤ 16777216 then some (.str (cutL l lo hi)) else none
  | .lst ds => some (.lst (cutL ds lo hi))
  | .fls ds => some (.lst (cutL ds lo hi))
  | .tup ds => some (.tup (cutL ds lo hi))
  | _ => none
abbrev RSl := V → Option Int → Option Int → Hp → VK → Prop
def rSl (K : Kx) : RSl := fun x lo hi H Q => rSlS x lo hi H Q ∨ (rSlL K.K x lo hi H Q ∨ rSlF K.K x lo hi H Q)
theorem slr {X : Cx} {K : Kx} (kx : KX K X) : SlR X (rSl K) := by
  unfold rSl
  rw [kx.k]
  exact SlR.or sl_str (SlR.or sl_list sl_tupF)
theorem slice_sound {x d : D} {v : V} {lo hi : Option Int} (h : sliceD x lo hi = some d) (e : Ex G H) (hx : Rq K G H x v) (k : ∀ v G' H', Pu G H G' H' → Rp K G' d v → Q v H') : rSl K v lo hi H Q := by
  have cut : ∀ (ds : List D) (vs : List V), Rps K G ds vs → Rps K G (cutL ds lo hi) (cutV vs lo hi) := fun ds vs r => by
    unfold cutL cutV
    rw [Rps.length ds vs r]
    exact Rps.take _ _ _ (Rps.drop _ _ _ r)
  unfold sliceD at h
  split at h
  · split at h
    · rename_i hz
      cases Option.some.inj h
      cases hx.str
      refine .inl ⟨_, rfl, by rw [S_len]; exact sz_line hz, k _ G H (Pu.refl e) ?_⟩
      show V.str (cutS (S _) lo hi) = V.str (S (cutL _ lo hi))
      unfold cutS cutL
      rw [S_len]
    · cases h
  · cases Option.some.inj h
    obtain ⟨p, us, rfl, p1, p2⟩ := hx.lst e
    exact .inr (.inl ⟨p, us, rfl, SqL.of p1, fun q hq => k _ _ _ (Pu.new e hq) ⟨q, _, rfl, upd_same, Rps.mono (Ex.new (none_of_ex e hq)) _ _ (cut _ _ p2)⟩⟩)
  · cases Option.some.inj h
    obtain ⟨p, us, rfl, p1, p2⟩ := hx.fls
    exact .inr (.inl ⟨p, us, rfl, ex_l e p1, fun q hq => k _ _ _ (Pu.new e hq) ⟨q, _, rfl, upd_same, Rps.mono (Ex.new (none_of_ex e hq)) _ _ (cut _ _ p2)⟩⟩)
  · cases Option.some.inj h
    obtain ⟨p, us, rfl, p1, p2⟩ := hx.tup
    refine .inr (.inr ⟨p, us, rfl, (p1.mono e).sq, fun z => k _ G H (Pu.refl e) ⟨p, us, rfl, p1, ?_⟩, fun _ q o hq ho => k _ _ _ (Pu.new e hq) ⟨q, _, rfl, .new ho, Rps.mono (Ex.new (none_of_ex e hq)) _ _ (cut _ _ p2)⟩⟩)
    have := cut _ _ p2
    have e2 : cutV us lo hi = us := by
      unfold cutV
      rw [z.1, z.2, List.drop_zero, Nat.sub_zero, List.take_length]
    rw [e2] at this
    exact this
  · cases h
end

/-! ### the truth of a value -/
def truD : D → Option Bool
  | .non => some false
  | .bl b => some b
  | .int i => some (i != 0)
  | .str l => if l.length ≤ 16777216 then some ((l.length : Int) != 0) else none
  | .lst ds => some (!ds.isEmpty)
  | .tup ds => some (!ds.isEmpty)
  | _ => none
theorem tru_sound {K : Kx} {G H : Hp} {x : D} {v : V} {b : Bool} (h : truD x = some b) (e : Ex G H) (hx : Rq K G H x v) : TruV K.K v H b := by
  have em : ∀ (ds : List D) (vs : List V), Rps K G ds vs → ds.isEmpty = vs.isEmpty := fun ds vs r => by
    cases ds with
    | nil => cases r; rfl
    | cons d ds => obtain ⟨v, us, rfl, _⟩ := r; rfl
  unfold truD at h
  split at h
  · cases Option.some.inj h; cases hx.non; exact rfl
  · cases Option.some.inj h; cases hx.bl; exact rfl
  · cases Option.some.inj h; cases hx.int; exact rfl
  · split at h
    · rename_i hz
      cases Option.some.inj h; cases hx.str
      exact ⟨by rw [S_len]; exact sz_line hz, by rw [S_len]⟩
    · cases h
  · cases Option.some.inj h
    obtain ⟨p, us, rfl, p1, p2⟩ := hx.lst e
    exact .inl ⟨us, SqL.of p1, by rw [em _ _ p2]⟩
  · cases Option.some.inj h
    obtain ⟨p, us, rfl, p1, p2⟩ := hx.tup
    exact .inr (.inl ⟨us, (p1.mono e).sq, by rw [em _ _ p2]⟩)
  · cases h
end Mq
/-! A small language over HandS, 5: containers and objects of ours, the syntax and its evaluator. -/
namespace Mq
open PySem L2 Evl
open SX (S S_len S_cat S_inj)

/-! ### slots: nothing known, an error, frozen data, or a tree of ours -/
inductive Sl where
  | no | ex | da (d : D) | ls (ds : List D) | dk (ks ds : List D) | ob (c : Nat) (fn : List Nat) (fv : List Sl) | lo (cs : List Sl) | dl (ks : List D) (cs : List Sl)
  deriving Inhabited
abbrev En := List Sl
inductive Stp where
  | f (n : Nat) | ix (n : Nat)
  deriving Inhabited
/-- a place in a state -/
abbrev RP := Nat × List Stp
def isOwS : Sl → Bool
  | .no => false
  | .ex => false
  | .da _ => false
  | .ls _ => true
  | .dk _ _ => true
  | .ob _ _ _ => true
  | .lo _ => true
  | .dl _ _ => true
def kids : Sl → List Sl
  | .ob _ _ fv => fv
  | .lo cs => cs
  | _ => []
def fix : List Nat → Nat → Option Nat
  | [], _ => none
  | x :: r, n => if x = n then some 0 else (fix r n).map (· + 1)
def stepIx : Sl → Stp → Option Nat
  | .ob _ fn _, .f n => fix fn n
  | .lo _, .ix n => some n
  | _, _ => none
def getS : Sl → List Stp → Option Sl
  | s, [] => some s
  | s, p :: r => (stepIx s p).bind fun i => ((kids s)[i]?).bind fun k => getS k r
def withKid (s : Sl) (i : Nat) (k : Sl) : Sl := match s with
  | .ob c fn fv => .ob c fn (fv.set i k)
  | .lo cs => .lo (cs.set i k)
  | s => s
def setS : Sl → List Stp → Sl → Sl
  | _, [], x => x
  | s, p :: r, x => match stepIx s p with
    | some i => match (kids s)[i]? with
      | some k => withKid s i (setS k r x)
      | none => s
    | none => s
def getP (ε : En) (p : RP) : Option Sl := (ε[p.1]?).bind fun s => getS s p.2
def setP (ε : En) (p : RP) (x : Sl) : En := match ε[p.1]? with
  | some s => ε.set p.1 (setS s p.2 x)
  | none => ε
/-- as data that is read only -/
def view : Sl → Option D
  | .da d => some d
  | .ls ds => some (.lst ds)
  | .dk ks ds => some (.dct ks ds)
  | _ => none
mutual
/-- as frozen data -/
def Sl.frz : Sl → Option D
  | .da d => some d
  | .ls ds => some (.lst ds)
  | .dk ks ds => some (.dct ks ds)
  | .lo cs => (frzs cs).map .lst
  | .dl ks cs => (frzs cs).map fun ds => .dct ks ds
  | .no => none
  | .ex => none
  | .ob _ _ _ => none
def frzs : List Sl → Option (List D)
  | [] => some []
  | s :: r => match s.frz, frzs r with
    | some d, some ds => some (d :: ds)
    | _, _ => none
end
/-! two places apart -/
def Stp.sim : Stp → Stp → Bool
  | .f n, .f m => n == m
  | .ix n, .ix m => n == m
  | _, _ => false
def pfx : List Stp → List Stp → Bool
  | [], _ => true
  | _ :: _, [] => false
  | a :: as, b :: bs => a.sim b && pfx as bs
/-- the first place is the second one, or within it -/
def within_ (q rp : RP) : Bool := q.1 == rp.1 && pfx rp.2 q.2
/-- what must stay: slots that are the caller's; nothing of ours may change at all -/
structure Io where
  l : List Nat
  fz : Bool := false

structure Er where
  c : Nat
  fs : List D
inductive R (α : Type) where
  | no | ok (a : α) (ε : En) | er (x : Er) (ε : En)
def R.bind {α β : Type} (r : R α) (f : α → En → R β) : R β :=
  match r with
  | .no => .no
  | .ok a ε => f a ε
  | .er x ε => .er x ε
def R.of {α : Type} (ε : En) : Option α → R α
  | some a => .ok a ε
  | none => .no
def R.noEr {α : Type} : R α → R α
  | .ok a ε => .ok a ε
  | _ => .no
/-- an operand: data, a place, or a new container -/
inductive Ar where
  | d (x : D) | p (rp : RP) | t (s : Sl)
  deriving Inhabited
def Io.add (io : Io) : Ar → Io
  | .p (_, _ :: _) => { l := io.l, fz := true }
  | _ => io
/-- a slot may be given another value -/
def Io.rep (io : Io) (i : Nat) : Bool := !io.l.contains i
def Ar.vw (ε : En) : Ar → Option D
  | .d x => some x
  | .p rp => (getP ε rp).bind view
  | .t _ => none

/-! ### the syntax -/
inductive Pt where
  | nm (j : Nat) | tp (js : List Nat) | ls (js : List Nat)
  deriving Inhabited
inductive Sa where
  | f (n : Nat) | vi (j : Nat)
structure Pa where
  i : Nat
  ss : List Sa := []
mutual
inductive E where
  | var (i : Nat) | pth (P : Pa) | frz (P : Pa) | cst (d : D) | glb (x : Nat)
  | op2 (o : Op2) (a b : E) | opo (o : Op2) (a b : Od)
  | neg (a : E) | rep (a : E) (y z : List Nat) | rep0 (a : E) (y : Nat) (z : List Nat) | chain (o o' : Op2) (a b c : E)
  | and (a b : E) | or (a b : E) | not (a : E) | ite (t : T) (a b : E)
  | tup (es : Es) | mk (m : M)
  | bif (b : Bif) (es : Es) | bifo (b : Bif) (as : As) | mth (m : Mth) (o : Od) (es : Es)
  | slc (a : E) (lo hi : OE) | slo (P : Pa) (lo hi : OE)
  | call (f : Nat) (as : As) | meth (P : Pa) (m : Nat) (as : As) | metht (m : M) (k : Nat) (as : As) | callv (i : Nat) (as : As)
  | pop (P : Pa) | sd (P : Pa) (k e : E)
  | gin (n : Bool) (x : Nat) (e : E) | gix (x : Nat) (e : E) | gget (x : Nat) (e d : E)
  | xf (k i : Nat) | xi (i c : Nat) | xt (i : Nat) (cs : List Nat)
inductive Od where
  | e (e : E) | p (P : Pa)
inductive Es where
  | nil | cons (e : E) (es : Es)
inductive As where
  | nil | cons (o : Od) (as : As) | tm (m : M) (as : As)
inductive OE where
  | no | so (e : E)
inductive T where
  | val (e : E) | tru (e : E) | truo (P : Pa) | and (a b : T) | or (a b : T) | not (a : T)
inductive Ts where
  | nil | one (t : T)
inductive It where
  | lst (e : E) | tup (e : E) | str (e : E) | r1 (a : E) | r2 (a b : E) | own (P : Pa) | keys (m : M) | rev (e : E) | any (e : E)
/-- what makes a new container of ours -/
inductive M where
  | lst (es : Es) | dct (ps : Ps) | cat (a b : Od) | slc (a : E) (lo hi : OE) | bif (b : Bif) (es : Es) | bifo (b : Bif) (as : As)
  | call (f : Nat) (as : As) | meth (P : Pa) (m : Nat) (as : As) | metht (m : M) (k : Nat) (as : As)
  | new (c : Nat) (as : As) | mov (i : Nat) | cpd (a : Od) | srtk (f : Nat) (e : E)
  | lc (own : List Nat) (p : Pt) (it : It) (t : Ts) (e : E) | dc (own : List Nat) (p : Pt) (it : It) (t : Ts) (k e : E)
  | lcD (own : List Nat) (p : Pt) (i : Nat) (t : Ts) (e : E) | dcD (own : List Nat) (p : Pt) (i : Nat) (t : Ts) (k e : E)
inductive Ps where
  | nil | cons (k : D) (e : E) (r : Ps)
end
inductive Fl where
  | nxt | brk | cnt | ret (r : Sl)
mutual
inductive S_ where
  | asg (p : Pt) (e : E) | own (i : Nat) (m : M) | aug (i : Nat) (o : Op2) (e : E)
  | app (P : Pa) (e : E) | dset (P : Pa) (k v : E) | lset (P : Pa) (k v : E) | upd (P : Pa) (e : E)
  | fset (P : Pa) (f : Nat) (e : E) | fown (P : Pa) (f : Nat) (m : M) | faug (P : Pa) (f : Nat) (o : Op2) (e : E)
  | sdapp (i : Nat) (k e : E) | sdset (i : Nat) (k k2 v : E)
  | drop (e : E) | ite (t : T) (a b : Ss) | for_ (p : Pt) (it : It) (b : Ss) | forD (p : Pt) (i : Nat) (b : Ss) | asgs (P : Pa) (ks : List (List Nat)) (e : E) | whl (t : T) (b : Ss)
  | ret (e : E) | retn | retm (m : M) | reto (i : Nat) | brk | cnt | pass | nev
  | rs (c : Nat) (es : Es) | try_ (b : Ss) (hs : Hs)
inductive Ss where
  | nil | cons (s : S_) (r : Ss)
inductive Hs where
  | nil | cons (c i : Nat) (b : Ss) (r : Hs)
end

/-! ### the evaluator -/
/-- the keys of a dict that is data, in this slot -/
def dkOf (ε : En) (i : Nat) : Option (List D) := match ε[i]? with
  | some (.da (.dct ks _)) => if ks.all isF = true then some ks else none
  | _ => none
inductive Cr where
  | no | ok (r : Sl) (as : En) | er (x : Er) (as : En)
structure Cn where
  call : Nat → En → Cr
  gl : Nat → Option D
  gd : Nat → Option (List (List Nat) × List D) := fun _ => none
  mt : Nat → Nat → Option Nat := fun _ _ => none
  hf : Nat → Nat → Bool := fun _ _ => false
  ini : Nat → Option Nat := fun _ => none
  mkc : Nat → En → Cr := fun _ _ => .no
  sub : Nat → Nat → Option Bool := fun _ _ => none
  mkn : Nat → Option (List Nat) := fun _ => none
  ex : Option Er := none
def subAny (c : Cn) (x : Nat) : List Nat → Option Bool
  | [] => some false
  | y :: r => match c.sub x y with
    | some true => some true
    | some false => subAny c x r
    | none => none
def Pa.steps (ε : En) : List Sa → Option (List Stp)
  | [] => some []
  | .f n :: r => (Pa.steps ε r).map (.f n :: ·)
  | .vi j :: r => match ε[j]? with
    | some (.da (.int n)) => if 0 ≤ n then (Pa.steps ε r).map (.ix n.toNat :: ·) else none
    | _ => none
def Pa.res (P : Pa) (ε : En) : Option RP := (Pa.steps ε P.ss).map fun ss => (P.i, ss)
def setAll (ε : En) : List Nat → En → En
  | i :: is, s :: ss => setAll (ε.set i s) is ss
  | _, _ => ε
def Pt.js : Pt → List Nat
  | .nm j => [j]
  | .tp js => js
  | .ls js => js
def Pt.run (io : Io) (p : Pt) (d : D) (ε : En) : R Unit :=
  match p with
  | .nm j => if j < ε.length ∧ io.rep j = true then .ok () (ε.set j (.da d)) else .no
  | .tp js => match d with
    | .tup ds => if ds.length = js.length ∧ (js.all fun j => decide (j < ε.length) && io.rep j) = true then .ok () (setAll ε js (ds.map .da)) else .no
    | _ => .no
  | .ls js => match d with
    | .lst ds => if ds.length = js.length ∧ (js.all fun j => decide (j < ε.length) && io.rep j) = true then .ok () (setAll ε js (ds.map .da)) else .no
    | _ => .no
def rngD (a b : Int) : List D := (List.range (b - a).toNat).map fun (i : Nat) => D.int (a + (i : Int))
def small (i : Int) : Bool := decide (-(2 ^ 62) ≤ i) && decide (i < 2 ^ 62)
/-- the arguments as the callee sees them, taken out -/
def takeOut : En → List Ar → Option (En × En)
  | ε, [] => some (ε, [])
  | ε, .d x :: r => (takeOut ε r).map fun q => (q.1, .da x :: q.2)
  | ε, .p rp :: r => match getP ε rp with
    | some s => if isOwS s = true then (takeOut (setP ε rp .no) r).map fun q => (q.1, s :: q.2) else none
    | none => none
  | ε, .t s :: r => if isOwS s = true then (takeOut ε r).map fun q => (q.1, s :: q.2) else none
def refsOf : List Ar → List RP
  | [] => []
  | .p rp :: r => rp :: refsOf r
  | .d _ :: r => refsOf r
  | .t _ :: r => refsOf r
def apart (a b : RP) : Bool := !within_ a b && !within_ b a
def aparts : List RP → Bool
  | [] => true
  | a :: r => r.all (apart a) && aparts r
/-- our places as the call leaves them -/
def putBack (ε : En) : List Ar → En → En
  | .p rp :: r, s :: as => putBack (setP ε rp s) r as
  | .d _ :: r, _ :: as => putBack ε r as
  | .t _ :: r, _ :: as => putBack ε r as
  | _, _ => ε
def keepOw : En → En → Bool
  | [], _ => true
  | _ :: _, [] => false
  | s :: ss, t :: ts => (!isOwS s || isOwS t) && keepOw ss ts
def allD : List Ar → Bool
  | [] => true
  | .d _ :: r => allD r
  | .p _ :: _ => false
  | .t _ :: _ => false
def callR (c : Cn) (io : Io) (f : Nat) (as : List Ar) (ε : En) : R Sl :=
  if (aparts (refsOf as) && (!io.fz || allD as)) = true then
    match takeOut ε as with
    | none => .no
    | some q => match c.call f q.2 with
      | .no => .no
      | .ok r as' => if keepOw q.2 as' = true then .ok r (putBack q.1 as as') else .no
      | .er x as' => if keepOw q.2 as' = true then .er x (putBack q.1 as as') else .no
  else .no
def wipeE (ε : En) : List Nat → En
  | [] => ε
  | v :: vs => (wipeE ε vs).set v .no
/-- behind a comprehension: its own slots as they were -/
def backE (ε ε' : En) : List Nat → En
  | [] => ε'
  | v :: vs => (backE ε ε' vs).set v (ε.getD v .no)
def lcRun (io : Io) (p : Pt) (t : En → R Bool) (e : En → R D) (own : List Nat) : List D → En → List D → R (List D)
  | [], ε, acc => .ok acc ε
  | d :: ds, ε, acc => (p.run io d ε).bind fun _ ε1 => (t ε1).noEr.bind fun b ε2 =>
    if b then (e ε2).noEr.bind fun y ε3 => if acc.length < 16777216 then lcRun io p t e own ds (wipeE ε3 own) (acc ++ [y]) else .no
    else lcRun io p t e own ds (wipeE ε2 own) acc
def dcRun (io : Io) (p : Pt) (t : En → R Bool) (k e : En → R D) (own : List Nat) : List D → En → List D → List D → R (List D × List D)
  | [], ε, ks, vs => .ok (ks, vs) ε
  | d :: ds, ε, ks, vs => (p.run io d ε).bind fun _ ε1 => (t ε1).noEr.bind fun b ε2 =>
    if b then (k ε2).noEr.bind fun y ε3 => (e ε3).noEr.bind fun z ε4 => if ks.length < 16777216 ∧ dkOk ks y = true then dcRun io p t k e own ds (wipeE ε4 own) (putKs ks y) (putV ks y vs z) else .no
    else dcRun io p t k e own ds (wipeE ε2 own) ks vs
def tyOkD : Mth → D → Bool
  | m, .str _ => m.ty == "str"
  | m, .lst _ => m.ty == "list"
  | m, .tup _ => m.ty == "tuple"
  | m, .dct _ _ => m.ty == "dict"
  | _, _ => false
def ixL (ks : List (List Nat)) (l : List Nat) : Option Nat := ks.findIdx? fun y => decide (y = l)
def Sl.asLs : Option D → Option Sl
  | some (.lst ds) => some (.ls ds)
  | _ => none
def Sl.asDk : Option D → Option Sl
  | some (.dct ks ds) => some (.dk ks ds)
  | _ => none
/-- iterated: the items, the place that is held meanwhile -/
abbrev Itm := List D × Option RP
def ownOk (ε : En) (own : List Nat) : Bool := own.all fun j => match ε[j]? with
  | some s => !isOwS s
  | none => false
def odP (P : Pa) (ε : En) : R Ar := match P.res ε with
  | none => .no
  | some rp => match getP ε rp with
    | none => .no
    | some s => match s with
      | .da d => .ok (.d d) ε
      | s => if isOwS s then .ok (.p rp) ε else .no
/-- what sorted(x, key=f) walks -/
def itK : D → Option (List D)
  | .lst ds => some ds
  | .fls ds => some ds
  | .dct ks _ => some ks
  | _ => none
/-- the keys, one after the other -/
def keysRun (c : Cn) (f : Nat) : List D → Option (List D)
  | [] => some []
  | d :: ds => match c.mkc f [.da d] with
    | .ok (.da k) [_] => (keysRun c f ds).map (k :: ·)
    | _ => none
def sortableB (ks : List D) : Bool := (ks.all fun d => match d with | .tup (_ :: _) => true | _ => false) || ks.all fun d => match d with | .bl _ | .int _ | .str _ => true | _ => false
def skOkB (ds ks : List D) : Bool := ks.all shp && (decide (ds.length < 2) || ((ks.all fun a => ks.all fun b => PySem.W.alike a.py b.py) && sortableB ks))
mutual
def E.run (c : Cn) (io : Io) : E → En → R D
  | .var i, ε => match ε[i]? with
    | some (.da d) => .ok d ε
    | _ => .no
  | .pth P, ε => match (P.res ε).bind (getP ε) with
    | some (.da d) => .ok d ε
    | _ => .no
  | .frz P, ε => match P.res ε with
    | none => .no
    | some rp => match getP ε rp with
      | none => .no
      | some s => match s with
        | .da d => .ok d ε
        | s => if (!io.fz && (!rp.2.isEmpty || io.rep rp.1)) = true then match s.frz with
            | some d => .ok d (setP ε rp (.da d))
            | none => .no
          else .no
  | .cst d, ε => if flat d then .ok d ε else match d with
    | .ty n => .ok (.ty n) ε
    | .fn i => .ok (.fn i) ε
    | _ => .no
  | .glb x, ε => R.of ε (c.gl x)
  | .op2 o a b, ε => (a.run c io ε).bind fun x ε1 => (b.run c io ε1).bind fun y ε2 => R.of ε2 (o.run x y)
  | .opo o a b, ε => (a.run c io ε).bind fun x ε1 => (b.run c (io.add x) ε1).bind fun y ε2 => R.of ε2 ((x.vw ε2).bind fun u => (y.vw ε2).bind fun v => o.run u v)
  | .neg a, ε => (a.run c io ε).bind fun x ε1 => match x with
    | .int i => .ok (.int (-i)) ε1
    | _ => .no
  | .rep a y z, ε => (a.run c io ε).bind fun x ε1 => match x with
    | .str l => if (!y.isEmpty && (decide (y ≠ z) && decide (l.length + (l.length + 1) * z.length ≤ 16777216))) = true then .ok (.str (PySem.StrLaws.replL y z l)) ε1 else .no
    | _ => .no
  | .rep0 a y z, ε => (a.run c io ε).bind fun x ε1 => match x with
    | .str l => if l.contains y = false then .ok (.str l) ε1 else .no
    | _ => .no
  | .chain o o' a b e, ε => (a.run c io ε).bind fun x ε1 => (b.run c io ε1).bind fun y ε2 => match o.run x y with
    | some (.bl true) => (e.run c io ε2).bind fun z ε3 => R.of ε3 (o'.run y z)
    | some (.bl false) => .ok (.bl false) ε2
    | _ => .no
  | .and a b, ε => (a.run c io ε).bind fun x ε1 => match truD x with
    | some true => b.run c io ε1
    | some false => .ok x ε1
    | none => .no
  | .or a b, ε => (a.run c io ε).bind fun x ε1 => match truD x with
    | some true => .ok x ε1
    | some false => b.run c io ε1
    | none => .no
  | .not a, ε => (a.run c io ε).bind fun x ε1 => R.of ε1 ((truD x).map fun b => .bl (!b))
  | .ite t a b, ε => (t.run c io ε).bind fun k ε1 => if k then a.run c io ε1 else b.run c io ε1
  | .tup es, ε => (es.run c io ε).bind fun xs ε1 => if xs.length ≤ 16777216 then .ok (.tup xs) ε1 else .no
  | .mk m, ε => (m.run c io ε).bind fun s ε1 => R.of ε1 s.frz
  | .bif b es, ε => (es.run c io ε).bind fun xs ε1 => R.of ε1 (b.run xs)
  | .bifo b as, ε => (as.run c io ε).bind fun xs ε1 => R.of ε1 ((xs.mapM (Ar.vw ε1)).bind fun ys => b.run ys)
  | .mth m o es, ε => (o.run c io ε).bind fun x ε1 => match x.vw ε1 with
    | none => .no
    | some u0 => if tyOkD m u0 then (es.run c (io.add x) ε1).bind fun xs ε2 => R.of ε2 ((x.vw ε2).bind fun u => m.run u xs) else .no
  | .slc a lo hi, ε => (a.run c io ε).bind fun x ε1 => (lo.run c io ε1).bind fun l ε2 => (hi.run c io ε2).bind fun h ε3 => R.of ε3 (sliceD x l h)
  | .slo P lo hi, ε => (odP P ε).bind fun x ε1 => (lo.run c (io.add x) ε1).bind fun l ε2 => (hi.run c (io.add x) ε2).bind fun h ε3 => R.of ε3 ((x.vw ε3).bind fun u => sliceD u l h)
  | .call f as, ε => (as.run c io ε).bind fun xs ε1 => (callR c io f xs ε1).bind fun r ε2 => R.of ε2 r.frz
  | .meth P m as, ε => match P.res ε with
    | none => .no
    | some rp => match getP ε rp with
      | some (.ob cl _ _) => match c.mt cl m with
        | some f => (as.run c (io.add (.p rp)) ε).bind fun xs ε1 => (callR c io f (.p rp :: xs) ε1).bind fun r ε2 => R.of ε2 r.frz
        | none => .no
      | _ => .no
  | .metht k m as, ε => (k.run c io ε).bind fun s ε1 => match s with
    | .ob cl fn fv => match c.mt cl m with
      | some f => (as.run c io ε1).bind fun xs ε2 => (callR c io f (.t (.ob cl fn fv) :: xs) ε2).bind fun r ε3 => R.of ε3 r.frz
      | none => .no
    | _ => .no
  | .callv i as, ε => match ε[i]? with
    | some (.da (.fn f)) => (as.run c io ε).bind fun xs ε1 => (callR c io f xs ε1).bind fun r ε2 => R.of ε2 r.frz
    | _ => .no
  | .pop P, ε => match P.res ε with
    | none => .no
    | some rp => if !io.fz then match getP ε rp with
        | some (.ls (d :: ds)) => .ok d (setP ε rp (.ls ds))
        | _ => .no
      else .no
  | .sd P k e, ε => match P.res ε with
    | none => .no
    | some rp => match getP ε rp with
      | some (.dk _ _) => (k.run c (io.add (.p rp)) ε).bind fun x ε1 => (e.run c (io.add (.p rp)) ε1).bind fun y ε2 => if !io.fz then match getP ε2 rp with
          | some (.dk ks ds) => if ks.length < 16777216 ∧ dkOk ks x = true then match (ixk ks x).bind fun i => ds[i]? with
              | some z => .ok z ε2
              | none => .ok y (setP ε2 rp (.dk (putKs ks x) (putV ks x ds y)))
            else .no
          | _ => .no
        else .no
      | _ => .no
  | .gin n x e, ε => (e.run c io ε).bind fun y ε1 => match c.gd x, y with
    | some (ks, _), .str l => .ok (.bl (n != (ixL ks l).isSome)) ε1
    | _, _ => .no
  | .gix x e, ε => (e.run c io ε).bind fun y ε1 => match c.gd x, y with
    | some (ks, ds), .str l => R.of ε1 ((ixL ks l).bind fun i => ds[i]?)
    | _, _ => .no
  | .gget x e d, ε => (e.run c io ε).bind fun y ε1 => (d.run c io ε1).bind fun z ε2 => match c.gd x, y with
    | some (ks, ds), .str l => .ok (((ixL ks l).bind fun i => ds[i]?).getD z) ε2
    | _, _ => .no
  | .xf k i, ε => match c.ex, ε[i]? with
    | some x, some .ex => R.of ε ((c.mkn x.c).bind fun ns => (fix ns k).bind fun j => x.fs[j]?)
    | _, _ => .no
  | .xi i y, ε => match c.ex, ε[i]? with
    | some x, some .ex => R.of ε ((c.sub x.c y).map .bl)
    | _, _ => .no
  | .xt i ys, ε => match c.ex, ε[i]? with
    | some x, some .ex => if ys.length ≤ 1000 then R.of ε ((subAny c x.c ys).map .bl) else .no
    | _, _ => .no
def Od.run (c : Cn) (io : Io) : Od → En → R Ar
  | .e e, ε => (e.run c io ε).bind fun x ε1 => .ok (.d x) ε1
  | .p P, ε => odP P ε
def Es.run (c : Cn) (io : Io) : Es → En → R (List D)
  | .nil, ε => .ok [] ε
  | .cons e es, ε => (e.run c io ε).bind fun x ε1 => (es.run c io ε1).bind fun xs ε2 => .ok (x :: xs) ε2
def As.run (c : Cn) (io : Io) : As → En → R (List Ar)
  | .nil, ε => .ok [] ε
  | .cons o as, ε => (o.run c io ε).bind fun x ε1 => (as.run c (io.add x) ε1).bind fun xs ε2 => .ok (x :: xs) ε2
  | .tm m as, ε => (m.run c io ε).bind fun s ε1 => (as.run c io ε1).bind fun xs ε2 => .ok (.t s :: xs) ε2
def OE.run (c : Cn) (io : Io) : OE → En → R (Option Int)
  | .no, ε => .ok none ε
  | .so e, ε => (e.run c io ε).bind fun x ε1 => match x with
    | .int i => .ok (some i) ε1
    | _ => .no
def T.run (c : Cn) (io : Io) : T → En → R Bool
  | .val e, ε => (e.run c io ε).bind fun x ε1 => match x with
    | .bl b => .ok b ε1
    | _ => .no
  | .tru e, ε => (e.run c io ε).bind fun x ε1 => R.of ε1 (truD x)
  | .truo P, ε => (odP P ε).bind fun x ε1 => R.of ε1 ((x.vw ε1).bind truD)
  | .and a b, ε => (a.run c io ε).bind fun k ε1 => if k then b.run c io ε1 else .ok false ε1
  | .or a b, ε => (a.run c io ε).bind fun k ε1 => if k then .ok true ε1 else b.run c io ε1
  | .not a, ε => (a.run c io ε).bind fun k ε1 => .ok (!k) ε1
def Ts.run (c : Cn) (io : Io) : Ts → En → R Bool
  | .nil, ε => .ok true ε
  | .one t, ε => t.run c io ε
def It.run (c : Cn) (io : Io) : It → En → R Itm
  | .lst e, ε => (e.run c io ε).bind fun x ε1 => match x with
    | .lst ds => .ok (ds, none) ε1
    | .fls ds => .ok (ds, none) ε1
    | _ => .no
  | .tup e, ε => (e.run c io ε).bind fun x ε1 => match x with
    | .tup ds => .ok (ds, none) ε1
    | _ => .no
  | .str e, ε => (e.run c io ε).bind fun x ε1 => match x with
    | .str l => .ok (l.map fun c => .str [c], none) ε1
    | _ => .no
  | .r1 a, ε => (a.run c io ε).bind fun x ε1 => match x with
    | .int i => if small i then .ok (rngD 0 i, none) ε1 else .no
    | _ => .no
  | .r2 a b, ε => (a.run c io ε).bind fun x ε1 => (b.run c io ε1).bind fun y ε2 => match x, y with
    | .int i, .int j => if small i && small j then .ok (rngD i j, none) ε2 else .no
    | _, _ => .no
  | .own P, ε => match P.res ε with
    | none => .no
    | some rp => match getP ε rp with
      | some (.ls ds) => .ok (ds, some rp) ε
      | some (.da (.lst ds)) => .ok (ds, none) ε
      | _ => .no
  | .any e, ε => (e.run c io ε).bind fun x ε1 => match x with
    | .lst ds => .ok (ds, none) ε1
    | .tup ds => .ok (ds, none) ε1
    | _ => .no
  | .rev e, ε => (e.run c io ε).bind fun x ε1 => match x with
    | .lst ds => .ok (ds.reverse, none) ε1
    | .tup ds => .ok (ds.reverse, none) ε1
    | _ => .no
  | .keys m, ε => (m.run c io ε).bind fun s ε1 => match s with
    | .dk ks _ => if (ks.all isF && !io.fz) = true then .ok (ks, none) ε1 else .no
    | _ => .no
def M.run (c : Cn) (io : Io) : M → En → R Sl
  | .lst es, ε => (es.run c io ε).bind fun xs ε1 => if xs.length ≤ 16777216 then .ok (.ls xs) ε1 else .no
  | .dct ps, ε => (ps.run c io ε).bind fun kvs ε1 => if kvs.length ≤ 15 ∧ (kvs.all fun q => isF q.1) = true then .ok (kvs.foldl (fun (a : Sl) p => match a with | .dk ks ds => .dk (putKs ks p.1) (putV ks p.1 ds p.2) | a => a) (.dk [] [])) ε1 else .no
  | .cat a b, ε => (a.run c io ε).bind fun x ε1 => (b.run c (io.add x) ε1).bind fun y ε2 => R.of ε2 (Sl.asLs ((x.vw ε2).bind fun u => (y.vw ε2).bind fun v => Op2.add.run u v))
  | .slc a lo hi, ε => (a.run c io ε).bind fun x ε1 => (lo.run c io ε1).bind fun l ε2 => (hi.run c io ε2).bind fun h ε3 => R.of ε3 (Sl.asLs (sliceD x l h))
  | .bif b es, ε => (es.run c io ε).bind fun xs ε1 => R.of ε1 (Sl.asLs (b.run xs))
  | .bifo b as, ε => (as.run c io ε).bind fun xs ε1 => R.of ε1 (Sl.asLs ((xs.mapM (Ar.vw ε1)).bind fun ys => b.run ys))
  | .call f as, ε => (as.run c io ε).bind fun xs ε1 => (callR c io f xs ε1).bind fun r ε2 => if isOwS r then .ok r ε2 else .no
  | .meth P m as, ε => match P.res ε with
    | none => .no
    | some rp => match getP ε rp with
      | some (.ob cl _ _) => match c.mt cl m with
        | some f => (as.run c (io.add (.p rp)) ε).bind fun xs ε1 => (callR c io f (.p rp :: xs) ε1).bind fun r ε2 => if isOwS r then .ok r ε2 else .no
        | none => .no
      | _ => .no
  | .metht k m as, ε => (k.run c io ε).bind fun s ε1 => match s with
    | .ob cl fn fv => match c.mt cl m with
      | some f => (as.run c io ε1).bind fun xs ε2 => (callR c io f (.t (.ob cl fn fv) :: xs) ε2).bind fun r ε3 => if isOwS r then .ok r ε3 else .no
      | none => .no
    | _ => .no
  | .new cl as, ε => match c.ini cl with
    | some f => (as.run c io ε).bind fun xs ε1 => if (aparts (refsOf xs) && (!io.fz || allD xs)) = true then
        match takeOut ε1 xs with
        | none => .no
        | some q => match c.mkc f (.ob cl [] [] :: q.2) with
          | .ok (.da .non) (s :: as') => if (keepOw q.2 as' && isOwS s) = true then .ok s (putBack q.1 xs as') else .no
          | .er x (s :: as') => if (keepOw q.2 as' && isOwS s) = true then .er x (putBack q.1 xs as') else .no
          | _ => .no
      else .no
    | none => .no
  | .mov i, ε => match ε[i]? with
    | some s => if isOwS s = true ∧ io.rep i = true then .ok s (ε.set i .no) else .no
    | none => .no
  | .cpd a, ε => (a.run c io ε).bind fun x ε1 => R.of ε1 (((x.vw ε1).bind fun d => match d with | .dct ks ds => if ks.all isF then some (Sl.dk ks ds) else none | _ => none))
  | .srtk f e, ε => (e.run c io ε).bind fun x ε1 => match itK x with
    | none => .no
    | some ds => match keysRun c f ds with
      | none => .no
      | some ks => if skOkB ds ks = true then .ok (.ls (skSort ds ks)) ε1 else .no
  | .lc own p it t e, ε => (it.run c io ε).bind fun ds ε1 =>
    if ownOk ε1 own = true ∧ (p.js.all fun j => own.contains j) = true ∧ (own.all fun j => io.rep j) = true then
      (lcRun { l := io.l, fz := io.fz || ds.2.isSome } p (t.run c { l := io.l, fz := io.fz || ds.2.isSome }) (e.run c { l := io.l, fz := io.fz || ds.2.isSome }) own ds.1 (wipeE ε1 own) []).noEr.bind fun ys ε2 => .ok (.ls ys) (backE ε1 ε2 own)
    else .no
  | .lcD own p i t e, ε => match dkOf ε i with
    | some ks => if ownOk ε own = true ∧ (p.js.all fun j => own.contains j) = true ∧ (own.all fun j => io.rep j) = true then
      (lcRun { l := io.l, fz := io.fz || false } p (t.run c { l := io.l, fz := io.fz || false }) (e.run c { l := io.l, fz := io.fz || false }) own ks (wipeE ε own) []).noEr.bind fun ys ε2 => .ok (.ls ys) (backE ε ε2 own)
      else .no
    | none => .no
  | .dcD own p i t k e, ε => match dkOf ε i with
    | some ks => if ownOk ε own = true ∧ (p.js.all fun j => own.contains j) = true ∧ (own.all fun j => io.rep j) = true then
      (dcRun { l := io.l, fz := io.fz || false } p (t.run c { l := io.l, fz := io.fz || false }) (k.run c { l := io.l, fz := io.fz || false }) (e.run c { l := io.l, fz := io.fz || false }) own ks (wipeE ε own) [] []).noEr.bind fun ys ε2 => .ok (.dk ys.1 ys.2) (backE ε ε2 own)
      else .no
    | none => .no
  | .dc own p it t k e, ε => (it.run c io ε).bind fun ds ε1 =>
    if ownOk ε1 own = true ∧ (p.js.all fun j => own.contains j) = true ∧ (own.all fun j => io.rep j) = true then
      (dcRun { l := io.l, fz := io.fz || ds.2.isSome } p (t.run c { l := io.l, fz := io.fz || ds.2.isSome }) (k.run c { l := io.l, fz := io.fz || ds.2.isSome }) (e.run c { l := io.l, fz := io.fz || ds.2.isSome }) own ds.1 (wipeE ε1 own) [] []).noEr.bind fun ys ε2 => .ok (.dk ys.1 ys.2) (backE ε1 ε2 own)
    else .no
def Ps.run (c : Cn) (io : Io) : Ps → En → R (List (D × D))
  | .nil, ε => .ok [] ε
  | .cons k e r, ε => if isF k then (e.run c io ε).bind fun x ε1 => (r.run c io ε1).bind fun xs ε2 => .ok ((k, x) :: xs) ε2 else .no
end
def forRun (io : Io) (p : Pt) (b : En → R Fl) : List D → En → R Fl
  | [], ε => .ok .nxt ε
  | d :: ds, ε => (p.run io d ε).bind fun _ ε1 => (b ε1).bind fun fl ε2 => match fl with
    | .nxt => forRun io p b ds ε2
    | .cnt => forRun io p b ds ε2
    | .brk => .ok .nxt ε2
    | .ret r => .ok (.ret r) ε2
def whlRun (t : En → R Bool) (b : En → R Fl) : Nat → En → R Fl
  | 0, _ => .no
  | n + 1, ε => (t ε).bind fun k ε1 => if k then (b ε1).bind fun fl ε2 => match fl with
    | .nxt => whlRun t b n ε2
    | .cnt => whlRun t b n ε2
    | .brk => .ok .nxt ε2
    | .ret r => .ok (.ret r) ε2
    else .ok .nxt ε1
def WF : Nat := 100000000
/-- a dict of containers of ours, or an empty dict -/
def dlS : Sl → Bool
  | .dl _ _ => true
  | .dk [] [] => true
  | _ => false
/-- setdefault(x, new) on it: the dict behind it, the place of x -/
def sdIns (s : Option Sl) (x : D) (new : Sl) : Option (List D × List Sl × Nat) := match s with
  | some (.dl ks cs) => if ks.length < 16777216 ∧ dkOk ks x = true then match ixk ks x with
      | some n => some (ks, cs, n)
      | none => some (ks ++ [x], cs ++ [new], ks.length)
    else none
  | some (.dk [] []) => if dkOk [] x = true then some ([x], [new], 0) else none
  | _ => none
def augV : Op2 → Int → Int → Option Int
  | .add, a, b => some (a + b)
  | .sub, a, b => some (a - b)
  | _, _, _ => none
/-- a field of an object is stored -/
def putFld (hf : Nat → Nat → Bool) (s : Sl) (f : Nat) (x : Sl) : Option Sl := match s with
  | .ob c fn fv => if fn.length < 900 ∧ hf c f = true then match fix fn f with
      | some i => some (.ob c fn (fv.set i x))
      | none => some (.ob c (fn ++ [f]) (fv ++ [x]))
    else none
  | _ => none
/-- these values are put under these texts -/
def dstK (P : Pa) : List (List Nat) → List D → En → Option En
  | [], [], ε => some ε
  | k :: r, x :: xs, ε => match P.res ε with
    | none => none
    | some rp => match getP ε rp with
      | some (.dk ks ds) => if ks.length < 16777216 ∧ dkOk ks (.str k) = true then dstK P r xs (setP ε rp (.dk (putKs ks (.str k)) (putV ks (.str k) ds x))) else none
      | _ => none
  | _, _, _ => none
mutual
def S_.run (c : Cn) (io : Io) : S_ → En → R Fl
  | .asg p e, ε => (e.run c io ε).bind fun x ε1 => (p.run io x ε1).bind fun _ ε2 => .ok .nxt ε2
  | .own i m, ε => (m.run c io ε).bind fun s ε1 => if i < ε1.length ∧ io.rep i = true then .ok .nxt (ε1.set i s) else .no
  | .aug i o e, ε => match ε[i]? with
    | some (.da (.int a)) => (e.run c io ε).bind fun y ε1 => match ε1[i]?, y with
      | some (.da _), .int b => match o with
        | .add => .ok .nxt (ε1.set i (.da (.int (a + b))))
        | .sub => .ok .nxt (ε1.set i (.da (.int (a - b))))
        | _ => .no
      | _, _ => .no
    | _ => .no
  | .app P e, ε => match P.res ε with
    | none => .no
    | some rp => match getP ε rp with
      | some (.ls _) => (e.run c (io.add (.p rp)) ε).bind fun x ε1 => if !io.fz then match getP ε1 rp with
          | some (.ls ds) => if ds.length < 16777216 then .ok .nxt (setP ε1 rp (.ls (ds ++ [x]))) else .no
          | _ => .no
        else .no
      | _ => .no
  | .dset P k v, ε => (v.run c io ε).bind fun x ε1 => match P.res ε1 with
    | none => .no
    | some rp => match getP ε1 rp with
      | some (.dk _ _) => (k.run c (io.add (.p rp)) ε1).bind fun y ε2 => if !io.fz then match getP ε2 rp with
          | some (.dk ks ds) => if ks.length < 16777216 ∧ dkOk ks y = true then .ok .nxt (setP ε2 rp (.dk (putKs ks y) (putV ks y ds x))) else .no
          | _ => .no
        else .no
      | _ => .no
  | .lset P k v, ε => (v.run c io ε).bind fun x ε1 => match P.res ε1 with
    | none => .no
    | some rp => match getP ε1 rp with
      | some (.ls _) => (k.run c (io.add (.p rp)) ε1).bind fun y ε2 => if !io.fz then match getP ε2 rp, y with
          | some (.ls ds), .int n => match (if 0 ≤ n then ixN ds.length n else none) with
            | some j => .ok .nxt (setP ε2 rp (.ls (ds.set j x)))
            | none => .no
          | _, _ => .no
        else .no
      | _ => .no
  | .upd P e, ε => match P.res ε with
    | none => .no
    | some rp => match getP ε rp with
      | some (.dk _ _) => (e.run c (io.add (.p rp)) ε).bind fun x ε1 => if !io.fz then match getP ε1 rp, x with
          | some (.dk ks ds), .dct ks2 ds2 => if ks.length + ks2.length < 16777216 ∧ ks.all isF = true ∧ ks2.all isF = true then
              .ok .nxt (setP ε1 rp ((ks2.zip ds2).foldl (fun (a : Sl) p => match a with | .dk ks ds => .dk (putKs ks p.1) (putV ks p.1 ds p.2) | a => a) (.dk ks ds))) else .no
          | _, _ => .no
        else .no
      | _ => .no
  | .fset P f e, ε => (e.run c io ε).bind fun x ε1 => match P.res ε1 with
    | none => .no
    | some rp => if !io.fz then match (getP ε1 rp).bind fun s => putFld c.hf s f (.da x) with
        | some s => .ok .nxt (setP ε1 rp s)
        | none => .no
      else .no
  | .fown P f m, ε => (m.run c io ε).bind fun x ε1 => match P.res ε1 with
    | none => .no
    | some rp => if !io.fz then match (getP ε1 rp).bind fun s => putFld c.hf s f x with
        | some s => .ok .nxt (setP ε1 rp s)
        | none => .no
      else .no
  | .faug P f o e, ε => match P.res ε with
    | none => .no
    | some rp => match getP ε (rp.1, rp.2 ++ [.f f]) with
      | some (.da (.int a)) => (e.run c { l := io.l, fz := io.fz || true } ε).bind fun y ε1 => if !io.fz then match y with
          | .int b => match augV o a b with
            | some z => match (getP ε1 rp).bind fun s => putFld c.hf s f (.da (.int z)) with
              | some s => .ok .nxt (setP ε1 rp s)
              | none => .no
            | none => .no
          | _ => .no
        else .no
      | _ => .no
  | .sdapp i k e, ε => match ε[i]? with
    | some s => if (!io.fz && io.rep i && dlS s) = true then (k.run c io ε).bind fun x ε1 => match sdIns (ε1[i]?) x (.ls []) with
        | some (ks, cs, n) => match cs[n]? with
          | some (.ls ds) => (e.run c io (ε1.set i .no)).bind fun y ε2 => if ds.length < 16777216 then .ok .nxt (ε2.set i (.dl ks (cs.set n (.ls (ds ++ [y]))))) else .no
          | _ => .no
        | none => .no
      else .no
    | none => .no
  | .sdset i k k2 v, ε => (v.run c io ε).bind fun z ε1 => match ε1[i]? with
    | some s => if (!io.fz && io.rep i && dlS s) = true then (k.run c io ε1).bind fun x ε2 => match sdIns (ε2[i]?) x (.dk [] []) with
        | some (ks, cs, n) => match cs[n]? with
          | some (.dk kk dd) => (k2.run c io (ε2.set i .no)).bind fun y ε3 => if kk.length < 16777216 ∧ dkOk kk y = true then .ok .nxt (ε3.set i (.dl ks (cs.set n (.dk (putKs kk y) (putV kk y dd z))))) else .no
          | _ => .no
        | none => .no
      else .no
    | none => .no
  | .drop e, ε => (e.run c io ε).bind fun _ ε1 => .ok .nxt ε1
  | .ite t a b, ε => (t.run c io ε).bind fun k ε1 => if k then a.run c io ε1 else b.run c io ε1
  | .for_ p it b, ε => (it.run c io ε).bind fun ds ε1 => forRun { l := io.l, fz := io.fz || ds.2.isSome } p (b.run c { l := io.l, fz := io.fz || ds.2.isSome }) ds.1 ε1
  | .asgs P ks e, ε => (e.run c io ε).bind fun x ε1 => match x with
    | .tup xs => if !io.fz then (match dstK P ks xs ε1 with
        | some ε2 => .ok .nxt ε2
        | none => .no) else .no
    | _ => .no
  | .forD p i b, ε => match dkOf ε i with
    | some ks => (forRun { l := io.l, fz := io.fz || false } p (b.run c { l := io.l, fz := io.fz || false }) ks ε).noEr
    | none => .no
  | .whl t b, ε => whlRun (t.run c io) (b.run c io) WF ε
  | .ret e, ε => (e.run c io ε).bind fun x ε1 => .ok (.ret (.da x)) ε1
  | .retn, ε => .ok (.ret (.da .non)) ε
  | .retm m, ε => (m.run c io ε).bind fun s ε1 => .ok (.ret s) ε1
  | .reto i, ε => match ε[i]? with
    | some s => if isOwS s = true ∧ io.rep i = true then .ok (.ret s) (ε.set i .no) else .no
    | none => .no
  | .brk, ε => .ok .brk ε
  | .cnt, ε => .ok .cnt ε
  | .pass, ε => .ok .nxt ε
  | .nev, _ => .no
  | .rs y es, ε => (es.run c io ε).bind fun xs ε1 => match c.mkn y with
    | some ns => if ns.length = xs.length ∧ xs.all flat = true then .er ⟨y, xs⟩ ε1 else .no
    | none => .no
  | .try_ b hs, ε => match b.run c io ε with
    | .er x ε1 => hs.run c io x ε1
    | r => r
def Ss.run (c : Cn) (io : Io) : Ss → En → R Fl
  | .nil, ε => .ok .nxt ε
  | .cons s r, ε => (s.run c io ε).bind fun fl ε1 => match fl with
    | .nxt => r.run c io ε1
    | fl => .ok fl ε1
def Hs.run (c : Cn) (io : Io) : Hs → Er → En → R Fl
  | .nil, x, ε => .er x ε
  | .cons y i b r, x, ε => match c.ex, c.sub x.c y with
    | none, some true => if i < ε.length ∧ io.rep i = true then match b.run { c with ex := some x } io (ε.set i .ex) with
        | .ok fl ε' => .ok fl (ε'.set i .no)
        | _ => .no
      else .no
    | none, some false => r.run c io x ε
    | _, _ => .no
end
/-- a def: how many slots, which parameters are ours, its body -/
structure Fn where
  n : Nat
  ps : Nat
  io : List Nat
  body : Ss
def outs (io : List Nat) (as ε : En) : En := (List.range as.length).map fun i => if i ∈ io then ε.getD i .no else as.getD i .no
/-- which arguments are ours -/
def ioOk (io : List Nat) (as : En) : Bool := (io.all fun i => match as[i]? with | some s => isOwS s | none => false) && (List.range as.length).all fun i => (match as[i]? with | some s => !isOwS s | none => true) || io.contains i
/-- a call of a def, the calls within by c -/
def runF (c : Cn) (fn : Fn) (as : En) : Cr :=
  if as.length = fn.ps ∧ ioOk fn.io as = true then
    match fn.body.run c { l := fn.io } (as ++ List.replicate (fn.n - fn.ps) .no) with
    | .no => .no
    | .er x ε => .er x (outs fn.io as ε)
    | .ok fl ε => match fl with
      | .ret r => .ok r (outs fn.io as ε)
      | .nxt => .ok (.da .non) (outs fn.io as ε)
      | _ => .no
  else .no
/-- a program's part -/
structure Modu where
  fns : List Str
  code : List Fn
  cons : List Str
  vals : List D
  blts : List Str
  dcts : List Str := []
  dvs : List (List (List Nat) × List D) := []
  flds : List Str := []
  mths : List Str := []
  clss : List Str := []
  mtab : List (List (Option Nat)) := []
  hft : List (List Nat) := []
  inis : List (Option Nat) := []
  subs : List (List (Option Bool)) := []
  mks : List (Option (List Nat)) := []
  dms : List (Nat × List D) := []
  dfs : List (Nat × List D) := []
  efs : List Nat := []
  org : List (Sum Str (Str × Str)) := []
def Modu.sub (m : Modu) (i j : Nat) : Option Bool := ((m.subs[i]?).bind fun r => r[j]?).join
def Modu.mt (m : Modu) (i j : Nat) : Option Nat := ((m.mtab[i]?).bind fun r => r[j]?).join
def Modu.hf (m : Modu) (c f : Nat) : Bool := match m.hft[c]? with
  | some l => l.contains f
  | none => false
def Modu.mk_ (m : Modu) (i : Nat) : Option (List Nat) := (m.mks[i]?).join
def Modu.ini (m : Modu) (i : Nat) : Option Nat := (m.inis[i]?).join
/-- what a def's calls see of the module, but the calls -/
def Modu.cn (m : Modu) (call mk : Nat → En → Cr) : Cn := { call := call, mkc := mk, gl := fun i => m.vals[i]?, gd := fun i => m.dvs[i]?, mt := m.mt, hf := m.hf, ini := m.ini, sub := m.sub, mkn := m.mk_ }
/-- the defs at a depth, and one below -/
def callP (m : Modu) : Nat → (Nat → En → Cr) × (Nat → En → Cr)
  | 0 => (fun _ _ => .no, fun _ _ => .no)
  | n + 1 => (fun f as => match m.code[f]? with
    | none => .no
    | some fn => runF (m.cn (callP m n).1 (callP m n).2) fn as, (callP m n).1)
def callN (m : Modu) (n : Nat) : Nat → En → Cr := (callP m n).1
def callL (m : Modu) (n : Nat) : Nat → En → Cr := (callP m n).2
end Mq
/-! A small language over HandS, 6: states. -/
namespace Mq
open PySem L2 Evl
open SX (S S_len S_cat S_inj)

/-! ### what stands for a tree of ours, its addresses -/
mutual
def HV (K : Kx) (G H : Hp) : Sl → V → List Addr → Prop
  | .no, _, A => A = []
  | .ex, _, _ => False
  | .da d, v, A => A = [] ∧ Rp K G d v
  | .ls ds, v, A => ∃ p vs, v = .ref p ∧ A = [p] ∧ H p = some (.lst vs) ∧ Rps K G ds vs
  | .dk ks ds, v, A => ∃ p kr vs, v = .ref p ∧ A = [p] ∧ DcAt K H p ks kr vs ∧ Rps K G ks kr ∧ Rps K G ds vs
  | .ob c fn fv, v, A => ∃ p dx fs B, v = .ref p ∧ A = p :: dx :: B ∧ H p = some (.ins (K.ca c) dx fs) ∧ H dx = some (.own p) ∧ fs.map (·.1) = fn.map K.fl ∧ (∀ f ∈ fn, K.hf c f = true) ∧ HVs K G H fv (fs.map (·.2)) B
  | .lo cs, v, A => ∃ p vs B, v = .ref p ∧ A = p :: B ∧ H p = some (.lst vs) ∧ HVs K G H cs vs B
  | .dl ks cs, v, A => ∃ p kr vs B, v = .ref p ∧ A = p :: B ∧ DcAt K H p ks kr vs ∧ Rps K G ks kr ∧ HVs K G H cs vs B
def HVs (K : Kx) (G H : Hp) : List Sl → List V → List Addr → Prop
  | [], vs, A => vs = [] ∧ A = []
  | s :: ss, vs, A => ∃ v us B C, vs = v :: us ∧ A = B ++ C ∧ HV K G H s v B ∧ HVs K G H ss us C
end
def HS (K : Kx) (G H : Hp) (s : Sl) (o : Option V) (A : List Addr) : Prop := match s with
  | .no => A = []
  | .ex => A = []
  | s => ∃ v, o = some v ∧ HV K G H s v A
def HSs (K : Kx) (G H : Hp) : En → L2.St → List Addr → Prop
  | [], σ, A => σ = [] ∧ A = []
  | s :: ss, σ, A => ∃ o τ B C, σ = o :: τ ∧ A = B ++ C ∧ HS K G H s o B ∧ HSs K G H ss τ C
/-- an object that is no error's dict -/
def Lv (o : Option HO) : Prop := o ≠ none ∧ ∀ fs, o ≠ some (.xd fs)
section
variable {K : Kx} {G G' H H' G1 G2 H1 H2 : Hp}
mutual
theorem HV.mono (e : Ex G G') : ∀ (s : Sl) (v : V) (A : List Addr), (∀ a ∈ A, H' a = H a) → HV K G H s v A → HV K G' H' s v A
  | .no, _, _, _, h => h
  | .ex, _, _, _, h => h
  | .da d, v, A, k, ⟨h1, h2⟩ => ⟨h1, Rp.mono e d v h2⟩
  | .ls ds, v, A, k, h => by
    obtain ⟨p, vs, h1, rfl, h3, h4⟩ := h
    exact ⟨p, vs, h1, rfl, (k p List.mem_cons_self).trans h3, Rps.mono e _ _ h4⟩
  | .dk ks ds, v, A, k, h => by
    obtain ⟨p, kr, vs, h1, rfl, h3, h4, h5⟩ := h
    exact ⟨p, kr, vs, h1, rfl, h3.at fun o q => (k p List.mem_cons_self).trans q, Rps.mono e _ _ h4, Rps.mono e _ _ h5⟩
  | .ob c fn fv, v, A, k, h => by
    obtain ⟨p, dx, fs, B, h1, rfl, h3, h4, h5, h6, h7⟩ := h
    exact ⟨p, dx, fs, B, h1, rfl, (k p List.mem_cons_self).trans h3, (k dx (List.mem_cons_of_mem _ List.mem_cons_self)).trans h4, h5, h6, HVs.mono e fv _ B (fun a ha => k a (List.mem_cons_of_mem _ (List.mem_cons_of_mem _ ha))) h7⟩
  | .lo cs, v, A, k, h => by
    obtain ⟨p, vs, B, h1, rfl, h3, h4⟩ := h
    exact ⟨p, vs, B, h1, rfl, (k p List.mem_cons_self).trans h3, HVs.mono e cs _ B (fun a ha => k a (List.mem_cons_of_mem _ ha)) h4⟩
  | .dl ks cs, v, A, k, h => by
    obtain ⟨p, kr, vs, B, h1, rfl, h3, h4, h5⟩ := h
    exact ⟨p, kr, vs, B, h1, rfl, h3.at fun o q => (k p List.mem_cons_self).trans q, Rps.mono e _ _ h4, HVs.mono e cs _ B (fun a ha => k a (List.mem_cons_of_mem _ ha)) h5⟩
theorem HVs.mono (e : Ex G G') : ∀ (ss : List Sl) (vs : List V) (A : List Addr), (∀ a ∈ A, H' a = H a) → HVs K G H ss vs A → HVs K G' H' ss vs A
  | [], _, _, _, h => h
  | s :: ss, _, _, k, h => by
    obtain ⟨v, us, B, C, h1, rfl, h3, h4⟩ := h
    exact ⟨v, us, B, C, h1, rfl, HV.mono e s v B (fun a ha => k a (List.mem_append_left _ ha)) h3, HVs.mono e ss us C (fun a ha => k a (List.mem_append_right _ ha)) h4⟩
end
theorem HS.mono (e : Ex G G') {s : Sl} {o : Option V} {A : List Addr} (k : ∀ a ∈ A, H' a = H a) (h : HS K G H s o A) : HS K G' H' s o A := by
  cases s <;> first | exact h | (obtain ⟨v, h1, h2⟩ := h; exact ⟨v, h1, HV.mono e _ v A k h2⟩)
theorem HSs.mono (e : Ex G G') : ∀ (ss : En) (σ : L2.St) (A : List Addr), (∀ a ∈ A, H' a = H a) → HSs K G H ss σ A → HSs K G' H' ss σ A
  | [], _, _, _, h => h
  | s :: ss, _, _, k, h => by
    obtain ⟨v, us, B, C, h1, rfl, h3, h4⟩ := h
    exact ⟨v, us, B, C, h1, rfl, HS.mono e (fun a ha => k a (List.mem_append_left _ ha)) h3, HSs.mono e ss us C (fun a ha => k a (List.mem_append_right _ ha)) h4⟩
theorem HSs.len : ∀ {ss : En} {σ : L2.St} {A : List Addr}, HSs K G H ss σ A → ss.length = σ.length
  | [], _, _, h => by rw [h.1]; rfl
  | s :: ss, _, _, h => by
    obtain ⟨v, us, B, C, rfl, rfl, h3, h4⟩ := h
    rw [List.length_cons, List.length_cons, HSs.len h4]
theorem HVs.len : ∀ {ss : List Sl} {σ : List V} {A : List Addr}, HVs K G H ss σ A → ss.length = σ.length
  | [], _, _, h => by rw [h.1]; rfl
  | s :: ss, _, _, h => by
    obtain ⟨v, us, B, C, rfl, rfl, h3, h4⟩ := h
    rw [List.length_cons, List.length_cons, HVs.len h4]
theorem dc_lv {p : Addr} {ks : List D} {kr vs : List V} (h : DcAt K H p ks kr vs) : Lv (H p) := by
  rcases h with ⟨kv, h1, _⟩ | ⟨_, xs, h1, _⟩
  · rw [h1]; exact ⟨(fun z => nomatch z), fun _ z => nomatch z⟩
  · rw [h1]; exact ⟨(fun z => nomatch z), fun _ z => nomatch z⟩
/-! every address of a tree has its object, which is no error's dict -/
mutual
theorem HV.lv : ∀ (s : Sl) (v : V) (A : List Addr), HV K G H s v A → ∀ a ∈ A, Lv (H a)
  | .no, _, _, h, a, ha => by rw [show _ = [] from h] at ha; cases ha
  | .ex, _, _, h, _, _ => h.elim
  | .da d, v, A, h, a, ha => by rw [h.1] at ha; cases ha
  | .ls ds, v, A, h, a, ha => by
    obtain ⟨p, vs, h1, rfl, h3, h4⟩ := h
    rw [List.mem_singleton.mp ha, h3]
    exact ⟨(fun z => nomatch z), fun _ z => nomatch z⟩
  | .dk ks ds, v, A, h, a, ha => by
    obtain ⟨p, kr, vs, h1, rfl, h3, h4⟩ := h
    rw [List.mem_singleton.mp ha]
    exact dc_lv h3
  | .ob c fn fv, v, A, h, a, ha => by
    obtain ⟨p, dx, fs, B, h1, rfl, h3, h4, h5, h6, h7⟩ := h
    rcases List.mem_cons.mp ha with rfl | ha
    · rw [h3]; exact ⟨(fun z => nomatch z), fun _ z => nomatch z⟩
    · rcases List.mem_cons.mp ha with rfl | ha
      · rw [h4]; exact ⟨(fun z => nomatch z), fun _ z => nomatch z⟩
      · exact HVs.lv fv _ B h7 a ha
  | .lo cs, v, A, h, a, ha => by
    obtain ⟨p, vs, B, h1, rfl, h3, h4⟩ := h
    rcases List.mem_cons.mp ha with rfl | ha
    · rw [h3]; exact ⟨(fun z => nomatch z), fun _ z => nomatch z⟩
    · exact HVs.lv cs _ B h4 a ha
  | .dl ks cs, v, A, h, a, ha => by
    obtain ⟨p, kr, vs, B, h1, rfl, h3, h4, h5⟩ := h
    rcases List.mem_cons.mp ha with rfl | ha
    · exact dc_lv h3
    · exact HVs.lv cs _ B h5 a ha
theorem HVs.lv : ∀ (ss : List Sl) (vs : List V) (A : List Addr), HVs K G H ss vs A → ∀ a ∈ A, Lv (H a)
  | [], _, _, h, a, ha => by rw [h.2] at ha; cases ha
  | s :: ss, _, _, h, a, ha => by
    obtain ⟨v, us, B, C, h1, rfl, h3, h4⟩ := h
    rcases List.mem_append.mp ha with ha | ha
    · exact HV.lv s v B h3 a ha
    · exact HVs.lv ss us C h4 a ha
end
theorem HS.lv {s : Sl} {o : Option V} {A : List Addr} (h : HS K G H s o A) : ∀ a ∈ A, Lv (H a) := by
  intro a ha
  cases s <;> first | (have h : A = [] := h; rw [h] at ha; cases ha; done) | (obtain ⟨v, h1, h2⟩ := h; exact HV.lv _ v A h2 a ha)
theorem HSs.lv : ∀ (ss : En) (σ : L2.St) (A : List Addr), HSs K G H ss σ A → ∀ a ∈ A, Lv (H a)
  | [], _, _, h, a, ha => by rw [h.2] at ha; cases ha
  | s :: ss, _, _, h, a, ha => by
    obtain ⟨v, us, B, C, h1, rfl, h3, h4⟩ := h
    rcases List.mem_append.mp ha with ha | ha
    · exact h3.lv a ha
    · exact HSs.lv ss us C h4 a ha
/-! ### one slot, one child -/
theorem HSs.at_ : ∀ (ss : En) (σ : L2.St) (A : List Addr) (i : Nat) (s : Sl), HSs K G H ss σ A → ss[i]? = some s →
    ∃ o B R, σ[i]? = some o ∧ HS K G H s o B ∧ A.Perm (B ++ R) ∧
      ∀ (G' H' : Hp) (s' : Sl) (o' : Option V) (B' : List Addr), Ex G G' → (∀ a ∈ R, H' a = H a) → HS K G' H' s' o' B' → ∃ A', A'.Perm (B' ++ R) ∧ HSs K G' H' (ss.set i s') (σ.set i o') A'
  | [], _, _, _, _, _, e => by simp at e
  | t :: ss, _, _, 0, s, h, e => by
    obtain ⟨o, τ, B, C, rfl, rfl, h3, h4⟩ := h
    cases e
    exact ⟨o, B, C, rfl, h3, List.Perm.refl _, fun G' H' s' o' B' g k h' => ⟨B' ++ C, List.Perm.refl _, o', τ, B', C, rfl, rfl, h', HSs.mono g ss τ C k h4⟩⟩
  | t :: ss, _, _, i + 1, s, h, e => by
    obtain ⟨o, τ, B, C, rfl, rfl, h3, h4⟩ := h
    obtain ⟨o2, B2, R2, e1, e2, e3, e4⟩ := HSs.at_ ss τ C i s h4 e
    refine ⟨o2, B2, B ++ R2, e1, e2, ?_, fun G' H' s' o' B' g k h' => ?_⟩
    · refine (List.Perm.append_left B e3).trans ?_
      rw [← List.append_assoc, ← List.append_assoc]
      exact List.Perm.append_right R2 List.perm_append_comm
    · obtain ⟨A', p1, p2⟩ := e4 G' H' s' o' B' g (fun a ha => k a (List.mem_append_right _ ha)) h'
      refine ⟨B ++ A', ?_, o, τ.set i o', B, A', rfl, rfl, h3.mono g fun a ha => k a (List.mem_append_left _ ha), p2⟩
      refine (List.Perm.append_left B p1).trans ?_
      rw [← List.append_assoc, ← List.append_assoc]
      exact List.Perm.append_right R2 List.perm_append_comm
theorem HVs.at_ : ∀ (ss : List Sl) (vs : List V) (A : List Addr) (i : Nat) (s : Sl), HVs K G H ss vs A → ss[i]? = some s →
    ∃ v B R, vs[i]? = some v ∧ HV K G H s v B ∧ A.Perm (B ++ R) ∧
      ∀ (G' H' : Hp) (s' : Sl) (v' : V) (B' : List Addr), Ex G G' → (∀ a ∈ R, H' a = H a) → HV K G' H' s' v' B' → ∃ A', A'.Perm (B' ++ R) ∧ HVs K G' H' (ss.set i s') (vs.set i v') A'
  | [], _, _, _, _, _, e => by simp at e
  | t :: ss, _, _, 0, s, h, e => by
    obtain ⟨v, us, B, C, rfl, rfl, h3, h4⟩ := h
    cases e
    exact ⟨v, B, C, rfl, h3, List.Perm.refl _, fun G' H' s' v' B' g k h' => ⟨B' ++ C, List.Perm.refl _, v', us, B', C, rfl, rfl, h', HVs.mono g ss us C k h4⟩⟩
  | t :: ss, _, _, i + 1, s, h, e => by
    obtain ⟨v, us, B, C, rfl, rfl, h3, h4⟩ := h
    obtain ⟨v2, B2, R2, e1, e2, e3, e4⟩ := HVs.at_ ss us C i s h4 e
    refine ⟨v2, B2, B ++ R2, e1, e2, ?_, fun G' H' s' v' B' g k h' => ?_⟩
    · refine (List.Perm.append_left B e3).trans ?_
      rw [← List.append_assoc, ← List.append_assoc]
      exact List.Perm.append_right R2 List.perm_append_comm
    · obtain ⟨A', p1, p2⟩ := e4 G' H' s' v' B' g (fun a ha => k a (List.mem_append_right _ ha)) h'
      refine ⟨B ++ A', ?_, v, us.set i v', B, A', rfl, rfl, HV.mono g _ _ _ (fun a ha => k a (List.mem_append_left _ ha)) h3, p2⟩
      refine (List.Perm.append_left B p1).trans ?_
      rw [← List.append_assoc, ← List.append_assoc]
      exact List.Perm.append_right R2 List.perm_append_comm
theorem HVs.snoc : ∀ (ss : List Sl) (vs : List V) (A : List Addr) (s : Sl) (v : V) (B : List Addr), HVs K G H ss vs A → HV K G H s v B → HVs K G H (ss ++ [s]) (vs ++ [v]) (A ++ B)
  | [], _, _, s, v, B, h, h' => by
    obtain ⟨rfl, rfl⟩ := h
    exact ⟨v, [], B, [], rfl, (List.append_nil B).symm, h', rfl, rfl⟩
  | t :: ss, _, _, s, v, B, h, h' => by
    obtain ⟨u, us, C, E, rfl, rfl, h3, h4⟩ := h
    exact ⟨u, us ++ [v], C, E ++ B, rfl, by rw [List.append_assoc], h3, HVs.snoc ss us E s v B h4 h'⟩
/-! ### a walk in the heap -/
/-- from the value v along these steps to u -/
def AtH (K : Kx) (H : Hp) : V → List Stp → V → Prop
  | v, [], u => u = v
  | v, .f n :: r, u => ∃ a c dx fs w, v = .ref a ∧ H a = some (.ins (K.ca c) dx fs) ∧ K.hf c n = true ∧ fs.lookup (K.fl n) = some w ∧ AtH K H w r u
  | v, .ix n :: r, u => ∃ a vs w, v = .ref a ∧ H a = some (.lst vs) ∧ vs[n]? = some w ∧ AtH K H w r u
theorem AtH.ex (e : Ex H H') : ∀ (r : List Stp) (v u : V), AtH K H v r u → AtH K H' v r u
  | [], _, _, h => h
  | .f n :: r, _, _, h => by
    obtain ⟨a, C, dx, fs, w, h1, h2, h0, h3, h4⟩ := h
    exact ⟨a, C, dx, fs, w, h1, e _ _ h2, h0, h3, AtH.ex e r _ _ h4⟩
  | .ix n :: r, _, _, h => by
    obtain ⟨a, vs, w, h1, h2, h3, h4⟩ := h
    exact ⟨a, vs, w, h1, e _ _ h2, h3, AtH.ex e r _ _ h4⟩
theorem AtH.det : ∀ (r : List Stp) (v u w : V), AtH K H v r u → AtH K H v r w → u = w
  | [], _, _, _, h1, h2 => h1.trans h2.symm
  | .f n :: r, _, u, w, h1, h2 => by
    obtain ⟨a, C, dx, fs, x, rfl, a2, a0, a3, a4⟩ := h1
    obtain ⟨b, C', dx', fs', y, e, b2, b0, b3, b4⟩ := h2
    cases e
    rw [a2] at b2
    injection b2 with b2
    injection b2 with _ _ b2
    subst b2
    rw [a3] at b3
    cases b3
    exact AtH.det r _ _ _ a4 b4
  | .ix n :: r, _, u, w, h1, h2 => by
    obtain ⟨a, vs, x, rfl, a2, a3, a4⟩ := h1
    obtain ⟨b, vs', y, e, b2, b3, b4⟩ := h2
    cases e
    rw [a2] at b2
    injection b2 with b2
    injection b2 with b2
    subst b2
    rw [a3] at b3
    cases b3
    exact AtH.det r _ _ _ a4 b4
end
end Mq
/-! A small language over HandS, 7: states, steps. -/
namespace Mq
open PySem L2 Evl
open SX (S S_len S_cat S_inj)
/-- what the names of fields must be -/
structure KD (K : Kx) : Prop where
  inj : ∀ c f g, K.hf c f = true → K.hf c g = true → K.fl f = K.fl g → f = g
section
variable {K : Kx} {G G' H H' G1 G2 H1 H2 : Hp}
theorem fix_mem : ∀ {fn : List Nat} {n i : Nat}, fix fn n = some i → fn[i]? = some n
  | [], _, _, h => by cases h
  | x :: r, n, i, h => by
    unfold fix at h
    split at h
    · rename_i e
      cases h
      rw [← e]
      rfl
    · obtain ⟨j, hj, e⟩ := Option.map_eq_some_iff.mp h
      subst e
      exact (fix_mem (fn := r) hj : r[j]? = some n)
theorem fix_lookup (hd : KD K) {c : Nat} {n : Nat} (hn : K.hf c n = true) : ∀ {fn : List Nat} {fs : List (Str × V)}, fs.map (·.1) = fn.map K.fl → (∀ f ∈ fn, K.hf c f = true) → fs.lookup (K.fl n) = (fix fn n).bind fun i => (fs.map (·.2))[i]?
  | [], [], _, _ => rfl
  | [], _ :: _, h, _ => by cases h
  | _ :: _, [], h, _ => by cases h
  | x :: fn, q :: fs, h, hf => by
    rw [List.map_cons, List.map_cons] at h
    injection h with h1 h2
    obtain ⟨q1, q2⟩ := q
    have h1 : q1 = K.fl x := h1
    unfold fix
    by_cases z : x = n
    · subst z
      rw [if_pos rfl]
      simp [List.lookup, h1]
    · rw [if_neg z]
      have ne : ¬ K.fl n = q1 := fun y => z (hd.inj c x n (hf x List.mem_cons_self) hn (by rw [← h1, y]))
      have nb : (K.fl n == q1) = false := beq_eq_false_iff_ne.mpr ne
      have ih := fix_lookup hd hn h2 fun f hm => hf f (List.mem_cons_of_mem _ hm)
      simp only [List.lookup, nb]
      rw [ih]
      cases fix fn n <;> rfl
theorem set_same {α : Type} : ∀ {l : List α} {i : Nat} {x : α}, l[i]? = some x → l.set i x = l
  | [], _, _, h => by simp at h
  | y :: l, 0, x, h => by cases h; rfl
  | y :: l, i + 1, x, h => by
    rw [List.set_cons_succ, set_same (show l[i]? = some x from h)]
theorem HV.focus (hd : KD K) {x : Sl} : ∀ (ps : List Stp) (s : Sl) (v : V) (A : List Addr), HV K G H s v A → getS s ps = some x →
    ∃ u B R, (∀ H', (∀ a ∈ R, H' a = H a) → AtH K H' v ps u) ∧ HV K G H x u B ∧ A.Perm (B ++ R) ∧
      ∀ (G' H' : Hp) (x' : Sl) (B' : List Addr), Ex G G' → (∀ a ∈ R, H' a = H a) → HV K G' H' x' u B' → ∃ A', A'.Perm (B' ++ R) ∧ HV K G' H' (setS s ps x') v A'
  | [], s, v, A, h, e => by
    unfold getS at e
    cases e
    exact ⟨v, A, [], (fun _ _ => rfl), h, by rw [List.append_nil], fun G' H' x' B' g k h' => ⟨B', by rw [List.append_nil], by unfold setS; exact h'⟩⟩
  | p :: r, s, v, A, h, e => by
    unfold getS at e
    obtain ⟨i, e1, e'⟩ := Option.bind_eq_some_iff.mp e
    obtain ⟨k, e2, ee⟩ := Option.bind_eq_some_iff.mp e'
    clear e e'
    have hset : ∀ x', setS s (p :: r) x' = withKid s i (setS k r x') := fun x' => by
      conv => lhs; unfold setS
      rw [e1]
      simp only [e2]
    cases s with
    | ob c fn fv =>
      cases p with
      | f n =>
        have e1 : fix fn n = some i := e1
        have e2 : fv[i]? = some k := e2
        obtain ⟨a, dx, fs, B, rfl, rfl, h3, h4, h5, h6, h7⟩ := h
        have hn := h6 n (List.mem_of_getElem? (fix_mem e1))
        obtain ⟨w, C, R, w1, w2, w3, w4⟩ := HVs.at_ fv _ B i k h7 e2
        obtain ⟨u, D, R2, u1, u2, u3, u4⟩ := HV.focus hd r k w C w2 ee
        refine ⟨u, D, a :: dx :: (R2 ++ R), (fun H' kk => ⟨a, c, dx, fs, w, rfl, (kk a List.mem_cons_self).trans h3, hn, ?_, u1 H' fun b hb => kk b (List.mem_cons_of_mem _ (List.mem_cons_of_mem _ (List.mem_append_left _ hb)))⟩), u2, ?_, fun G' H' x' B' g kk h' => ?_⟩
        · rw [fix_lookup hd hn h5 h6, e1]
          exact w1
        · refine (List.Perm.cons a (List.Perm.cons dx (w3.trans (List.Perm.append_right R u3)))).trans ?_
          rw [List.append_assoc]
          refine ((List.Perm.cons a (List.perm_middle.symm)).trans ?_)
          exact List.perm_middle.symm
        · obtain ⟨C', c1, c2⟩ := u4 G' H' x' B' g (fun b hb => kk b (List.mem_cons_of_mem _ (List.mem_cons_of_mem _ (List.mem_append_left _ hb)))) h'
          obtain ⟨A', a1, a2⟩ := w4 G' H' (setS k r x') w C' g (fun b hb => kk b (List.mem_cons_of_mem _ (List.mem_cons_of_mem _ (List.mem_append_right _ hb)))) c2
          rw [set_same w1] at a2
          refine ⟨a :: dx :: A', ?_, ?_⟩
          · refine (List.Perm.cons a (List.Perm.cons dx (a1.trans (List.Perm.append_right R c1)))).trans ?_
            rw [List.append_assoc]
            refine ((List.Perm.cons a (List.perm_middle.symm)).trans ?_)
            exact List.perm_middle.symm
          · rw [hset]
            exact ⟨a, dx, fs, A', rfl, rfl, (kk a List.mem_cons_self).trans h3, (kk dx (List.mem_cons_of_mem _ List.mem_cons_self)).trans h4, h5, h6, a2⟩
      | ix n => cases e1
    | lo cs =>
      cases p with
      | ix n =>
        have e1 : some n = some i := e1
        obtain rfl : n = i := Option.some.inj e1
        have e2 : cs[n]? = some k := e2
        obtain ⟨a, vs, B, rfl, rfl, h3, h4⟩ := h
        obtain ⟨w, C, R, w1, w2, w3, w4⟩ := HVs.at_ cs _ B n k h4 e2
        obtain ⟨u, D, R2, u1, u2, u3, u4⟩ := HV.focus hd r k w C w2 ee
        refine ⟨u, D, a :: (R2 ++ R), (fun H' kk => ⟨a, vs, w, rfl, (kk a List.mem_cons_self).trans h3, w1, u1 H' fun b hb => kk b (List.mem_cons_of_mem _ (List.mem_append_left _ hb))⟩), u2, ?_, fun G' H' x' B' g kk h' => ?_⟩
        · refine (List.Perm.cons a (w3.trans (List.Perm.append_right R u3))).trans ?_
          rw [List.append_assoc]
          exact List.perm_middle.symm
        · obtain ⟨C', c1, c2⟩ := u4 G' H' x' B' g (fun b hb => kk b (List.mem_cons_of_mem _ (List.mem_append_left _ hb))) h'
          obtain ⟨A', a1, a2⟩ := w4 G' H' (setS k r x') w C' g (fun b hb => kk b (List.mem_cons_of_mem _ (List.mem_append_right _ hb))) c2
          rw [set_same w1] at a2
          refine ⟨a :: A', ?_, ?_⟩
          · refine (List.Perm.cons a (a1.trans (List.Perm.append_right R c1))).trans ?_
            rw [List.append_assoc]
            exact List.perm_middle.symm
          · rw [hset]
            exact ⟨a, vs, A', rfl, rfl, (kk a List.mem_cons_self).trans h3, a2⟩
      | f n => cases e1
    | no => cases e1
    | ex => cases e1
    | da _ => cases e1
    | ls _ => cases e1
    | dk _ _ => cases e1
    | dl _ _ => cases e1
/-- what stays as it is in a def's body: the parameters of ours; in a clause behind a try, the error's slot and place; what is frozen from the start -/
structure Pin where
  l : List (Nat × Addr)
  fz : Bool := false
  xi : Nat := 0
  xa : Option Addr := none
  g0 : Hp := fun _ => none
abbrev Pin.nil : Pin := { l := [] }
def Pin.io (pn : Pin) : Io := { l := pn.l.map (·.1), fz := pn.fz }
structure Ok (K : Kx) (pn : Pin) (σ : L2.St) (ε : En) (G H : Hp) (A : List Addr) : Prop where
  ex : Ex G H
  st : HSs K G H ε σ A
  nd : A.Nodup
  gn : ∀ a ∈ A, G a = none
  pin : ∀ q ∈ pn.l, σ[q.1]? = some (some (.ref q.2)) ∧ ∃ s, ε[q.1]? = some s ∧ isOwS s = true
  px : ∀ i : Nat, ε[i]? = some .ex → i = pn.xi ∧ ∃ a, pn.xa = some a ∧ σ[i]? = some (some (.ref a))
  g0 : Ex pn.g0 G
structure Aft (K : Kx) (pn : Pin) (σ : L2.St) (ε : En) (G H : Hp) (A : List Addr) (σ' : L2.St) (ε' : En) (G' H' : Hp) (A' : List Addr) : Prop where
  ok : Ok K pn σ' ε' G' H' A'
  g : Ex G G'
  h : ∀ a o, a ∉ A → H a = some o → H' a = some o
  f : ∀ a, a ∉ A → G a = none → Lv (H a) → G' a = none
  w : ∀ a, a ∈ A' → a ∈ A ∨ H a = none
  z : pn.fz = true → Ex H H'
variable {pn : Pin} {σ σ1 σ2 : L2.St} {ε ε1 ε2 : En} {A A1 A2 A' : List Addr}
theorem Aft.refl (o : Ok K pn σ ε G H A) : Aft K pn σ ε G H A σ ε G H A := ⟨o, Ex.refl G, fun _ _ _ e => e, fun _ _ e _ => e, fun _ e => .inl e, fun _ => Ex.refl H⟩
theorem Aft.trans (a : Aft K pn σ ε G H A σ1 ε1 G1 H1 A1) (b : Aft K pn σ1 ε1 G1 H1 A1 σ2 ε2 G2 H2 A2) : Aft K pn σ ε G H A σ2 ε2 G2 H2 A2 := by
  have up : ∀ x o, x ∉ A → H x = some o → x ∉ A1 := fun x o n e z => by
    rcases a.w x z with z | z
    · exact n z
    · rw [e] at z; cases z
  refine ⟨b.ok, a.g.trans b.g, fun x o n e => b.h x o (up x o n e) (a.h x o n e), fun x n g e => ?_, fun x z => ?_, fun q => (a.z q).trans (b.z q)⟩
  · cases q : H x with
    | none => exact absurd q e.1
    | some o =>
      exact b.f x (up x o n q) (a.f x n g e) (by rw [a.h x o n q, ← q]; exact e)
  · rcases b.w x z with z | z
    · exact a.w x z
    · by_cases n : x ∈ A
      · exact .inl n
      · refine .inr ?_
        cases q : H x with
        | none => rfl
        | some o => rw [a.h x o n q] at z; cases z
theorem Ok.lv (o : Ok K pn σ ε G H A) : ∀ a ∈ A, Lv (H a) := HSs.lv _ _ _ o.st
theorem Ok.len (o : Ok K pn σ ε G H A) : ε.length = σ.length := o.st.len
theorem lv_some {o : Option HO} (h : Lv o) : ∃ u, o = some u := by
  cases o with
  | none => exact absurd rfl h.1
  | some u => exact ⟨u, rfl⟩
theorem Ok.pu (o : Ok K pn σ ε G H A) (p : Pu G H G' H') : Ok K pn σ ε G' H' A := by
  refine ⟨p.i, HSs.mono p.g _ _ _ (fun a ha => ?_) o.st, o.nd, fun a ha => p.f a (o.gn a ha) (o.lv a ha).1, o.pin, o.px, o.g0.trans p.g⟩
  obtain ⟨u, hu⟩ := lv_some (o.lv a ha)
  rw [hu]
  exact p.h a u hu
theorem Aft.pu (o : Ok K pn σ ε G H A) (p : Pu G H G' H') : Aft K pn σ ε G H A σ ε G' H' A :=
  ⟨o.pu p, p.g, fun a u _ e => p.h a u e, fun a _ g e => p.f a g e.1, fun _ e => .inl e, fun _ => p.h⟩
theorem Ok.da (o : Ok K pn σ ε G H A) {i : Nat} {d : D} (e : ε[i]? = some (.da d)) : ∃ v, σ[i]? = some (some v) ∧ Rp K G d v := by
  obtain ⟨w, B, R, h1, ⟨v, rfl, _, h2⟩, _⟩ := HSs.at_ _ _ _ _ _ o.st e
  exact ⟨v, h1, h2⟩
theorem hs_ow {s : Sl} {o : Option V} {B : List Addr} (h : HS K G H s o B) (hs : s ≠ .no ∧ s ≠ .ex) : ∃ v, o = some v ∧ HV K G H s v B := by
  cases s <;> first | exact h | exact absurd rfl hs.1 | exact absurd rfl hs.2
theorem hv_hs {s : Sl} {v : V} {B : List Addr} (h : HV K G H s v B) : HS K G H s (some v) B := by
  cases s <;> first | exact ⟨v, rfl, h⟩ | exact h | exact h.elim
theorem hs_hv {s : Sl} {v : V} {B : List Addr} (h : HS K G H s (some v) B) (hs : s ≠ .ex) : HV K G H s v B := by
  cases s <;> first | exact absurd rfl hs | exact h | (obtain ⟨v, e, h⟩ := h; cases e; exact h)
theorem isOw_ne {s : Sl} (h : isOwS s = true) : s ≠ .no ∧ s ≠ .ex := ⟨(fun z => by rw [z] at h; cases h), fun z => by rw [z] at h; cases h⟩
theorem hv_ne {s : Sl} {v : V} {B : List Addr} (h : HV K G H s v B) : s ≠ .ex := fun z => by rw [z] at h; exact h
theorem set_ow {s : Sl} {p : Stp} {r : List Stp} {x : Sl} {y : Sl} (e : getS s (p :: r) = some y) : isOwS s = true ∧ isOwS (setS s (p :: r) x) = true := by
  unfold getS at e
  obtain ⟨i, e1, e⟩ := Option.bind_eq_some_iff.mp e
  obtain ⟨k, e2, e⟩ := Option.bind_eq_some_iff.mp e
  unfold setS
  rw [e1]
  simp only [e2]
  cases s <;> first | (cases p <;> cases e1; done) | exact ⟨rfl, rfl⟩
theorem HSs.focus (hd : KD K) (st : HSs K G H ε σ A) {rp : RP} {x : Sl} {v : V} (e : getP ε rp = some x) (hv : σ[rp.1]? = some (some v)) (hx : x ≠ .ex) :
    ∃ u B R, (∀ H', (∀ a ∈ R, H' a = H a) → AtH K H' v rp.2 u) ∧ HV K G H x u B ∧ A.Perm (B ++ R) ∧
      ∀ (G' H' : Hp) (x' : Sl) (B' : List Addr), Ex G G' → (∀ a ∈ R, H' a = H a) → HV K G' H' x' u B' → ∃ A', A'.Perm (B' ++ R) ∧ HSs K G' H' (setP ε rp x') σ A' := by
  unfold getP at e
  obtain ⟨s, e1, e⟩ := Option.bind_eq_some_iff.mp e
  have hs : s ≠ .ex := by
    cases q : rp.2 with
    | nil => rw [q] at e; unfold getS at e; cases e; exact hx
    | cons p r => rw [q] at e; exact (isOw_ne (set_ow (x := x) e).1).2
  obtain ⟨w, C, R, h1, h2, h3, h4⟩ := HSs.at_ _ _ _ _ _ st e1
  rw [hv] at h1
  cases h1
  have h5 := hs_hv h2 hs
  obtain ⟨u, B, R2, u1, u2, u3, u4⟩ := HV.focus hd _ _ _ _ h5 e
  refine ⟨u, B, R2 ++ R, (fun H' k => u1 H' fun b hb => k b (List.mem_append_left _ hb)), u2, ?_, fun G' H' x' B' g k h' => ?_⟩
  · refine (h3.trans (List.Perm.append_right R u3)).trans ?_
    rw [List.append_assoc]
  · obtain ⟨C', c1, c2⟩ := u4 G' H' x' B' g (fun b hb => k b (List.mem_append_left _ hb)) h'
    obtain ⟨A', a1, a2⟩ := h4 G' H' _ (some v) C' g (fun b hb => k b (List.mem_append_right _ hb)) (hv_hs c2)
    rw [set_same hv] at a2
    refine ⟨A', ?_, ?_⟩
    · refine (a1.trans (List.Perm.append_right R c1)).trans ?_
      rw [List.append_assoc]
    · unfold setP
      rw [e1]
      exact a2
theorem HSs.val (st : HSs K G H ε σ A) {rp : RP} {x : Sl} (e : getP ε rp = some x) (hx : x ≠ .no ∧ x ≠ .ex) : ∃ v, σ[rp.1]? = some (some v) := by
  unfold getP at e
  obtain ⟨s, e1, e⟩ := Option.bind_eq_some_iff.mp e
  have hs : s ≠ .no ∧ s ≠ .ex := by
    cases q : rp.2 with
    | nil => rw [q] at e; unfold getS at e; cases e; exact hx
    | cons p r => rw [q] at e; exact isOw_ne (set_ow (x := x) e).1
  obtain ⟨w, C, R, h1, h2, h3, h4⟩ := HSs.at_ _ _ _ _ _ st e1
  obtain ⟨v, rfl, _⟩ := hs_ow h2 hs
  exact ⟨v, h1⟩
theorem Ok.focus (hd : KD K) (o : Ok K pn σ ε G H A) {rp : RP} {x : Sl} (e : getP ε rp = some x) (hx : x ≠ .no ∧ x ≠ .ex) :
    ∃ v u B R, σ[rp.1]? = some (some v) ∧ AtH K H v rp.2 u ∧ HV K G H x u B ∧ A.Perm (B ++ R) ∧
      ∀ (G' H' : Hp) (x' : Sl) (B' : List Addr), Ex G G' → (∀ a ∈ R, H' a = H a) → HV K G' H' x' u B' → ∃ A', A'.Perm (B' ++ R) ∧ HSs K G' H' (setP ε rp x') σ A' := by
  obtain ⟨v, hv⟩ := o.st.val e hx
  obtain ⟨u, B, R, h1, h2⟩ := o.st.focus hd e hv hx.2
  exact ⟨v, u, B, R, hv, h1 H fun _ _ => rfl, h2⟩
theorem setP_get {rp : RP} {s x : Sl} (e : ε[rp.1]? = some s) (j : Nat) : (setP ε rp x)[j]? = if j = rp.1 then some (setS s rp.2 x) else ε[j]? := by
  unfold setP
  rw [e]
  have hi : rp.1 < ε.length := (List.getElem?_eq_some_iff.mp e).1
  by_cases z : j = rp.1
  · rw [if_pos z, z]; exact List.getElem?_set_self hi
  · rw [if_neg z]; exact List.getElem?_set_ne (Ne.symm z)
/-- a place is given another content: the frame -/
theorem Ok.put (hd : KD K) (o : Ok K pn σ ε G H A) {rp : RP} {x : Sl} (e : getP ε rp = some x) (hx : x ≠ .no ∧ x ≠ .ex) :
    ∃ v u B, σ[rp.1]? = some (some v) ∧ AtH K H v rp.2 u ∧ HV K G H x u B ∧ (∀ a ∈ B, a ∈ A) ∧ B.Nodup ∧
      ∀ (G' H' : Hp) (x' : Sl) (B' : List Addr), Ex G G' → Ex G' H' → (∀ a o, a ∉ B → H a = some o → H' a = some o) → (∀ a, a ∉ B → G a = none → Lv (H a) → G' a = none) → HV K G' H' x' u B' → (∀ a ∈ B', a ∈ B ∨ H a = none) → B'.Nodup → (∀ a ∈ B', G' a = none) →
        (pn.fz = true → Ex H H') → (isOwS x' = true ∨ rp.2 ≠ [] ∨ rp.1 ∉ pn.l.map (·.1)) → ∃ A', Aft K pn σ ε G H A σ (setP ε rp x') G' H' A' := by
  obtain ⟨v, u, B, R, h1, h2, h3, h4, h5⟩ := o.focus hd e hx
  have hAB : ∀ a, a ∈ A ↔ a ∈ B ∨ a ∈ R := fun a => by rw [h4.mem_iff, List.mem_append]
  have hnd : (B ++ R).Nodup := h4.nodup_iff.mp o.nd
  obtain ⟨nB, nR, dis⟩ := List.nodup_append.mp hnd
  refine ⟨v, u, B, h1, h2, h3, fun a ha => (hAB a).mpr (.inl ha), nB, fun G' H' x' B' g g' k f h' w' n' gn' z' ho => ?_⟩
  have kR : ∀ a ∈ R, H' a = H a := fun a ha => by
    obtain ⟨q, hq⟩ := lv_some (o.lv a ((hAB a).mpr (.inr ha)))
    rw [hq]
    exact k a q (fun y => dis a y a ha rfl) hq
  obtain ⟨A', p1, p2⟩ := h5 G' H' x' B' g kR h'
  have hA' : ∀ a, a ∈ A' ↔ a ∈ B' ∨ a ∈ R := fun a => by rw [p1.mem_iff, List.mem_append]
  have eslot : ∃ s, ε[rp.1]? = some s ∧ getS s rp.2 = some x := by
    unfold getP at e
    obtain ⟨s, e1, e2⟩ := Option.bind_eq_some_iff.mp e
    exact ⟨s, e1, e2⟩
  obtain ⟨s, es1, es2⟩ := eslot
  have hset : isOwS (setS s rp.2 x') = true ∨ rp.1 ∉ pn.l.map (·.1) := by
    cases q : rp.2 with
    | nil =>
      rcases ho with ho | ho | ho
      · exact .inl (by unfold setS; exact ho)
      · exact absurd q ho
      · exact .inr ho
    | cons p r => rw [q] at es2; exact .inl (set_ow (x := x') es2).2
  have hne : setS s rp.2 x' ≠ .ex := by
    cases q : rp.2 with
    | nil => unfold setS; exact hv_ne h'
    | cons p r => rw [q] at es2; exact (isOw_ne (set_ow (x := x') es2).2).2
  refine ⟨A', ⟨g', p2, ?_, fun a ha => ?_, fun q hq => ?_, fun i hi => ?_, o.g0.trans g⟩, g, fun a q n e => k a q (fun y => n ((hAB a).mpr (.inl y))) e, fun a n ga lv => f a (fun y => n ((hAB a).mpr (.inl y))) ga lv, fun a ha => ?_, z'⟩
  · refine p1.nodup_iff.mpr (List.nodup_append.mpr ⟨n', nR, fun a ha b hb y => ?_⟩)
    subst y
    rcases w' a ha with z | z
    · exact dis a z a hb rfl
    · exact absurd z (o.lv a ((hAB a).mpr (.inr hb))).1
  · rcases (hA' a).mp ha with z | z
    · exact gn' a z
    · exact f a (fun y => dis a y a z rfl) (o.gn a ((hAB a).mpr (.inr z))) (o.lv a ((hAB a).mpr (.inr z)))
  · obtain ⟨a1, s', a2, a3⟩ := o.pin q hq
    refine ⟨a1, ?_⟩
    rw [setP_get es1]
    by_cases y : q.1 = rp.1
    · rw [if_pos y]
      rcases hset with z | z
      · exact ⟨_, rfl, z⟩
      · exact absurd (List.mem_map.mpr ⟨q, hq, y⟩) z
    · rw [if_neg y]
      exact ⟨s', a2, a3⟩
  · rw [setP_get es1] at hi
    by_cases y : i = rp.1
    · rw [if_pos y] at hi
      exact absurd (Option.some.inj hi) hne
    · rw [if_neg y] at hi
      exact o.px i hi
  · rcases (hA' a).mp ha with z | z
    · rcases w' a z with y | y
      · exact .inl ((hAB a).mpr (.inl y))
      · exact .inr y
    · exact .inl ((hAB a).mpr (.inr z))
end
end Mq
/-! A small language over HandS, 8: readings. -/
namespace Mq
open PySem L2 Evl
open SX (S S_len S_cat S_inj)
structure Rc where
  K : Kx
  call : Nat → En → Cr
  gv : Nat → V
  gd : Nat → Option (List (List Nat) × List D) := fun _ => none
  ar : Nat → Nat
  mt : Nat → Nat → Option Nat := fun _ _ => none
  mn : Nat → Str := fun _ => ""
  ini : Nat → Option Nat := fun _ => none
  mkc : Nat → En → Cr := fun _ _ => .no
  mkn : Nat → Option (List Nat) := fun _ => none
  xc : Value := .none
  xd : Option Addr := none
  xa : Addr := default
def vD : D → V
  | .bl b => .bl b
  | .int i => .int i
  | .str l => .str (S l)
  | .ty n => .ty n
  | _ => .non
/-- a constant as a value -/
def vC (K : Kx) : D → V
  | .fn i => .ref (K.fa i)
  | d => vD d
/-- how an error lies -/
def Rc.xr (Z : Rc) (x : Er) (cls : Value) (d : Option Addr) (H : Hp) : Prop := ∃ ns, Z.mkn x.c = some ns ∧ ns.length = x.fs.length ∧ x.fs.all flat = true ∧ cls = .ref (Z.K.ca x.c) ∧ (ns = [] → d = none) ∧
  (ns ≠ [] → ∃ dd, d = some dd ∧ H dd = some (.xd (((ns.map Z.K.fl).zip (x.fs.map vD)).reverse)))
def Rc.at_ (Z : Rc) (a : Addr) (cls : Value) (d : Option Addr) : Rc := { Z with xa := a, xc := cls, xd := d }
/-! ### what is to be shown behind a part -/
def Post (Z : Rc) (W : WX) (pn : Pin) (σ : L2.St) (ε : En) (G H : Hp) (A : List Addr) {α β : Type} (P : α → β → Hp → Hp → Prop) (Q : β → Hp → Prop) : R α → Prop
  | .no => False
  | .ok a ε' => ∀ b G' H' A', Aft Z.K pn σ ε G H A σ ε' G' H' A' → P a b G' H' → Q b H'
  | .er x ε' => ∀ cls d G' H' A', Aft Z.K pn σ ε G H A σ ε' G' H' A' → Z.xr x cls d H' → W cls d σ H'
/-- .. a new tree of ours -/
def FPost (Z : Rc) (W : WX) (pn : Pin) (σ : L2.St) (ε : En) (G H : Hp) (A : List Addr) (Q : VK) : R Sl → Prop
  | .no => False
  | .ok s ε' => ∀ v G' H' A' B, Aft Z.K pn σ ε G H A σ ε' G' H' A' → HV Z.K G' H' s v B → isOwS s = true → (A' ++ B).Nodup → (∀ b ∈ B, G' b = none ∧ (b ∈ A ∨ H b = none)) → Q v H'
  | .er x ε' => ∀ cls d G' H' A', Aft Z.K pn σ ε G H A σ ε' G' H' A' → Z.xr x cls d H' → W cls d σ H'
/-- operands: data, places, new trees with these addresses -/
def ArgsP (K : Kx) (σ : L2.St) (G H : Hp) : List Ar → List V → List Addr → Prop
  | [], vs, T => vs = [] ∧ T = []
  | .d x :: r, vs, T => ∃ v us, vs = v :: us ∧ Rp K G x v ∧ ArgsP K σ G H r us T
  | .p rp :: r, vs, T => ∃ v us v0, vs = v :: us ∧ σ[rp.1]? = some (some v0) ∧ AtH K H v0 rp.2 v ∧ ArgsP K σ G H r us T
  | .t s :: r, vs, T => ∃ v us B C, vs = v :: us ∧ T = B ++ C ∧ HV K G H s v B ∧ ArgsP K σ G H r us C
def APost (Z : Rc) (W : WX) (pn : Pin) (σ : L2.St) (ε : En) (G H : Hp) (A : List Addr) (Q : List V → Hp → Prop) : R (List Ar) → Prop
  | .no => False
  | .ok as ε' => ∀ vs G' H' A' T, Aft Z.K pn σ ε G H A σ ε' G' H' A' → ArgsP Z.K σ G' H' as vs T → (A' ++ T).Nodup → (∀ b ∈ T, G' b = none ∧ (b ∈ A ∨ H b = none)) → Q vs H'
  | .er x ε' => ∀ cls d G' H' A', Aft Z.K pn σ ε G H A σ ε' G' H' A' → Z.xr x cls d H' → W cls d σ H'
section
variable {Z : Rc} {W : WX} {α β α' β' : Type} {P : α → β → Hp → Hp → Prop} {P' : α' → β' → Hp → Hp → Prop} {Q : β → Hp → Prop} {Q' : β' → Hp → Prop}
variable {G G' H H' G1 G2 H1 H2 : Hp} {pn : Pin} {σ σ1 σ2 : L2.St} {ε ε1 ε2 : En} {A A1 A2 A' : List Addr}
theorem Post.shift (a : Aft Z.K pn σ ε G H A σ ε1 G1 H1 A1) {r : R α} (h : Post Z W pn σ ε G H A P Q r) : Post Z W pn σ ε1 G1 H1 A1 P Q r := by
  cases r with
  | no => exact h
  | ok x ε' => exact fun b G' H' A' z p => h b G' H' A' (a.trans z) p
  | er x ε' => exact fun cls d G' H' A' z p => h cls d G' H' A' (a.trans z) p
theorem Post.bind {r : R α} {f : α → En → R α'} (h : Post Z W pn σ ε G H A P' Q' (r.bind f))
    (k : ∀ a ε1 b G1 H1 A1, Aft Z.K pn σ ε G H A σ ε1 G1 H1 A1 → P a b G1 H1 → Post Z W pn σ ε1 G1 H1 A1 P' Q' (f a ε1) → Q b H1) : Post Z W pn σ ε G H A P Q r := by
  cases r with
  | no => exact h
  | ok a ε1 => exact fun b G1 H1 A1 z p => k a ε1 b G1 H1 A1 z p (Post.shift z h)
  | er x ε1 => exact h
theorem Post.of {o : Ok Z.K pn σ ε G H A} {x : Option α} (h : Post Z W pn σ ε G H A P Q (R.of ε x)) : ∃ a, x = some a ∧ ∀ b G' H', Pu G H G' H' → P a b G' H' → Q b H' := by
  cases x with
  | none => exact h.elim
  | some a => exact ⟨a, rfl, fun b G' H' p q => h b G' H' A (Aft.pu o p) q⟩
theorem old_sub (a : Aft Z.K pn σ ε G H A σ1 ε1 G1 H1 A1) {b : Addr} (h : b ∈ A1 ∨ H1 b = none) : b ∈ A ∨ H b = none := by
  rcases h with h | h
  · exact a.w b h
  · by_cases n : b ∈ A
    · exact .inl n
    · refine .inr ?_
      cases q : H b with
      | none => rfl
      | some o => rw [a.h b o n q] at h; cases h
theorem FPost.shift (a : Aft Z.K pn σ ε G H A σ ε1 G1 H1 A1) {Q : VK} {r : R Sl} (h : FPost Z W pn σ ε G H A Q r) : FPost Z W pn σ ε1 G1 H1 A1 Q r := by
  cases r with
  | no => exact h
  | ok x ε' => exact fun v G' H' A' B z p q n w => h v G' H' A' B (a.trans z) p q n fun b hb => ⟨(w b hb).1, old_sub a (w b hb).2⟩
  | er x ε' => exact fun cls d G' H' A' z p => h cls d G' H' A' (a.trans z) p
theorem FPost.bind {Q0 : VK} {r : R α} {f : α → En → R Sl} (h : FPost Z W pn σ ε G H A Q0 (r.bind f))
    (k : ∀ a ε1 b G1 H1 A1, r = .ok a ε1 → Aft Z.K pn σ ε G H A σ ε1 G1 H1 A1 → P a b G1 H1 → FPost Z W pn σ ε1 G1 H1 A1 Q0 (f a ε1) → Q b H1) : Post Z W pn σ ε G H A P Q r := by
  cases r with
  | no => exact h
  | ok a ε1 => exact fun b G1 H1 A1 z p => k a ε1 b G1 H1 A1 rfl z p (FPost.shift z h)
  | er x ε1 => exact h
/-! ### readings -/
def RetOk (K : Kx) (H G' H' : Hp) (A A' : List Addr) (r : Sl) (v : V) : Prop :=
  match r with
  | .no => False
  | .ex => False
  | .da d => Rp K G' d v
  | s => ∃ B, HV K G' H' s v B ∧ (A' ++ B).Nodup ∧ ∀ b ∈ B, G' b = none ∧ (b ∈ A ∨ H b = none)
/-- the promise of a def -/
def spC (Z : Rc) (f : Nat) : Sp := fun vs H Q E => vs.length = Z.ar f ∧ ∃ G as A, Ok Z.K Pin.nil (vs.map some) as G H A ∧ match Z.call f as with
  | .no => False
  | .ok r as' => ∀ v G' H' A', Aft Z.K Pin.nil (vs.map some) as G H A (vs.map some) as' G' H' A' → RetOk Z.K H G' H' A A' r v → Q v H'
  | .er x as' => ∀ cls d G' H' A', Aft Z.K Pin.nil (vs.map some) as G H A (vs.map some) as' G' H' A' → Z.xr x cls d H' → E cls d H'
def tTru (K : PySem.W.Frag) (ta : TE) : TT := fun σ H Q => ta σ H fun x H' => ∃ k, TruV K x H' k ∧ Q k H'
def gNames : List Nat → TGs
  | [] => gNil
  | j :: js => gCons (gName j) (gNames js)
def Pt.rd (K : PySem.W.Frag) : Pt → TG
  | .nm j => gName j
  | .tp js => gTup K js.length (gNames js)
  | .ls js => gLst K js.length (gNames js)
/-- a list or a tuple, walked -/
def iAny (K : PySem.W.Frag) (tl : TE) : TI := fun σ H R => tl σ H fun x H1 => ∃ a, x = V.ref a ∧ (((∃ xs, SqL K H1 a xs) ∧ R (Itl K a) H1) ∨ ((∃ xs, SqT K H1 a xs) ∧ R (Itt K a) H1))
abbrev W0 : WX := fun _ _ _ _ => False
def clsA (Z : Rc) : List Nat → TA
  | [] => tNil
  | c :: r => tCons (tC (.ref (Z.K.ca c))) (clsA Z r)
def saRd (K : Kx) (te : TE) : List Sa → TE
  | [] => te
  | .f n :: r => saRd K (tFld K.K te (K.fl n)) r
  | .vi j :: r => saRd K (tOp (Op2.idx.rd K) te (tVar j)) r
def Pa.rd (K : Kx) (P : Pa) : TE := saRd K (tVar P.i) P.ss
/-- a call that may raise, the receiver an instance of one of the classes -/
def tMethD (Z : Rc) (W : WX) (m : Nat) (ta : TE) (t : TA) : TE := fun σ H Q => ta σ H fun x H1 => ∃ a c dx fs f, x = .ref a ∧ H1 a = some (.ins (Z.K.ca c) dx fs) ∧ Z.mt c m = some f ∧ fs.lookup (Z.mn m) = none ∧ t σ H1 fun vs H2 => spC Z f (x :: vs) H2 Q fun cls d H => W cls d σ H
/-- what makes new objects: one level lower -/
def Rc.lo (Z : Rc) : Rc := { Z with call := Z.mkc }
/-- e.replace(y, ..), y not in the text -/
def tRep0 (to : TE) (y : Str) : TE := fun σ H Q => to σ H fun v H1 => ∃ x, v = .str x ∧ Builtin.Str.occurrences x y 0 x.length (x.length + 1) = [] ∧ Q (.str x) H1
/-- sorted(x, key=f) -/
def tSrtK (Z : Rc) (f : Nat) (t : TE) : TE := fun σ H Q => t σ H fun x H1 => ∃ us, SkSrc Z.K H1 x us ∧ SkRun (fun vs H Q => spC Z.lo f vs H Q fun _ _ _ => False) us H1 (SkEnd Z.K.K us fun out H2 => ∀ p, H2 p = none → Q (.ref p) (upd H2 p (.lst out)))
def tNewD (Z : Rc) (W : WX) (c : Nat) (t : TA) : TE := fun σ H Q => t σ H fun vs H1 => ∃ f, Z.ini c = some f ∧ ∀ x dx, H1 x = none → H1 dx = none → dx ≠ x →
  spC Z.lo f (.ref x :: vs) (upd (upd H1 dx (.own x)) x (.ins (Z.K.ca c) dx [])) (fun v H2 => v = .non ∧ Q (.ref x) H2) fun cls d H => W cls d σ H
def tCallV (Z : Rc) (W : WX) (i : Nat) (t : TA) : TE := fun σ H Q => ∃ f, σ[i]? = some (some (.ref (Z.K.fa f))) ∧ t σ H fun vs H1 => spC Z f vs H1 Q fun cls d H => W cls d σ H
/-- d.setdefault(k, x) -/
def rSd (K : Kx) : V → List V → Hp → VK → Prop := fun x xs H Q => ∃ y z, xs = [y, z] ∧ ((∃ v, DLook K H x y (some v) ∧ Q v H) ∨ DStN K H x y z fun H' => Q z H')
/-- d.update(e) -/
def rUpd (K : Kx) : V → List V → Hp → VK → Prop := fun x xs H Q => ∃ p q kv lw, x = .ref p ∧ xs = [.ref q] ∧ p ≠ q ∧ H p = some (.dK kv) ∧ Rd H q (.dK lw) ∧ kv.length + lw.length ≤ sizeLine ∧ ((kv.map (·.1)).Nodup → Q .non (upd H p (.dK (mergeK kv lw))))
def rCpd : List V → Hp → VK → Prop := fun xs H Q => ∃ (a : Addr) (kvs : List (Key × V)), xs = [.ref a] ∧ Rd H a (.dK kvs) ∧ ∀ p, H p = none → Q (.ref p) (upd H p (.dK kvs))
def sDPutX (K : Kx) (td ty tv : TE) : TS := fun D σ H => tv σ H fun v H1 => td σ H1 fun x H2 => ty σ H2 fun y H3 => DSto K H3 x y v fun H4 => D.nx σ H4
/-- xs[i] = v -/
def sLPut (td ty tv : TE) : TS := fun D σ H => tv σ H fun v H1 => td σ H1 fun x H2 => ty σ H2 fun y H3 => ∃ p xs i j, x = .ref p ∧ y = .int i ∧ H3 p = some (.lst xs) ∧ (0 ≤ i ∧ ixN xs.length i = some j) ∧ D.nx σ (upd H3 p (.lst (xs.set j v)))
/-- isinstance(e, c): e the caught error; c a class, or a tuple of classes -/
def rIsAny (Z : Rc) : List V → Hp → VK → Prop := fun xs Hh Q => ∃ (c : V) (Dc : Addr) (b : Bool), xs = [.ref Z.xa, c] ∧ Z.xc = .ref Dc ∧ (Z.xd = none ∨ ∃ dd fs, Z.xd = some dd ∧ Hh dd = some (.xd fs)) ∧ ExcC Z.K.K Dc ∧
  ((∃ u, ClsV c u ∧ PySem.W.kitOne Z.K.K (.ref Dc) u = some b) ∨ ∃ (tp : Addr) (cs : List V) (us : List Value), c = .ref tp ∧ SqT Z.K.K Hh tp cs ∧ Paired ClsV cs us ∧ PySem.W.kitAny Z.K.K (.ref Dc) us = some b) ∧ Q (.bl b) Hh
def tGin (Z : Rc) (n : Bool) (x : Nat) (te : TE) : TE := fun σ H Q => te σ H fun y H1 => ∃ l ks ds, y = .str (S l) ∧ Z.gd x = some (ks, ds) ∧ Q (.bl (n != (ixL ks l).isSome)) H1
def tGix (Z : Rc) (x : Nat) (te : TE) : TE := fun σ H Q => te σ H fun y H1 => ∃ l ks ds i d, y = .str (S l) ∧ Z.gd x = some (ks, ds) ∧ ixL ks l = some i ∧ ds[i]? = some d ∧ Q (vD d) H1
def tGget (Z : Rc) (x : Nat) (te td : TE) : TE := fun σ H Q => te σ H fun y H1 => td σ H1 fun z H2 => ∃ l ks ds, y = .str (S l) ∧ Z.gd x = some (ks, ds) ∧ Q ((((ixL ks l).bind fun i => ds[i]?).map vD).getD z) H2
/-- what comes is locked from now on -/
def tLk (td : TE) : TE := fun σ H Q => td σ H fun x H1 => ∃ d u, x = .ref d ∧ H1 d = some u ∧ Mut (some u) ∧ ∀ od, Q x (upd H1 d (.frz od u))
/-- .. with a dict locked, or as it is -/
def tLkE (t : TE) : TE := fun σ H Q => t σ H Q ∨ tLockE t σ H Q
def tLkS (t : TS) : TS := fun D σ H => t D σ H ∨ tLock t D σ H
mutual
def E.rd (Z : Rc) (W : WX) : E → TE
  | .var i => tVar i
  | .pth P => P.rd Z.K
  | .frz P => P.rd Z.K
  | .cst d => tC (vC Z.K d)
  | .glb x => tC (Z.gv x)
  | .op2 o a b => tOp (o.rd Z.K) (a.rd Z W) (b.rd Z W)
  | .opo o a b => tOp (o.rd Z.K) (a.rd Z W) (b.rd Z W)
  | .neg a => tUn (rU fun i => .int (-i)) (a.rd Z W)
  | .rep0 a y z => tRep0 (a.rd Z W) (SX.S [y])
  | .rep a y z => CwR.tReplC (a.rd Z W) (SX.S y) (SX.S z)
  | .chain o o' a b e => tChain (o.rd Z.K) (o'.rd Z.K) (a.rd Z W) (b.rd Z W) (e.rd Z W)
  | .and a b => tAndT Z.K.K (a.rd Z W) (b.rd Z W)
  | .or a b => tOrT Z.K.K (a.rd Z W) (b.rd Z W)
  | .not a => tNotT Z.K.K (a.rd Z W)
  | .ite t a b => tIf (t.rd Z W) (a.rd Z W) (b.rd Z W)
  | .tup es => tTupF (es.rd Z W)
  | .mk m => m.rd Z W
  | .bif b es => tCB (b.rd Z.K) (es.rd Z W)
  | .bifo b as => tCB (b.rd Z.K) (as.rd Z W)
  | .mth m o es => tBMX Z.K m.ty (m.rd Z.K) (o.rd Z W) (es.rd Z W)
  | .slc a lo hi => tSl (rSl Z.K) (a.rd Z W) (lo.rd Z W) (hi.rd Z W)
  | .slo P lo hi => tSl (rSl Z.K) (P.rd Z.K) (lo.rd Z W) (hi.rd Z W)
  | .call f as => tCallSD (spC Z f) [] (fun σ cls d H => W cls d σ H) (as.rd Z W)
  | .meth P m as => tMethD Z W m (P.rd Z.K) (as.rd Z W)
  | .metht k m as => tMethD Z W m (k.rd Z W) (as.rd Z W)
  | .callv i as => tCallV Z W i (as.rd Z W)
  | .pop P => tBMX Z.K "list" rPopAt (P.rd Z.K) (tCons (tC (.int 0)) tNil)
  | .sd P k e => tBMX Z.K "dict" (rSd Z.K) (P.rd Z.K) (tCons (k.rd Z W) (tCons (e.rd Z W) tNil))
  | .gin n x e => tGin Z n x (e.rd Z W)
  | .gix x e => tGix Z x (e.rd Z W)
  | .gget x e d => tGget Z x (e.rd Z W) (d.rd Z W)
  | .xf k i => fun σ H Q => ∃ y, (∃ ns, Z.mkn y = some ns) ∧ Z.xc = .ref (Z.K.ca y) ∧ tXf Z.xa Z.xc Z.xd (Z.K.ca y) (Z.K.fl k) (tVar i) σ H Q
  | .xi i y => tCB (rIsAny Z) (tCons (tVar i) (tCons (tC (.ref (Z.K.ca y))) tNil))
  | .xt i ys => tCB (rIsAny Z) (tCons (tVar i) (tCons (tTupF (clsA Z ys)) tNil))
def Od.rd (Z : Rc) (W : WX) : Od → TE
  | .e e => e.rd Z W
  | .p P => P.rd Z.K
def Es.rd (Z : Rc) (W : WX) : Es → TA
  | .nil => tNil
  | .cons e es => tCons (e.rd Z W) (es.rd Z W)
def As.rd (Z : Rc) (W : WX) : As → TA
  | .nil => tNil
  | .cons o as => tCons (o.rd Z W) (as.rd Z W)
  | .tm m as => tCons (m.rd Z W) (as.rd Z W)
def OE.rd (Z : Rc) (W : WX) : OE → TO
  | .no => tNoPart
  | .so e => tPart (e.rd Z W)
def T.rd (Z : Rc) (W : WX) : T → TT
  | .val e => tTest (e.rd Z W)
  | .tru e => tTru Z.K.K (e.rd Z W)
  | .truo P => tTru Z.K.K (P.rd Z.K)
  | .and a b => tAnd (a.rd Z W) (b.rd Z W)
  | .or a b => tOr (a.rd Z W) (b.rd Z W)
  | .not a => tNot (a.rd Z W)
def Ts.rd (Z : Rc) (W : WX) : Ts → TT
  | .nil => tYes
  | .one t => t.rd Z W
def It.rd (Z : Rc) (W : WX) : It → TI
  | .lst e => iList Z.K.K (e.rd Z W)
  | .tup e => iTup Z.K.K (e.rd Z W)
  | .str e => iStr (e.rd Z W)
  | .r1 a => iRng1 (tCons (a.rd Z W) tNil)
  | .r2 a b => iRng2 (tCons (a.rd Z W) (tCons (b.rd Z W) tNil))
  | .own P => iList Z.K.K (P.rd Z.K)
  | .keys m => iKeys (tLk (m.rd Z W))
  | .rev e => RT.iRevA Z.K.K (e.rd Z W)
  | .any e => iAny Z.K.K (e.rd Z W)
def M.rd (Z : Rc) (W : WX) : M → TE
  | .lst es => tLst (es.rd Z W)
  | .dct ps => match ps with
    | .nil => tDNewK
    | .cons k e r => tDisp ((tC (vD k), e.rd Z W) :: r.rd Z W)
  | .cat a b => tOp (Op2.add.rd Z.K) (a.rd Z W) (b.rd Z W)
  | .slc a lo hi => tSl (rSl Z.K) (a.rd Z W) (lo.rd Z W) (hi.rd Z W)
  | .bif b es => tCB (b.rd Z.K) (es.rd Z W)
  | .bifo b as => tCB (b.rd Z.K) (as.rd Z W)
  | .call f as => tCallSD (spC Z f) [] (fun σ cls d H => W cls d σ H) (as.rd Z W)
  | .meth P m as => tMethD Z W m (P.rd Z.K) (as.rd Z W)
  | .metht k m as => tMethD Z W m (k.rd Z W) (as.rd Z W)
  | .new c as => tNewD Z W c (as.rd Z W)
  | .mov i => tVar i
  | .cpd a => tCB rCpd (tCons (a.rd Z W) tNil)
  | .srtk f e => tSrtK Z f (e.rd Z W)
  | .lc own p it t e => tLc (it.rd Z W) (p.rd Z.K.K) (t.rd Z W0) (e.rd Z W0) own
  | .lcD own p i t e => tLkE (tLc (iKeys (tVar i)) (p.rd Z.K.K) (t.rd Z W0) (e.rd Z W0) own)
  | .dcD own p i t k e => tLkE (tDcX Z.K (iKeys (tVar i)) (p.rd Z.K.K) (t.rd Z W0) (k.rd Z W0) (e.rd Z W0) own)
  | .dc own p it t k e => tDcX Z.K (it.rd Z W) (p.rd Z.K.K) (t.rd Z W0) (k.rd Z W0) (e.rd Z W0) own
def Ps.rd (Z : Rc) (W : WX) : Ps → List (TE × TE)
  | .nil => []
  | .cons k e r => (tC (vD k), e.rd Z W) :: r.rd Z W
end
end
end Mq
/-! A small language over HandS, 9: calls. -/
namespace Mq
open PySem L2 Evl
open SX (S S_len S_cat S_inj)
/-! ### places apart -/
theorem withKid_kids {s : Sl} {i : Nat} {k : Sl} {p : Stp} (e : stepIx s p = some i) : kids (withKid s i k) = (kids s).set i k ∧ ∀ q, stepIx (withKid s i k) q = stepIx s q := by
  cases s <;> first | (cases p <;> cases e; done) | exact ⟨rfl, fun q => by cases q <;> rfl⟩
theorem sim_ix {s : Sl} {p q : Stp} {i j : Nat} (h1 : stepIx s p = some i) (h2 : stepIx s q = some j) : (p.sim q = true ∧ i = j) ∨ (p.sim q = false ∧ i ≠ j) := by
  cases s <;> first | (cases p <;> cases h1; done) | skip
  · cases p with
    | f n =>
      cases q with
      | f m =>
        have h1 : fix _ n = some i := h1
        have h2 : fix _ m = some j := h2
        by_cases z : n = m
        · subst z
          rw [h1] at h2
          cases h2
          exact .inl ⟨beq_self_eq_true _, rfl⟩
        · refine .inr ⟨beq_eq_false_iff_ne.mpr z, fun y => z ?_⟩
          have a := fix_mem h1
          have b := fix_mem h2
          rw [y, b] at a
          exact (Option.some.inj a).symm
      | ix m => cases h2
    | ix n => cases h1
  · cases p with
    | ix n =>
      cases q with
      | ix m =>
        have h1 : some n = some i := h1
        have h2 : some m = some j := h2
        cases h1
        cases h2
        by_cases z : i = j
        · exact .inl ⟨by rw [z]; exact beq_self_eq_true _, z⟩
        · exact .inr ⟨beq_eq_false_iff_ne.mpr z, z⟩
      | f m => cases h2
    | f n => cases h1
theorem getS_apart {x y : Sl} : ∀ (p q : List Stp) (s : Sl), getS s p = some y → pfx p q = false → pfx q p = false → getS (setS s p x) q = getS s q
  | [], _, _, _, h, _ => by cases h
  | _ :: _, [], _, _, _, h => by cases h
  | a :: p, b :: q, s, e, h1, h2 => by
    unfold getS at e
    obtain ⟨i, e1, e'⟩ := Option.bind_eq_some_iff.mp e
    obtain ⟨k, e2, ee⟩ := Option.bind_eq_some_iff.mp e'
    have hset : setS s (a :: p) x = withKid s i (setS k p x) := by
      conv => lhs; unfold setS
      rw [e1]
      simp only [e2]
    obtain ⟨k1, k2⟩ := withKid_kids (k := setS k p x) e1
    rw [hset]
    unfold getS
    rw [k2 b, k1]
    cases q2 : stepIx s b with
    | none => rfl
    | some j =>
      rw [Option.bind_some, Option.bind_some]
      rcases sim_ix e1 q2 with ⟨z1, z2⟩ | ⟨z1, z2⟩
      · subst z2
        have hi : i < (kids s).length := (List.getElem?_eq_some_iff.mp e2).1
        rw [List.getElem?_set_self hi, e2, Option.bind_some, Option.bind_some]
        have h1 : (a.sim b && pfx p q) = false := h1
        have h2 : (b.sim a && pfx q p) = false := h2
        have zs : b.sim a = true := by
          cases a <;> cases b <;> first | (cases z1; done) | skip
          · exact (beq_iff_eq.mp z1) ▸ beq_self_eq_true _
          · exact (beq_iff_eq.mp z1) ▸ beq_self_eq_true _
        rw [z1, Bool.true_and] at h1
        rw [zs, Bool.true_and] at h2
        exact getS_apart p q k ee h1 h2
      · rw [List.getElem?_set_ne z2]
theorem getS_set {x y : Sl} : ∀ (p : List Stp) (s : Sl), getS s p = some y → getS (setS s p x) p = some x
  | [], _, _ => by unfold setS getS; rfl
  | a :: p, s, e => by
    unfold getS at e
    obtain ⟨i, e1, e'⟩ := Option.bind_eq_some_iff.mp e
    obtain ⟨k, e2, ee⟩ := Option.bind_eq_some_iff.mp e'
    have hset : setS s (a :: p) x = withKid s i (setS k p x) := by
      conv => lhs; unfold setS
      rw [e1]
      simp only [e2]
    obtain ⟨k1, k2⟩ := withKid_kids (k := setS k p x) e1
    rw [hset]
    unfold getS
    have hi : i < (kids s).length := (List.getElem?_eq_some_iff.mp e2).1
    rw [k2 a, k1, e1, Option.bind_some, List.getElem?_set_self hi, Option.bind_some]
    exact getS_set p k ee
section
variable {K : Kx} {G G' H H' G1 G2 H1 H2 : Hp} {pn : Pin} {σ σ1 σ2 : L2.St} {ε ε1 ε2 : En} {A A1 A2 A' : List Addr}
theorem getP_slot {rp : RP} {x : Sl} (e : getP ε rp = some x) : ∃ s, ε[rp.1]? = some s ∧ getS s rp.2 = some x := by
  unfold getP at e
  obtain ⟨s, e1, e2⟩ := Option.bind_eq_some_iff.mp e
  exact ⟨s, e1, e2⟩
theorem getP_set {rp : RP} {x y : Sl} (e : getP ε rp = some y) : getP (setP ε rp x) rp = some x := by
  obtain ⟨s, e1, e2⟩ := getP_slot e
  unfold getP
  rw [setP_get e1, if_pos rfl, Option.bind_some]
  exact getS_set _ _ e2
theorem getP_apart {rp q : RP} {x y : Sl} (e : getP ε rp = some y) (h : apart rp q = true) : getP (setP ε rp x) q = getP ε q := by
  obtain ⟨s, e1, e2⟩ := getP_slot e
  unfold getP
  rw [setP_get e1]
  by_cases z : q.1 = rp.1
  · rw [if_pos z, z, e1, Option.bind_some, Option.bind_some]
    unfold apart within_ at h
    rw [z, beq_self_eq_true, Bool.true_and, Bool.true_and, Bool.and_eq_true] at h
    refine getS_apart _ _ _ e2 ?_ ?_
    · have := h.2
      cases q : pfx rp.2 q.2
      · rfl
      · rw [q] at this; cases this
    · have := h.1
      cases q : pfx q.2 rp.2
      · rfl
      · rw [q] at this; cases this
  · rw [if_neg z]
theorem apart_symm {a b : RP} (h : apart a b = true) : apart b a = true := by
  unfold apart at h ⊢
  rw [Bool.and_comm]
  exact h
/-! ### arguments are taken out, and put back -/
theorem ArgsP.mono (g : Ex G G') (hA : ∀ a o, H a = some o → H' a = some o) : ∀ (as : List Ar) (vs : List V) (T : List Addr), ArgsP K σ G H as vs T → ArgsP K σ G' H' as vs T
  | [], _, _, h => h
  | .d x :: r, _, _, h => by
    obtain ⟨v, us, h1, h2, h3⟩ := h
    exact ⟨v, us, h1, Rp.mono g _ _ h2, ArgsP.mono g hA r us _ h3⟩
  | .p rp :: r, _, _, h => by
    obtain ⟨v, us, v0, h1, h2, h3, h4⟩ := h
    exact ⟨v, us, v0, h1, h2, AtH.ex hA _ _ _ h3, ArgsP.mono g hA r us _ h4⟩
  | .t s :: r, _, _, h => by
    obtain ⟨v, us, B, C, h1, h2, h3, h4⟩ := h
    refine ⟨v, us, B, C, h1, h2, HV.mono g _ _ _ (fun a ha => ?_) h3, ArgsP.mono g hA r us _ h4⟩
    obtain ⟨u, hu⟩ := lv_some (HV.lv _ _ _ h3 a ha)
    rw [hu]
    exact hA a u hu
theorem ArgsP.len : ∀ {as : List Ar} {vs : List V} {T : List Addr}, ArgsP K σ G H as vs T → as.length = vs.length
  | [], _, _, h => by rw [h.1]; rfl
  | .d x :: r, _, _, h => by obtain ⟨v, us, rfl, _, h3⟩ := h; rw [List.length_cons, List.length_cons, ArgsP.len h3]
  | .p rp :: r, _, _, h => by obtain ⟨v, us, v0, rfl, _, _, h4⟩ := h; rw [List.length_cons, List.length_cons, ArgsP.len h4]
  | .t s :: r, _, _, h => by obtain ⟨v, us, B, C, rfl, _, _, h4⟩ := h; rw [List.length_cons, List.length_cons, ArgsP.len h4]
theorem ArgsP.lv : ∀ {as : List Ar} {vs : List V} {T : List Addr}, ArgsP K σ G H as vs T → ∀ a ∈ T, Lv (H a)
  | [], _, _, h, a, ha => by rw [h.2] at ha; cases ha
  | .d x :: r, _, _, h, a, ha => by obtain ⟨v, us, rfl, _, h3⟩ := h; exact ArgsP.lv h3 a ha
  | .p rp :: r, _, _, h, a, ha => by obtain ⟨v, us, v0, rfl, _, _, h4⟩ := h; exact ArgsP.lv h4 a ha
  | .t s :: r, _, _, h, a, ha => by
    obtain ⟨v, us, B, C, rfl, rfl, h3, h4⟩ := h
    rcases List.mem_append.mp ha with ha | ha
    · exact HV.lv _ _ _ h3 a ha
    · exact ArgsP.lv h4 a ha
theorem take_out (hd : KD K) : ∀ (as : List Ar) {ε : En} {A : List Addr} {vs : List V} {T : List Addr} {εh ss : En}, HSs K G H ε σ A → ArgsP K σ G H as vs T → takeOut ε as = some (εh, ss) →
    ∃ B R, HSs K G H ss (vs.map some) B ∧ HSs K G H εh σ R ∧ (A ++ T).Perm (B ++ R) ∧ (refsOf as = [] → B = T)
  | [], ε, A, vs, T, εh, ss, st, h, e => by
    obtain ⟨rfl, rfl⟩ := h
    cases e
    exact ⟨[], A, ⟨rfl, rfl⟩, st, by rw [List.append_nil]; exact List.Perm.refl _, fun _ => rfl⟩
  | .d x :: r, ε, A, vs, T, εh, ss, st, h, e => by
    obtain ⟨v, us, rfl, h2, h3⟩ := h
    obtain ⟨⟨eh, tt⟩, e1, e2⟩ := Option.map_eq_some_iff.mp (show (takeOut ε r).map _ = _ from e)
    cases e2
    obtain ⟨B, R, b1, b2, b3, b4⟩ := take_out hd r st h3 e1
    exact ⟨B, R, ⟨some v, us.map some, [], B, rfl, rfl, ⟨v, rfl, rfl, h2⟩, b1⟩, b2, b3, b4⟩
  | .p rp :: r, ε, A, vs, T, εh, ss, st, h, e => by
    obtain ⟨v, us, v0, rfl, h2, h3, h4⟩ := h
    unfold takeOut at e
    cases q : getP ε rp with
    | none => rw [q] at e; cases e
    | some s =>
      rw [q] at e
      dsimp only at e
      split at e
      · rename_i hs
        obtain ⟨⟨eh, tt⟩, e1, e2⟩ := Option.map_eq_some_iff.mp e
        cases e2
        obtain ⟨u, B1, R1, f1, f2, f3, f4⟩ := st.focus hd q h2 (isOw_ne hs).2
        have hu : u = v := AtH.det _ _ _ _ (f1 H fun _ _ => rfl) h3
        subst hu
        obtain ⟨A1, a1, a2⟩ := f4 G H .no [] (Ex.refl G) (fun _ _ => rfl) rfl
        obtain ⟨B, R, b1, b2, b3, b4⟩ := take_out hd r a2 h4 e1
        refine ⟨B1 ++ B, R, ⟨some u, us.map some, B1, B, rfl, rfl, hv_hs f2, b1⟩, b2, ?_, fun z => nomatch z⟩
        refine (List.Perm.append_right T f3).trans ?_
        rw [List.append_assoc, List.append_assoc]
        refine List.Perm.append_left B1 ?_
        exact (List.Perm.append_right T a1.symm).trans b3
      · cases e
  | .t s :: r, ε, A, vs, T, εh, ss, st, h, e => by
    obtain ⟨v, us, B1, C, rfl, rfl, h3, h4⟩ := h
    unfold takeOut at e
    split at e
    · rename_i hs
      obtain ⟨⟨eh, tt⟩, e1, e2⟩ := Option.map_eq_some_iff.mp e
      cases e2
      obtain ⟨B, R, b1, b2, b3, b4⟩ := take_out hd r st h4 e1
      refine ⟨B1 ++ B, R, ⟨some v, us.map some, B1, B, rfl, rfl, hv_hs h3, b1⟩, b2, ?_, fun z => by rw [b4 z]⟩
      rw [← List.append_assoc, List.append_assoc B1]
      refine (List.Perm.append_right C List.perm_append_comm).trans ?_
      rw [List.append_assoc]
      exact List.Perm.append_left B1 b3
    · cases e
theorem take_holes : ∀ (as : List Ar) {ε εh ss : En}, takeOut ε as = some (εh, ss) → aparts (refsOf as) = true → (∀ q y, getP ε q = some y → (∀ rp ∈ refsOf as, apart rp q = true) → getP εh q = some y) ∧ (∀ rp ∈ refsOf as, getP εh rp = some .no)
  | [], ε, εh, ss, e, _ => by cases e; exact ⟨fun q y h _ => h, fun _ z => nomatch z⟩
  | .d x :: r, ε, εh, ss, e, h => by
    obtain ⟨⟨eh, tt⟩, e1, e2⟩ := Option.map_eq_some_iff.mp (show (takeOut ε r).map _ = _ from e)
    cases e2
    exact take_holes r e1 h
  | .t s :: r, ε, εh, ss, e, h => by
    unfold takeOut at e
    split at e
    · obtain ⟨⟨eh, tt⟩, e1, e2⟩ := Option.map_eq_some_iff.mp e
      cases e2
      exact take_holes r e1 h
    · cases e
  | .p rp :: r, ε, εh, ss, e, h => by
    have h : ((refsOf r).all (apart rp) && aparts (refsOf r)) = true := h
    rw [Bool.and_eq_true] at h
    unfold takeOut at e
    cases q : getP ε rp with
    | none => rw [q] at e; cases e
    | some s =>
      rw [q] at e
      dsimp only at e
      split at e
      · obtain ⟨⟨eh, tt⟩, e1, e2⟩ := Option.map_eq_some_iff.mp e
        cases e2
        obtain ⟨i1, i2⟩ := take_holes r e1 h.2
        refine ⟨fun p y hp ha => ?_, fun p hp => ?_⟩
        · refine i1 p y ?_ fun p2 hp2 => ha p2 (List.mem_cons_of_mem _ hp2)
          rw [getP_apart q (ha rp List.mem_cons_self)]
          exact hp
        · rcases List.mem_cons.mp hp with rfl | hp
          · exact i1 _ _ (getP_set q) fun p2 hp2 => apart_symm (List.all_eq_true.mp h.1 p2 hp2)
          · exact i2 p hp
      · cases e
theorem put_back (hd : KD K) : ∀ (as : List Ar) {ε : En} {A : List Addr} {vs : List V} {ss : En} {B T : List Addr} {Gs Hs : Hp}, HSs K G H ε σ A → (∀ rp ∈ refsOf as, getP ε rp = some .no) → aparts (refsOf as) = true → ArgsP K σ Gs Hs as vs T → (∀ rp ∈ refsOf as, ∀ v0 u, AtH K Hs v0 rp.2 u → σ[rp.1]? = some (some v0) → AtH K H v0 rp.2 u) →
    HSs K G H ss (vs.map some) B → (∀ s ∈ ss, s ≠ .ex) → ∃ A' D, (A' ++ D).Perm (B ++ A) ∧ HSs K G H (putBack ε as ss) σ A'
  | [], ε, A, vs, ss, B, T, Gs, Hs, st, _, _, h, _, hb, _ => by
    obtain ⟨rfl, rfl⟩ := h
    have e : putBack ε [] ss = ε := by cases ss <;> rfl
    rw [e]
    have hb2 : B = [] := by
      cases ss with
      | nil => exact hb.2
      | cons s ss => obtain ⟨o, τ, _, _, e, _⟩ := hb; cases e
    subst hb2
    exact ⟨A, [], by rw [List.append_nil]; exact List.Perm.refl _, st⟩
  | .d x :: r, ε, A, vs, ss, B, T, Gs, Hs, st, hn, ha, h, hat, hb, hx => by
    obtain ⟨v, us, rfl, h2, h3⟩ := h
    cases ss with
    | nil => obtain ⟨e, _⟩ := hb; cases e
    | cons s ss =>
      obtain ⟨o, τ, B1, C, e, rfl, b3, b4⟩ := hb
      cases e
      obtain ⟨A', D, p1, p2⟩ := put_back hd r st hn ha h3 hat b4 (fun s hs => hx s (List.mem_cons_of_mem _ hs))
      refine ⟨A', B1 ++ D, ?_, p2⟩
      rw [← List.append_assoc, List.append_assoc B1]
      refine (List.Perm.append_right D List.perm_append_comm).trans ?_
      rw [List.append_assoc]
      exact List.Perm.append_left B1 p1
  | .t x :: r, ε, A, vs, ss, B, T, Gs, Hs, st, hn, ha, h, hat, hb, hx => by
    obtain ⟨v, us, B0, C0, rfl, rfl, h2, h3⟩ := h
    cases ss with
    | nil => obtain ⟨e, _⟩ := hb; cases e
    | cons s ss =>
      obtain ⟨o, τ, B1, C, e, rfl, b3, b4⟩ := hb
      cases e
      obtain ⟨A', D, p1, p2⟩ := put_back hd r st hn ha h3 hat b4 (fun s hs => hx s (List.mem_cons_of_mem _ hs))
      refine ⟨A', B1 ++ D, ?_, p2⟩
      rw [← List.append_assoc, List.append_assoc B1]
      refine (List.Perm.append_right D List.perm_append_comm).trans ?_
      rw [List.append_assoc]
      exact List.Perm.append_left B1 p1
  | .p rp :: r, ε, A, vs, ss, B, T, Gs, Hs, st, hn, ha, h, hat, hb, hx => by
    obtain ⟨v, us, v0, rfl, h2, h3, h4⟩ := h
    have ha : ((refsOf r).all (apart rp) && aparts (refsOf r)) = true := ha
    rw [Bool.and_eq_true] at ha
    cases ss with
    | nil => obtain ⟨e, _⟩ := hb; cases e
    | cons s ss =>
      obtain ⟨o, τ, B1, C, e, rfl, b3, b4⟩ := hb
      cases e
      have q := hn rp List.mem_cons_self
      obtain ⟨u, B0, R, f1, f2, f3, f4⟩ := st.focus hd q h2 (fun z => nomatch z)
      have hB0 : B0 = [] := f2
      subst hB0
      have hu : u = v := AtH.det _ _ _ _ (f1 H fun _ _ => rfl) (hat rp List.mem_cons_self v0 v h3 h2)
      subst hu
      obtain ⟨A1, a1, a2⟩ := f4 G H s B1 (Ex.refl G) (fun _ _ => rfl) (hs_hv b3 (hx s List.mem_cons_self))
      obtain ⟨A', D, p1, p2⟩ := put_back hd r a2 (fun p hp => by rw [getP_apart q (List.all_eq_true.mp ha.1 p hp)]; exact hn p (List.mem_cons_of_mem _ hp)) ha.2 h4 (fun p hp => hat p (List.mem_cons_of_mem _ hp)) b4 (fun s hs => hx s (List.mem_cons_of_mem _ hs))
      refine ⟨A', D, ?_, p2⟩
      refine p1.trans ?_
      refine (List.Perm.append_left C a1).trans ?_
      refine (List.Perm.append_left C (List.Perm.append_left B1 f3.symm)).trans ?_
      rw [← List.append_assoc]
      exact List.Perm.append_right A List.perm_append_comm
/-! what a slot holds behind it -/
theorem take_ow : ∀ (as : List Ar) {ε εh ss : En}, takeOut ε as = some (εh, ss) → ∀ (j : Nat) (s : Sl), ε[j]? = some s → isOwS s = true → (∃ s', εh[j]? = some s' ∧ isOwS s' = true) ∨ (j, ([] : List Stp)) ∈ refsOf as
  | [], ε, εh, ss, e, j, s, h1, h2 => by cases e; exact .inl ⟨s, h1, h2⟩
  | .d x :: r, ε, εh, ss, e, j, s, h1, h2 => by
    obtain ⟨⟨eh, tt⟩, e1, e2⟩ := Option.map_eq_some_iff.mp (show (takeOut ε r).map _ = _ from e)
    cases e2
    exact take_ow r e1 j s h1 h2
  | .t x :: r, ε, εh, ss, e, j, s, h1, h2 => by
    unfold takeOut at e
    split at e
    · obtain ⟨⟨eh, tt⟩, e1, e2⟩ := Option.map_eq_some_iff.mp e
      cases e2
      exact take_ow r e1 j s h1 h2
    · cases e
  | .p rp :: r, ε, εh, ss, e, j, s, h1, h2 => by
    unfold takeOut at e
    cases q : getP ε rp with
    | none => rw [q] at e; cases e
    | some x =>
      rw [q] at e
      dsimp only at e
      split at e
      · obtain ⟨⟨eh, tt⟩, e1, e2⟩ := Option.map_eq_some_iff.mp e
        cases e2
        obtain ⟨s0, s1, s2⟩ := getP_slot q
        by_cases z : j = rp.1
        · cases y : rp.2 with
          | nil =>
            refine .inr (List.mem_cons.mpr (.inl ?_))
            rw [z, ← y]
          | cons p ps =>
            rw [y] at s2
            rcases take_ow r e1 j (setS s0 rp.2 .no) (by rw [setP_get s1, if_pos z]) (by rw [y]; exact (set_ow s2).2) with w | w
            · exact .inl w
            · exact .inr (List.mem_cons_of_mem _ w)
        · rcases take_ow r e1 j s (by rw [setP_get s1, if_neg z]; exact h1) h2 with w | w
          · exact .inl w
          · exact .inr (List.mem_cons_of_mem _ w)
      · cases e
theorem take_ex : ∀ (as : List Ar) {ε εh ss : En}, takeOut ε as = some (εh, ss) → (∀ j : Nat, εh[j]? = some .ex → ε[j]? = some .ex) ∧ (∀ s ∈ ss, s ≠ .ex) ∧ ss.length = as.length ∧ εh.length = ε.length
  | [], ε, εh, ss, e => by cases e; exact ⟨fun _ h => h, (fun _ z => nomatch z), rfl, rfl⟩
  | .d x :: r, ε, εh, ss, e => by
    obtain ⟨⟨eh, tt⟩, e1, e2⟩ := Option.map_eq_some_iff.mp (show (takeOut ε r).map _ = _ from e)
    cases e2
    obtain ⟨a, b, c, d⟩ := take_ex r e1
    exact ⟨a, fun s hs => by rcases List.mem_cons.mp hs with rfl | hs; exact fun z => nomatch z; exact b s hs, by rw [List.length_cons, List.length_cons, c], d⟩
  | .t x :: r, ε, εh, ss, e => by
    unfold takeOut at e
    split at e
    · rename_i hx
      obtain ⟨⟨eh, tt⟩, e1, e2⟩ := Option.map_eq_some_iff.mp e
      cases e2
      obtain ⟨a, b, c, d⟩ := take_ex r e1
      exact ⟨a, fun s hs => by rcases List.mem_cons.mp hs with rfl | hs; exact (isOw_ne hx).2; exact b s hs, by rw [List.length_cons, List.length_cons, c], d⟩
    · cases e
  | .p rp :: r, ε, εh, ss, e => by
    unfold takeOut at e
    cases q : getP ε rp with
    | none => rw [q] at e; cases e
    | some x =>
      rw [q] at e
      dsimp only at e
      split at e
      · rename_i hx
        obtain ⟨⟨eh, tt⟩, e1, e2⟩ := Option.map_eq_some_iff.mp e
        cases e2
        obtain ⟨s0, s1, s2⟩ := getP_slot q
        obtain ⟨a, b, c, d⟩ := take_ex r e1
        refine ⟨fun j h => ?_, fun s hs => by rcases List.mem_cons.mp hs with rfl | hs; exact (isOw_ne hx).2; exact b s hs, by rw [List.length_cons, List.length_cons, c], ?_⟩
        · have h2 := a j h
          rw [setP_get s1] at h2
          by_cases z : j = rp.1
          · rw [if_pos z] at h2
            exfalso
            have h3 := Option.some.inj h2
            cases y : rp.2 with
            | nil => rw [y] at h3; unfold setS at h3; cases h3
            | cons p ps => rw [y] at s2 h3; exact (isOw_ne (set_ow (x := .no) s2).2).2 h3
          · rw [if_neg z] at h2
            exact h2
        · rw [d]
          unfold setP
          rw [s1]
          exact List.length_set
      · cases e
theorem put_ow : ∀ (as : List Ar) {ε ss : En}, (∀ rp ∈ refsOf as, getP ε rp = some .no) → aparts (refsOf as) = true → (∀ (j : Nat) (rp : RP), as[j]? = some (.p rp) → ∃ s, ss[j]? = some s ∧ isOwS s = true) → ss.length = as.length →
    (∀ (j : Nat) (s : Sl), ε[j]? = some s → isOwS s = true → ∃ s', (putBack ε as ss)[j]? = some s' ∧ isOwS s' = true) ∧ (∀ j : Nat, (j, ([] : List Stp)) ∈ refsOf as → ∃ s', (putBack ε as ss)[j]? = some s' ∧ isOwS s' = true) ∧ (∀ j : Nat, (putBack ε as ss)[j]? = some .ex → ε[j]? = some .ex)
  | [], ε, ss, _, _, _, _ => by
    have e : putBack ε [] ss = ε := by cases ss <;> rfl
    rw [e]
    exact ⟨fun j s h1 h2 => ⟨s, h1, h2⟩, (fun _ z => nomatch z), fun _ h => h⟩
  | .d x :: r, ε, [], _, _, _, hl => by cases hl
  | .d x :: r, ε, s :: ss, hn, ha, hk, hl => put_ow r (ε := ε) (ss := ss) hn ha (fun j rp h => hk (j + 1) rp h) (by simpa using hl)
  | .t x :: r, ε, [], _, _, _, hl => by cases hl
  | .t x :: r, ε, s :: ss, hn, ha, hk, hl => put_ow r (ε := ε) (ss := ss) hn ha (fun j rp h => hk (j + 1) rp h) (by simpa using hl)
  | .p rp :: r, ε, [], _, _, _, hl => by cases hl
  | .p rp :: r, ε, s :: ss, hn, ha, hk, hl => by
    have ha : ((refsOf r).all (apart rp) && aparts (refsOf r)) = true := ha
    rw [Bool.and_eq_true] at ha
    have q := hn rp List.mem_cons_self
    obtain ⟨s0, s1, s2⟩ := getP_slot q
    have hs : isOwS s = true := by
      obtain ⟨s', e1, e2⟩ := hk 0 rp rfl
      cases e1
      exact e2
    obtain ⟨i1, i2, i3⟩ := put_ow r (ε := setP ε rp s) (ss := ss) (fun p hp => by rw [getP_apart q (List.all_eq_true.mp ha.1 p hp)]; exact hn p (List.mem_cons_of_mem _ hp)) ha.2 (fun j p h => hk (j + 1) p h) (by simpa using hl)
    have here : isOwS (setS s0 rp.2 s) = true := by
      cases y : rp.2 with
      | nil => unfold setS; exact hs
      | cons p ps => rw [y] at s2; exact (set_ow s2).2
    refine ⟨fun j t h1 h2 => ?_, fun j hj => ?_, fun j h => ?_⟩
    · by_cases z : j = rp.1
      · exact i1 j _ (by rw [setP_get s1, if_pos z]) here
      · exact i1 j t (by rw [setP_get s1, if_neg z]; exact h1) h2
    · rcases List.mem_cons.mp hj with z | hj
      · have z1 : j = rp.1 := by rw [← z]
        exact i1 j _ (by rw [setP_get s1, if_pos z1]) here
      · exact i2 j hj
    · have h2 := i3 j h
      rw [setP_get s1] at h2
      by_cases z : j = rp.1
      · rw [if_pos z] at h2
        rw [Option.some.inj h2] at here
        cases here
      · rw [if_neg z] at h2
        exact h2
theorem keep_ow : ∀ (ss ts : En), keepOw ss ts = true → ∀ (j : Nat) (s : Sl), ss[j]? = some s → isOwS s = true → ∃ t, ts[j]? = some t ∧ isOwS t = true
  | [], _, _, j, s, e, _ => by simp at e
  | s :: ss, [], h, _, _, _, _ => by cases h
  | s :: ss, t :: ts, h, j, x, e, hx => by
    have h : ((!isOwS s || isOwS t) && keepOw ss ts) = true := h
    rw [Bool.and_eq_true] at h
    cases j with
    | zero =>
      cases e
      rw [hx, Bool.not_true, Bool.false_or] at h
      exact ⟨t, rfl, h.1⟩
    | succ j => exact keep_ow ss ts h.2 j x e hx
theorem take_at : ∀ (as : List Ar) {ε εh ss : En}, takeOut ε as = some (εh, ss) → ∀ (j : Nat) (rp : RP), as[j]? = some (.p rp) → ∃ s, ss[j]? = some s ∧ isOwS s = true
  | [], ε, εh, ss, e, j, rp, h => by simp at h
  | .d x :: r, ε, εh, ss, e, j, rp, h => by
    obtain ⟨⟨eh, tt⟩, e1, e2⟩ := Option.map_eq_some_iff.mp (show (takeOut ε r).map _ = _ from e)
    cases e2
    cases j with
    | zero => cases h
    | succ j => exact take_at r e1 j rp h
  | .t x :: r, ε, εh, ss, e, j, rp, h => by
    unfold takeOut at e
    split at e
    · obtain ⟨⟨eh, tt⟩, e1, e2⟩ := Option.map_eq_some_iff.mp e
      cases e2
      cases j with
      | zero => cases h
      | succ j => exact take_at r e1 j rp h
    · cases e
  | .p x :: r, ε, εh, ss, e, j, rp, h => by
    unfold takeOut at e
    cases q : getP ε x with
    | none => rw [q] at e; cases e
    | some y =>
      rw [q] at e
      dsimp only at e
      split at e
      · rename_i hy
        obtain ⟨⟨eh, tt⟩, e1, e2⟩ := Option.map_eq_some_iff.mp e
        cases e2
        cases j with
        | zero => exact ⟨y, rfl, hy⟩
        | succ j => exact take_at r e1 j rp h
      · cases e
theorem allD_T : ∀ {as : List Ar} {vs : List V} {T : List Addr}, allD as = true → ArgsP K σ G H as vs T → T = [] ∧ refsOf as = []
  | [], _, _, _, h => ⟨h.2, rfl⟩
  | .d x :: r, _, _, e, h => by obtain ⟨v, us, rfl, _, h3⟩ := h; exact allD_T (as := r) e h3
  | .p rp :: r, _, _, e, _ => by cases e
  | .t s :: r, _, _, e, _ => by cases e
end
end Mq
/-! A small language over HandS, 10: calls, their soundness. -/
namespace Mq
open PySem L2 Evl
open SX (S S_len S_cat S_inj)
section
variable {K : Kx} {G G' H H' G1 G2 H1 H2 : Hp} {pn : Pin} {σ σ1 σ2 : L2.St} {ε ε1 ε2 : En} {A A1 A2 A' : List Addr}
theorem allD_B : ∀ (as : List Ar) {ε εh ss : En} {τ : L2.St} {B : List Addr}, takeOut ε as = some (εh, ss) → allD as = true → HSs K G H ss τ B → B = []
  | [], ε, εh, ss, τ, B, e, _, h => by cases e; exact h.2
  | .d x :: r, ε, εh, ss, τ, B, e, ha, h => by
    obtain ⟨⟨eh, tt⟩, e1, e2⟩ := Option.map_eq_some_iff.mp (show (takeOut ε r).map _ = _ from e)
    cases e2
    obtain ⟨o, us, C, E, rfl, rfl, ⟨v, _, h3, _⟩, h4⟩ := h
    rw [h3, allD_B r e1 ha h4]
    rfl
  | .p rp :: r, _, _, _, _, _, _, ha, _ => by cases ha
  | .t s :: r, _, _, _, _, _, _, ha, _ => by cases ha
theorem put_back2 (hd : KD K) {as : List Ar} {ε : En} {A : List Addr} {vs : List V} {ss : En} {B T : List Addr} {Gs Hs : Hp} (st : HSs K G H ε σ A) (hn : ∀ rp ∈ refsOf as, getP ε rp = some .no) (hap : aparts (refsOf as) = true) (ha : ArgsP K σ Gs Hs as vs T) (hat : ∀ rp ∈ refsOf as, ∀ v0 u, AtH K Hs v0 rp.2 u → σ[rp.1]? = some (some v0) → AtH K H v0 rp.2 u)
    (hb : HSs K G H ss (vs.map some) B) (hx : ∀ s ∈ ss, s ≠ .ex) : ∃ A' D, (A' ++ D).Perm (B ++ A) ∧ HSs K G H (putBack ε as ss) σ A' ∧ ∀ x r, as = .t x :: r → ∃ s ss' v us B1 D', ss = s :: ss' ∧ vs = v :: us ∧ HV K G H s v B1 ∧ D = B1 ++ D' := by
  cases as with
  | nil => 
    obtain ⟨A', D, p1, p2⟩ := put_back hd _ st hn hap ha hat hb hx
    exact ⟨A', D, p1, p2, fun x r e => by cases e⟩
  | cons a as =>
    cases a with
    | d x =>
      obtain ⟨A', D, p1, p2⟩ := put_back hd _ st hn hap ha hat hb hx
      exact ⟨A', D, p1, p2, fun x r e => by cases e⟩
    | p x =>
      obtain ⟨A', D, p1, p2⟩ := put_back hd _ st hn hap ha hat hb hx
      exact ⟨A', D, p1, p2, fun x r e => by cases e⟩
    | t x =>
      obtain ⟨v, us, B0, C0, rfl, rfl, h2, h3⟩ := ha
      cases ss with
      | nil => obtain ⟨e, _⟩ := hb; cases e
      | cons s ss =>
        obtain ⟨o, τ, B1, C, e, rfl, b3, b4⟩ := hb
        cases e
        obtain ⟨A', D, p1, p2⟩ := put_back hd as st hn hap h3 hat b4 (fun s hs => hx s (List.mem_cons_of_mem _ hs))
        refine ⟨A', B1 ++ D, ?_, p2, fun y r e => ⟨s, ss, v, us, B1, D, rfl, rfl, hs_hv b3 (hx s List.mem_cons_self), rfl⟩⟩
        rw [← List.append_assoc, List.append_assoc B1]
        refine (List.Perm.append_right D List.perm_append_comm).trans ?_
        rw [List.append_assoc]
        exact List.Perm.append_left B1 p1
/-- a call: the callee's state, and ours behind it -/
theorem call_frame (hd : KD K) (a1 : Aft K pn σ ε G H A σ ε1 G1 H1 A1) {as : List Ar} {vs : List V} {T : List Addr} {εh ss : En} (ha : ArgsP K σ G1 H1 as vs T) (hn : (A1 ++ T).Nodup) (hT : ∀ b ∈ T, G1 b = none ∧ (b ∈ A ∨ H b = none))
    (hap : aparts (refsOf as) = true) (hfz : pn.fz = true → refsOf as = [] ∧ ∀ b ∈ T, H b = none) (ht : takeOut ε1 as = some (εh, ss)) :
    ∃ B, Ok K Pin.nil (vs.map some) ss G1 H1 B ∧ ∀ as' G2 H2 B', Aft K Pin.nil (vs.map some) ss G1 H1 B (vs.map some) as' G2 H2 B' → keepOw ss as' = true →
      ∃ A2, Aft K pn σ ε G H A σ (putBack εh as as') G2 H2 A2 ∧ (∀ r v, RetOk K H1 G2 H2 B B' r v → RetOk K H G2 H2 A A2 r v) ∧
        ∀ x r, as = .t x :: r → ∃ s ss' v us B1, as' = s :: ss' ∧ vs = v :: us ∧ HV K G2 H2 s v B1 ∧ (A2 ++ B1).Nodup ∧ ∀ b ∈ B1, G2 b = none ∧ (b ∈ A ∨ H b = none) := by
  have o := a1.ok
  obtain ⟨B, R, b1, b2, b3, b4⟩ := take_out hd as o.st ha ht
  obtain ⟨x1, x2, x3, x4⟩ := take_ex as ht
  obtain ⟨t1, t2⟩ := take_holes as ht hap
  have nBR : (B ++ R).Nodup := b3.nodup_iff.mp hn
  obtain ⟨nB, nR, dis⟩ := List.nodup_append.mp nBR
  have mem : ∀ a, (a ∈ A1 ∨ a ∈ T) ↔ (a ∈ B ∨ a ∈ R) := fun a => by rw [← List.mem_append, ← List.mem_append, b3.mem_iff]
  have gN : ∀ a, a ∈ B ∨ a ∈ R → G1 a = none := fun a h => by
    rcases (mem a).mpr h with h | h
    · exact o.gn a h
    · exact (hT a h).1
  have old : ∀ a, a ∈ B ∨ a ∈ R → a ∈ A ∨ H a = none := fun a h => by
    rcases (mem a).mpr h with h | h
    · exact a1.w a h
    · exact (hT a h).2
  have old2 : ∀ a, H1 a = none → a ∈ A ∨ H a = none := fun a h => by
    by_cases n : a ∈ A
    · exact .inl n
    · refine .inr ?_
      cases q : H a with
      | none => rfl
      | some u => rw [a1.h a u n q] at h; cases h
  have lvR : ∀ a ∈ R, Lv (H1 a) := HSs.lv _ _ _ b2
  refine ⟨B, ⟨o.ex, b1, nB, fun a h => gN a (.inl h), (fun q hq => nomatch hq), fun i e => absurd rfl (x2 _ (List.mem_of_getElem? e)), fun _ _ z => nomatch z⟩, fun as' G2 H2 B' a hk => ?_⟩
  have kR : ∀ b ∈ R, H2 b = H1 b := fun b hb => by
    obtain ⟨u, hu⟩ := lv_some (lvR b hb)
    rw [hu]
    exact a.h b u (fun z => dis b z b hb rfl) hu
  have st2 : HSs K G2 H2 εh σ R := HSs.mono a.g _ _ _ kR b2
  have nex : ∀ s ∈ as', s ≠ .ex := fun s hs z => by
    obtain ⟨i, hi, e⟩ := List.mem_iff_getElem.mp hs
    obtain ⟨_, q, hq, _⟩ := a.ok.px i (by rw [List.getElem?_eq_getElem hi, e, z])
    cases hq
  obtain ⟨A2, D, p1, p2, p3⟩ := put_back2 hd st2 t2 hap ha (fun rp hrp v0 u h3 h2 => by
    obtain ⟨u0, B0, R0, f1, _, f3, _⟩ := b2.focus hd (t2 rp hrp) h2 (fun z => nomatch z)
    have hu : u0 = u := AtH.det _ _ _ _ (f1 H1 fun _ _ => rfl) h3
    subst hu
    exact f1 H2 fun b hb => kR b ((f3.mem_iff).mpr (List.mem_append_right _ hb))) a.ok.st nex
  have dis2 : ∀ b, b ∈ B' → b ∈ R → False := fun b h1 h2 => by
    rcases a.w b h1 with z | z
    · exact dis b z b h2 rfl
    · exact (lvR b h2).1 z
  have nB'R : (B' ++ R).Nodup := List.nodup_append.mpr ⟨a.ok.nd, nR, fun x hx y hy z => dis2 x hx (z ▸ hy)⟩
  have nAD : (A2 ++ D).Nodup := p1.nodup_iff.mpr nB'R
  have mem2 : ∀ b, b ∈ A2 ∨ b ∈ D → b ∈ B' ∨ b ∈ R := fun b h => by rw [← List.mem_append, ← p1.mem_iff, List.mem_append]; exact h
  have gN2 : ∀ b, b ∈ B' ∨ b ∈ R → G2 b = none := fun b h => by
    rcases h with h | h
    · exact a.ok.gn b h
    · exact a.f b (fun z => dis b z b h rfl) (gN b (.inr h)) (lvR b h)
  have oldB' : ∀ b, b ∈ B' ∨ b ∈ R → b ∈ A ∨ H b = none := fun b h => by
    rcases h with h | h
    · rcases a.w b h with z | z
      · exact old b (.inl z)
      · exact old2 b z
    · exact old b (.inr h)
  have nin : ∀ b o, b ∉ A → H b = some o → b ∉ B := fun b o h1 h2 z => by
    rcases old b (.inl z) with y | y
    · exact h1 y
    · rw [h2] at y; cases y
  obtain ⟨w1, w2, w3⟩ := put_ow as (ε := εh) (ss := as') t2 hap (fun j rp e => by
    obtain ⟨s, e1, e2⟩ := take_at as ht j rp e
    exact keep_ow ss as' hk j s e1 e2) (by
      have e1 := a.ok.len
      rw [List.length_map] at e1
      rw [e1]
      exact (ArgsP.len ha).symm)
  refine ⟨A2, ⟨⟨a.ok.ex, p2, (List.nodup_append.mp nAD).1, fun b hb => gN2 b (mem2 b (.inl hb)), fun q hq => ?_, fun i e => o.px i (x1 i (w3 i e)), o.g0.trans a.g⟩, a1.g.trans a.g, fun b u h1 h2 => a.h b u (nin b u h1 h2) (a1.h b u h1 h2), fun b h1 h2 h3 => ?_, fun b hb => oldB' b (mem2 b (.inl hb)), fun z => ?_⟩, fun r v h => ?_, fun x r e => ?_⟩
  · obtain ⟨q1, s, q2, q3⟩ := o.pin q hq
    refine ⟨q1, ?_⟩
    rcases take_ow as ht q.1 s q2 q3 with ⟨s', z1, z2⟩ | z
    · exact w1 q.1 s' z1 z2
    · exact w2 q.1 z
  · obtain ⟨u, hu⟩ := lv_some h3
    exact a.f b (nin b u h1 hu) (a1.f b h1 h2 h3) (by rw [a1.h b u h1 hu, ← hu]; exact h3)
  · obtain ⟨z1, z2⟩ := hfz z
    have hB := b4 z1
    exact fun b u h => a.h b u (fun y => by rw [z2 b (hB ▸ y)] at h; cases h) (a1.z z b u h)
  · have key : ∀ {s : Sl}, (∃ C, HV K G2 H2 s v C ∧ (B' ++ C).Nodup ∧ ∀ b ∈ C, G2 b = none ∧ (b ∈ B ∨ H1 b = none)) → ∃ C, HV K G2 H2 s v C ∧ (A2 ++ C).Nodup ∧ ∀ b ∈ C, G2 b = none ∧ (b ∈ A ∨ H b = none) := fun {s} ⟨C, c1, c2, c3⟩ => by
      obtain ⟨n1, n2, n3⟩ := List.nodup_append.mp c2
      refine ⟨C, c1, List.nodup_append.mpr ⟨(List.nodup_append.mp nAD).1, n2, fun x hx y hy z => ?_⟩, fun b hb => ⟨(c3 b hb).1, ?_⟩⟩
      · subst z
        rcases mem2 x (.inl hx) with y | y
        · exact n3 x y x hy rfl
        · rcases (c3 x hy).2 with w | w
          · exact dis x w x y rfl
          · exact (lvR x y).1 w
      · rcases (c3 b hb).2 with w | w
        · exact old b (.inl w)
        · exact old2 b w
    cases r <;> first | exact h | exact key h
  · obtain ⟨s, ss', v, us, B1, D', e1, e2, e3, e4⟩ := p3 x r e
    subst e4
    refine ⟨s, ss', v, us, B1, e1, e2, e3, ?_, fun b hb => ?_⟩
    · rw [← List.append_assoc] at nAD
      exact (List.nodup_append.mp nAD).1
    · have := mem2 b (.inr (List.mem_append_left _ hb))
      exact ⟨gN2 b this, oldB' b this⟩
end
structure Rc.Fine (Z : Rc) (c : Cn) (pn : Pin) : Prop where
  kd : KD Z.K
  cl : c.call = Z.call
  gl : ∀ x d, c.gl x = some d → ∀ G, Rp Z.K G d (Z.gv x)
  gd : c.gd = Z.gd
  gf : ∀ x ks ds, Z.gd x = some (ks, ds) → ∀ d ∈ ds, flat d = true
  ar : ∀ f ss, (Z.call f ss = .no → False) → ss.length = Z.ar f
  arm : ∀ f ss, (Z.mkc f ss = .no → False) → ss.length = Z.ar f
  mt : c.mt = Z.mt
  hf : c.hf = Z.K.hf
  ini : c.ini = Z.ini
  mkc : c.mkc = Z.mkc
  mkn : c.mkn = Z.mkn
  cf : ∀ c f, Z.K.hf c f = true → Cls Z.K.K (Z.K.ca c) ∧ NoAttr Z.K.K (Z.K.ca c) (Z.K.fl f)
  mf : ∀ c m f n, Z.mt c m = some f → Z.K.hf c n = true → Z.K.fl n ≠ Z.mn m
  ox : ∀ y ns, Z.mkn y = some ns → (ns.map Z.K.fl).Nodup ∧ (∀ n ∈ ns, PySem.W.findIn Z.K.K (.ref (Z.K.ca y)) (Z.K.fl n) = some none) ∧ ExcC Z.K.K (Z.K.ca y)
  sb : ∀ i j b, c.sub i j = some b → PySem.W.exmOne Z.K.K (.ref (Z.K.ca i)) (.ref (Z.K.ca j)) = some b ∧ PySem.W.kitOne Z.K.K (.ref (Z.K.ca i)) (.ref (Z.K.ca j)) = some b
  x0 : c.ex = none → pn.xa = none
  x1 : ∀ x, c.ex = some x → pn.xa = some Z.xa ∧ Z.xr x Z.xc Z.xd pn.g0
section
variable {Z : Rc} {W : WX} {G G' H H' G1 G2 H1 H2 : Hp} {pn : Pin} {σ σ1 σ2 : L2.St} {ε ε1 ε2 : En} {A A1 A2 A' : List Addr}
def CPost (Z : Rc) (W : WX) (pn : Pin) (σ : L2.St) (ε : En) (G H : Hp) (A : List Addr) (Q : VK) : R Sl → Prop
  | .no => False
  | .ok r ε' => ∀ v G' H' A', Aft Z.K pn σ ε G H A σ ε' G' H' A' → RetOk Z.K H G' H' A A' r v → Q v H'
  | .er x ε' => ∀ cls d G' H' A', Aft Z.K pn σ ε G H A σ ε' G' H' A' → Z.xr x cls d H' → W cls d σ H'
theorem CPost.shift (a : Aft Z.K pn σ ε G H A σ ε1 G1 H1 A1) {Q : VK} {r : R Sl} (h : CPost Z W pn σ ε G H A Q r) : CPost Z W pn σ ε1 G1 H1 A1 Q r := by
  cases r with
  | no => exact h
  | ok x ε' =>
    refine fun v G' H' A' z ro => h v G' H' A' (a.trans z) ?_
    cases x <;> first | exact ro | (obtain ⟨B, b1, b2, b3⟩ := ro; exact ⟨B, b1, b2, fun b hb => ⟨(b3 b hb).1, old_sub a (b3 b hb).2⟩⟩)
  | er x ε' => exact fun cls d G' H' A' z p => h cls d G' H' A' (a.trans z) p
theorem call_sound {c : Cn} (hz : Z.Fine c pn) {f : Nat} {as : List Ar} {vs : List V} {T : List Addr} {Q : VK} (a1 : Aft Z.K pn σ ε G H A σ ε1 G1 H1 A1) (ha : ArgsP Z.K σ G1 H1 as vs T) (hn : (A1 ++ T).Nodup) (hT : ∀ b ∈ T, G1 b = none ∧ (b ∈ A ∨ H b = none))
    (h : CPost Z W pn σ ε G H A Q (callR c pn.io f as ε1)) : spC Z f vs H1 Q (fun cls d H => W cls d σ H) := by
  unfold callR at h
  by_cases hap : (aparts (refsOf as) && (!pn.io.fz || allD as)) = true
  · rw [if_pos hap] at h
    rw [Bool.and_eq_true] at hap
    cases q : takeOut ε1 as with
    | none => rw [q] at h; exact h.elim
    | some z =>
      obtain ⟨εh, ss⟩ := z
      rw [q] at h
      dsimp only at h
      rw [hz.cl] at h
      obtain ⟨B, hin, hout⟩ := call_frame hz.kd a1 ha hn hT hap.1 (fun z => by
        have h2 := hap.2
        rw [show pn.io.fz = true from z] at h2
        obtain ⟨w1, w2⟩ := allD_T (as := as) h2 ha
        exact ⟨w2, by rw [w1]; exact fun _ y => nomatch y⟩) q
      have hlen : ss.length = vs.length := by rw [hin.len, List.length_map]
      refine ⟨?_, G1, ss, B, hin, ?_⟩
      · rw [← hlen]
        refine hz.ar f ss fun z => ?_
        rw [z] at h
        exact h
      · cases w : Z.call f ss with
        | no => rw [w] at h; exact h
        | ok r as' =>
          rw [w] at h
          dsimp only at h
          intro v G' H' A' a ro
          by_cases hk : keepOw ss as' = true
          · rw [if_pos hk] at h
            obtain ⟨A2, o1, o2, _⟩ := hout as' G' H' A' a hk
            exact h v G' H' A2 o1 (o2 r v ro)
          · rw [if_neg hk] at h
            exact h.elim
        | er x as' =>
          rw [w] at h
          dsimp only at h
          intro cls d G' H' A' a xo
          by_cases hk : keepOw ss as' = true
          · rw [if_pos hk] at h
            obtain ⟨A2, o1, o2, _⟩ := hout as' G' H' A' a hk
            exact h cls d G' H' A2 o1 xo
          · rw [if_neg hk] at h
            exact h.elim
  · rw [if_neg hap] at h
    exact h.elim
end
end Mq
/-! A small language over HandS, 11: slots are set, wiped, frozen; targets. -/
namespace Mq
open PySem L2 Evl
open SX (S S_len S_cat S_inj)
section
variable {K : Kx} {G G' H H' G1 G2 H1 H2 : Hp} {pn : Pin} {σ σ1 σ2 : L2.St} {ε ε1 ε2 : En} {A A1 A2 A' : List Addr}
theorem len_set {ε : En} {i : Nat} {s : Sl} : (ε.set i s).length = ε.length := List.length_set
theorem HSs.set (st : HSs K G H ε σ A) {j : Nat} {s : Sl} {ov : Option V} {B : List Addr} (h : HS K G H s ov B) (hn : (A ++ B).Nodup) : ∃ A', A'.Nodup ∧ (∀ a ∈ A', a ∈ A ∨ a ∈ B) ∧ HSs K G H (ε.set j s) (σ.set j ov) A' := by
  obtain ⟨n1, n2, n3⟩ := List.nodup_append.mp hn
  cases e : ε[j]? with
  | none =>
    have hj : ε.length ≤ j := List.getElem?_eq_none_iff.mp e
    refine ⟨A, n1, fun a ha => .inl ha, ?_⟩
    rw [List.set_eq_of_length_le hj, List.set_eq_of_length_le (by rw [← st.len]; exact hj)]
    exact st
  | some t =>
    obtain ⟨o, C, R, h1, h2, h3, h4⟩ := HSs.at_ _ _ _ _ _ st e
    obtain ⟨A', p1, p2⟩ := h4 G H s ov B (Ex.refl G) (fun _ _ => rfl) h
    have nR : (C ++ R).Nodup := h3.nodup_iff.mp n1
    refine ⟨A', p1.nodup_iff.mpr (List.nodup_append.mpr ⟨n2, (List.nodup_append.mp nR).2.1, fun a ha b hb z => ?_⟩), fun a ha => ?_, p2⟩
    · exact n3 b (h3.mem_iff.mpr (List.mem_append_right _ hb)) a ha z.symm
    · rcases List.mem_append.mp (p1.mem_iff.mp ha) with z | z
      · exact .inr z
      · exact .inl (h3.mem_iff.mpr (List.mem_append_right _ z))
theorem rep_pin {i : Nat} (h : pn.io.rep i = true) : ∀ q ∈ pn.l, q.1 ≠ i := fun q hq z => by
  have h2 : (!(pn.l.map (·.1)).contains i) = true := h
  have : i ∈ pn.l.map (·.1) := List.mem_map.mpr ⟨q, hq, z⟩
  rw [List.contains_iff_mem.mpr this] at h2
  cases h2
theorem ex_set {i j : Nat} {s : Sl} (hs : s ≠ .ex) (q : (ε.set i s)[j]? = some .ex) : ε[j]? = some .ex ∧ j ≠ i := by
  by_cases z : j = i
  · subst z
    by_cases hi : j < ε.length
    · rw [List.getElem?_set_self hi] at q
      exact absurd (Option.some.inj q) hs
    · rw [List.getElem?_eq_none (by rw [List.length_set]; omega)] at q
      cases q
  · rw [List.getElem?_set_ne (Ne.symm z)] at q
    exact ⟨q, z⟩
/-- a slot that is not pinned gets another content -/
theorem Ok.set (o : Ok K pn σ ε G H A) {j : Nat} {s : Sl} {ov : Option V} {B : List Addr} (hp : pn.io.rep j = true) (hs : s ≠ .ex) (h : HS K G H s ov B) (hn : (A ++ B).Nodup) (hg : ∀ b ∈ B, G b = none) : ∃ A', Ok K pn (σ.set j ov) (ε.set j s) G H A' ∧ ∀ a ∈ A', a ∈ A ∨ a ∈ B := by
  obtain ⟨A', n', sub, st⟩ := o.st.set (j := j) h hn
  refine ⟨A', ⟨o.ex, st, n', fun a ha => ?_, fun q hq => ?_, fun i hi => ?_, o.g0⟩, sub⟩
  · rcases sub a ha with z | z
    · exact o.gn a z
    · exact hg a z
  · have z := rep_pin hp q hq
    obtain ⟨q1, t, q2, q3⟩ := o.pin q hq
    exact ⟨by rw [List.getElem?_set_ne (Ne.symm z)]; exact q1, t, by rw [List.getElem?_set_ne (Ne.symm z)]; exact q2, q3⟩
  · obtain ⟨e, z⟩ := ex_set hs hi
    rw [List.getElem?_set_ne (Ne.symm z)]
    exact o.px i e
theorem Ok.setD (o : Ok K pn σ ε G H A) {j : Nat} {d : D} {v : V} (hp : pn.io.rep j = true) (r : Rp K G d v) : ∃ A', Ok K pn (σ.set j (some v)) (ε.set j (.da d)) G H A' ∧ ∀ a ∈ A', a ∈ A := by
  obtain ⟨A', o', s⟩ := o.set (s := .da d) (ov := some v) (B := []) hp (fun z => nomatch z) ⟨v, rfl, rfl, r⟩ (by rw [List.append_nil]; exact o.nd) (fun _ z => nomatch z)
  exact ⟨A', o', fun a ha => by rcases s a ha with z | z; exact z; cases z⟩
/-- a slot is emptied, its value as it was -/
theorem Ok.take (o : Ok K pn σ ε G H A) {j : Nat} {s : Sl} (e : ε[j]? = some s) (hs : isOwS s = true) (hp : pn.io.rep j = true) : ∃ v B A', σ[j]? = some (some v) ∧ HV K G H s v B ∧ Ok K pn σ (ε.set j .no) G H A' ∧ (A' ++ B).Nodup ∧ ∀ a, a ∈ A' ∨ a ∈ B → a ∈ A := by
  obtain ⟨ov, B, R, h1, h2, h3, h4⟩ := HSs.at_ _ _ _ _ _ o.st e
  obtain ⟨v, rfl, h5⟩ := hs_ow h2 (isOw_ne hs)
  obtain ⟨A', p1, p2⟩ := h4 G H .no (some v) [] (Ex.refl G) (fun _ _ => rfl) rfl
  rw [set_same h1] at p2
  have nBR : (B ++ R).Nodup := h3.nodup_iff.mp o.nd
  have p3 : A'.Perm R := p1
  have sub : ∀ a, a ∈ A' ∨ a ∈ B → a ∈ A := fun a h => by
    rcases h with z | z
    · exact h3.mem_iff.mpr (List.mem_append_right _ (p3.mem_iff.mp z))
    · exact h3.mem_iff.mpr (List.mem_append_left _ z)
  have nd : (A' ++ B).Nodup := ((List.Perm.append_right B p3).trans List.perm_append_comm).nodup_iff.mpr nBR
  refine ⟨v, B, A', h1, h5, ⟨o.ex, p2, (List.nodup_append.mp nd).1, fun a ha => o.gn a (sub a (.inl ha)), fun q hq => ?_, fun i hi => ?_, o.g0⟩, nd, sub⟩
  · have z := rep_pin hp q hq
    obtain ⟨q1, t, q2, q3⟩ := o.pin q hq
    exact ⟨q1, t, by rw [List.getElem?_set_ne (Ne.symm z)]; exact q2, q3⟩
  · obtain ⟨e, z⟩ := ex_set (s := .no) (fun z => nomatch z) hi
    exact o.px i e
theorem Aft.sub (o : Ok K pn σ ε G H A) (o' : Ok K pn σ1 ε1 G H A') (h : ∀ a ∈ A', a ∈ A) : Aft K pn σ ε G H A σ1 ε1 G H A' :=
  ⟨o', Ex.refl G, fun _ _ _ e => e, fun _ _ g _ => g, fun a ha => .inl (h a ha), fun _ => Ex.refl H⟩
/-! ### freezing -/
mutual
theorem HV.frz (hx : Ex G G') : ∀ (s : Sl) (v : V) (A : List Addr) (d : D), HV K G H s v A → s.frz = some d → (∀ a ∈ A, G' a = H a) → Rp K G' d v
  | .no, _, _, _, _, e, _ => by cases e
  | .ex, _, _, _, _, e, _ => by cases e
  | .ob _ _ _, _, _, _, _, e, _ => by cases e
  | .da x, v, A, d, h, e, _ => by cases e; exact Rp.mono hx _ _ h.2
  | .ls ds, v, A, d, h, e, k => by
    cases e
    obtain ⟨p, vs, h1, rfl, h3, h4⟩ := h
    exact ⟨p, vs, h1, (k p List.mem_cons_self).trans h3, Rps.mono hx _ _ h4⟩
  | .dk ks ds, v, A, d, h, e, k => by
    cases e
    obtain ⟨p, kr, vs, h1, rfl, h3, h4, h5⟩ := h
    exact ⟨p, kr, vs, h1, (h3.at fun o q => (k p List.mem_cons_self).trans q).v, Rps.mono hx _ _ h4, Rps.mono hx _ _ h5⟩
  | .lo cs, v, A, d, h, e, k => by
    obtain ⟨ds, e1, e2⟩ := Option.map_eq_some_iff.mp (show (frzs cs).map D.lst = some d from e)
    cases e2
    obtain ⟨p, vs, B, h1, rfl, h3, h4⟩ := h
    exact ⟨p, vs, h1, (k p List.mem_cons_self).trans h3, HVs.frz hx cs vs B ds h4 e1 fun a ha => k a (List.mem_cons_of_mem _ ha)⟩
  | .dl ks cs, v, A, d, h, e, k => by
    obtain ⟨ds, e1, e2⟩ := Option.map_eq_some_iff.mp (show (frzs cs).map (fun ds => D.dct ks ds) = some d from e)
    cases e2
    obtain ⟨p, kr, vs, B, h1, rfl, h3, h4, h5⟩ := h
    exact ⟨p, kr, vs, h1, (h3.at fun o q => (k p List.mem_cons_self).trans q).v, Rps.mono hx _ _ h4, HVs.frz hx cs vs B ds h5 e1 fun a ha => k a (List.mem_cons_of_mem _ ha)⟩
theorem HVs.frz (hx : Ex G G') : ∀ (ss : List Sl) (vs : List V) (A : List Addr) (ds : List D), HVs K G H ss vs A → frzs ss = some ds → (∀ a ∈ A, G' a = H a) → Rps K G' ds vs
  | [], vs, A, ds, h, e, _ => by cases e; exact h.1
  | s :: ss, vs, A, ds, h, e, k => by
    unfold frzs at e
    split at e
    · rename_i d ds' e1 e2
      cases e
      obtain ⟨v, us, B, C, h1, rfl, h3, h4⟩ := h
      exact ⟨v, us, h1, HV.frz hx s v B d h3 e1 fun a ha => k a (List.mem_append_left _ ha), HVs.frz hx ss us C ds' h4 e2 fun a ha => k a (List.mem_append_right _ ha)⟩
    · cases e
end
open Classical in
/-- these objects are frozen -/
noncomputable def frzG (G H : Hp) (B : List Addr) : Hp := fun a => if a ∈ B then H a else G a
theorem frzG_in {B : List Addr} {a : Addr} (h : a ∈ B) : frzG G H B a = H a := by unfold frzG; rw [if_pos h]
theorem frzG_out {B : List Addr} {a : Addr} (h : a ∉ B) : frzG G H B a = G a := by unfold frzG; rw [if_neg h]
theorem frzG_ex {B : List Addr} (hg : ∀ b ∈ B, G b = none) : Ex G (frzG G H B) := fun a o e => by
  rw [frzG_out fun z => by rw [hg a z] at e; cases e]
  exact e
theorem frzG_le {B : List Addr} (h : Ex G H) : Ex (frzG G H B) H := fun a o e => by
  by_cases z : a ∈ B
  · rw [frzG_in z] at e; exact e
  · rw [frzG_out z] at e; exact h a o e
/-- objects that are not in our slots are frozen -/
theorem Ok.freeze (o : Ok K pn σ ε G H A) {B : List Addr} (hg : ∀ b ∈ B, G b = none) (n : ∀ b ∈ B, b ∉ A) : Ok K pn σ ε (frzG G H B) H A := by
  refine ⟨frzG_le o.ex, HSs.mono (frzG_ex hg) _ _ _ (fun _ _ => rfl) o.st, o.nd, fun a ha => ?_, o.pin, o.px, o.g0.trans (frzG_ex hg)⟩
  rw [frzG_out fun z => n a z ha]
  exact o.gn a ha
/-- .. behind an evaluation that made them -/
theorem Aft.freeze (a : Aft K pn σ ε G H A σ1 ε1 G1 H1 A1) {B : List Addr} (hn : (A1 ++ B).Nodup) (hB : ∀ b ∈ B, G1 b = none ∧ (b ∈ A ∨ H b = none)) : Aft K pn σ ε G H A σ1 ε1 (frzG G1 H1 B) H1 A1 := by
  have hg : ∀ b ∈ B, G1 b = none := fun b hb => (hB b hb).1
  refine ⟨a.ok.freeze hg fun b hb z => (List.nodup_append.mp hn).2.2 b z b hb rfl, a.g.trans (frzG_ex hg), a.h, fun b h1 h2 h3 => ?_, a.w, a.z⟩
  rw [frzG_out fun z => ?_]
  · exact a.f b h1 h2 h3
  · rcases (hB b z).2 with y | y
    · exact h1 y
    · exact h3.1 y
/-- an object that is neither frozen nor in our slots changes -/
theorem Ok.upd (o : Ok K pn σ ε G H A) {p : Addr} {u : HO} (g : G p = none) (n : p ∉ A) : Ok K pn σ ε G (L2.upd H p u) A := by
  refine ⟨fun a x q => ?_, HSs.mono (Ex.refl G) _ _ _ (fun a ha => ?_) o.st, o.nd, o.gn, o.pin, o.px, o.g0⟩
  · have z : a ≠ p := fun y => by rw [y, g] at q; cases q
    rw [upd_ne z]; exact o.ex a x q
  · exact upd_ne fun z => n (z ▸ ha)
/-! ### a comprehension's slots -/
theorem wipe_get (σ : L2.St) : ∀ (vs : List Nat) (i : Nat), (wipe σ vs)[i]? = if i ∈ vs then σ[i]?.map (fun _ => none) else σ[i]?
  | [], i => by rw [if_neg (by simp)]; rfl
  | v :: vs, i => by
    unfold wipe
    by_cases z : i = v
    · subst z
      rw [if_pos List.mem_cons_self]
      by_cases h : i < σ.length
      · rw [List.getElem?_set_self (by rw [wipe_length]; exact h), List.getElem?_eq_getElem h]; rfl
      · rw [List.getElem?_eq_none (by rw [List.length_set, wipe_length]; omega), List.getElem?_eq_none (by omega)]; rfl
    · rw [List.getElem?_set_ne (Ne.symm z), wipe_get σ vs i]
      simp [z]
theorem wipe_ext {σ τ : L2.St} {vs : List Nat} (hl : σ.length = τ.length) (h : ∀ i : Nat, i ∉ vs → σ[i]? = τ[i]?) : wipe σ vs = wipe τ vs := by
  refine List.ext_getElem? fun i => ?_
  rw [wipe_get, wipe_get]
  by_cases z : i ∈ vs
  · rw [if_pos z, if_pos z]
    by_cases q : i < σ.length
    · rw [List.getElem?_eq_getElem q, List.getElem?_eq_getElem (by omega : i < τ.length)]; rfl
    · rw [List.getElem?_eq_none (by omega), List.getElem?_eq_none (by omega)]
  · rw [if_neg z, if_neg z, h i z]
theorem wipe_wipe (σ : L2.St) (vs : List Nat) : wipe (wipe σ vs) vs = wipe σ vs :=
  wipe_ext (wipe_length σ vs) fun i hi => by rw [wipe_get, if_neg hi]
theorem wipe_set {σ : L2.St} {j : Nat} {v : Option V} {vs : List Nat} (h : j ∈ vs) : wipe (σ.set j v) vs = wipe σ vs :=
  wipe_ext List.length_set fun i hi => List.getElem?_set_ne (fun z : j = i => hi (z ▸ h))
theorem Ok.wipe (o : Ok K pn σ ε G H A) : ∀ (vs : List Nat), (∀ j ∈ vs, pn.io.rep j = true) → ∃ A', Ok K pn (L2.wipe σ vs) (wipeE ε vs) G H A' ∧ ∀ a ∈ A', a ∈ A
  | [], _ => ⟨A, o, fun _ h => h⟩
  | v :: vs, hp => by
    obtain ⟨A1, o1, s1⟩ := o.wipe vs fun j hj => hp j (List.mem_cons_of_mem _ hj)
    obtain ⟨A2, o2, s2⟩ := o1.set (j := v) (s := .no) (ov := none) (B := []) (hp v List.mem_cons_self) (fun z => nomatch z) rfl (by rw [List.append_nil]; exact o1.nd) (fun _ z => nomatch z)
    exact ⟨A2, o2, fun a ha => by
      rcases s2 a ha with z | z
      · exact s1 a z
      · cases z⟩
/-- the same of values -/
def backS (σ τ : L2.St) : List Nat → L2.St
  | [] => τ
  | v :: vs => (backS σ τ vs).set v ((σ[v]?).getD none)
theorem backS_length (σ τ : L2.St) : ∀ vs : List Nat, (backS σ τ vs).length = τ.length
  | [] => rfl
  | v :: vs => by unfold backS; rw [List.length_set, backS_length σ τ vs]
theorem backS_get (σ τ : L2.St) : ∀ (vs : List Nat) (i : Nat), (backS σ τ vs)[i]? = if i ∈ vs then τ[i]?.map (fun _ => (σ[i]?).getD none) else τ[i]?
  | [], i => by rw [if_neg (by simp)]; rfl
  | v :: vs, i => by
    unfold backS
    by_cases z : i = v
    · subst z
      rw [if_pos List.mem_cons_self]
      by_cases h : i < τ.length
      · rw [List.getElem?_set_self (by rw [backS_length]; exact h), List.getElem?_eq_getElem h]; rfl
      · rw [List.getElem?_eq_none (by rw [List.length_set, backS_length]; omega), show τ[i]? = none from List.getElem?_eq_none (by omega)]; rfl
    · rw [List.getElem?_set_ne (Ne.symm z), backS_get σ τ vs i]
      simp [z]
theorem backS_wipe (σ : L2.St) (vs : List Nat) : backS σ (wipe σ vs) vs = σ := by
  refine List.ext_getElem? fun i => ?_
  rw [backS_get, wipe_get]
  by_cases z : i ∈ vs
  · rw [if_pos z, if_pos z]
    cases σ[i]? <;> rfl
  · rw [if_neg z, if_neg z]
def Clear (ε : En) (vs : List Nat) : Prop := ∀ j ∈ vs, ∃ s, ε[j]? = some s ∧ isOwS s = false
theorem clear_of {ε : En} {vs : List Nat} (h : ownOk ε vs = true) : Clear ε vs := fun j hj => by
  have q := List.all_eq_true.mp h j hj
  cases e : ε[j]? with
  | none => rw [e] at q; cases q
  | some s =>
    refine ⟨s, rfl, ?_⟩
    rw [e] at q
    cases w : isOwS s
    · rfl
    · have q : (!isOwS s) = true := q
      rw [w] at q; cases q
theorem HS.flat {s : Sl} {o : Option V} {B : List Addr} (h : HS K G H s o B) (hs : isOwS s = false) : B = [] := by
  cases s <;> first | exact h | (obtain ⟨v, _, h, _⟩ := h; exact h) | cases hs
theorem HS.flat' {s : Sl} {o : Option V} {B : List Addr} (h : HS K G H s o B) (hs : isOwS s = false) (g : Ex G G') : HS K G' H' s o [] := by
  cases s <;> first | exact rfl | (obtain ⟨v, h1, h2, h3⟩ := h; exact ⟨v, h1, rfl, Rp.mono g _ _ h3⟩) | cases hs
/-- behind a comprehension: the slots at vs as they were -/
theorem Ok.back (o : Ok K pn σ ε G H A) {τ : L2.St} (g : Ex G G2) : ∀ (vs : List Nat), Clear ε vs → (∀ j ∈ vs, pn.io.rep j = true) → HSs K G2 H2 ε2 τ A2 → A2.Nodup → ∃ A', A'.Nodup ∧ (∀ a ∈ A', a ∈ A2) ∧ HSs K G2 H2 (backE ε ε2 vs) (backS σ τ vs) A'
  | [], _, _, st, nd => ⟨A2, nd, fun _ h => h, st⟩
  | v :: vs, cl, hp, st, nd => by
    obtain ⟨A1, n1, s1, st1⟩ := o.back g vs (fun j hj => cl j (List.mem_cons_of_mem _ hj)) (fun j hj => hp j (List.mem_cons_of_mem _ hj)) st nd
    obtain ⟨s, e, hs⟩ := cl v List.mem_cons_self
    obtain ⟨ov, B, R, h1, h2, _⟩ := HSs.at_ _ _ _ _ _ o.st e
    obtain ⟨A', n', s', st'⟩ := st1.set (j := v) (HS.flat' h2 hs g) (by rw [List.append_nil]; exact n1)
    refine ⟨A', n', fun a ha => ?_, ?_⟩
    · rcases s' a ha with z | z
      · exact s1 a z
      · cases z
    · unfold backE backS
      rw [h1, List.getD_eq_getElem?_getD, e]
      exact st'
theorem wipeE_length (ε : En) : ∀ vs : List Nat, (wipeE ε vs).length = ε.length
  | [] => rfl
  | v :: vs => by unfold wipeE; rw [len_set, wipeE_length ε vs]
theorem backE_length (ε ε' : En) : ∀ vs : List Nat, (backE ε ε' vs).length = ε'.length
  | [] => rfl
  | v :: vs => by unfold backE; rw [len_set, backE_length ε ε' vs]
theorem backE_get (ε ε' : En) : ∀ (vs : List Nat) (i : Nat), (backE ε ε' vs)[i]? = if i ∈ vs then ε'[i]?.map (fun _ => ε.getD i .no) else ε'[i]?
  | [], i => by rw [if_neg (by simp)]; rfl
  | v :: vs, i => by
    unfold backE
    by_cases z : i = v
    · subst z
      rw [if_pos List.mem_cons_self]
      by_cases h : i < ε'.length
      · rw [List.getElem?_set_self (by rw [backE_length]; exact h), List.getElem?_eq_getElem h]; rfl
      · rw [List.getElem?_eq_none (by rw [len_set, backE_length]; omega), List.getElem?_eq_none (by omega)]; rfl
    · rw [List.getElem?_set_ne (Ne.symm z), backE_get ε ε' vs i]
      simp [z]
theorem Ok.backOk (o : Ok K pn σ ε G H A) (g : Ex G G2) {vs : List Nat} (cl : Clear ε vs) (hp : ∀ j ∈ vs, pn.io.rep j = true) (o2 : Ok K pn (L2.wipe σ vs) ε2 G2 H2 A2) : ∃ A', Ok K pn σ (backE ε ε2 vs) G2 H2 A' ∧ ∀ a ∈ A', a ∈ A2 := by
  obtain ⟨A', n', s', st'⟩ := o.back g vs cl hp o2.st o2.nd
  rw [backS_wipe] at st'
  refine ⟨A', ⟨o2.ex, st', n', fun a ha => o2.gn a (s' a ha), fun q hq => ?_, fun i q => ?_, o2.g0⟩, s'⟩
  · have z : q.1 ∉ vs := fun hm => rep_pin (hp _ hm) q hq rfl
    obtain ⟨a, c, b, e⟩ := o2.pin q hq
    rw [wipe_get, if_neg z] at a
    exact ⟨a, c, by rw [backE_get, if_neg z]; exact b, e⟩
  · rw [backE_get] at q
    by_cases z : i ∈ vs
    · rw [if_pos z] at q
      obtain ⟨s, e, hs⟩ := cl i z
      cases w : ε2[i]? with
      | none => rw [w] at q; cases q
      | some y =>
        rw [w] at q
        have e2 : ε.getD i .no = s := by rw [List.getD_eq_getElem?_getD, e]; rfl
        have q : some (ε.getD i .no) = some Sl.ex := q
        rw [e2] at q
        rw [Option.some.inj q] at e
        exact o.px i e
    · rw [if_neg z] at q
      have := o2.px i q
      rw [wipe_get, if_neg z] at this
      exact this
/-! ### targets -/
theorem names_sound {Q : L2.St → Hp → Prop} : ∀ (js : List Nat) (ds : List D) (vs : List V) (σ : L2.St) (ε : En) (A : List Addr), Ok K pn σ ε G H A → Rps K G ds vs → ds.length = js.length → (∀ j ∈ js, pn.io.rep j = true) →
    (∀ σ' A', Ok K pn σ' (setAll ε js (ds.map .da)) G H A' → (∀ a ∈ A', a ∈ A) → (∀ ws : List Nat, (∀ j ∈ js, j ∈ ws) → wipe σ' ws = wipe σ ws) → Q σ' H) → gNames js vs σ H Q
  | [], ds, vs, σ, ε, A, o, r, hl, _, k => by
    have e : ds = [] := List.eq_nil_of_length_eq_zero hl
    subst e
    cases r
    exact ⟨rfl, k σ A o (fun _ w => w) fun _ _ => rfl⟩
  | j :: js, ds, vs, σ, ε, A, o, r, hl, cl, k => by
    cases ds with
    | nil => cases hl
    | cons d ds =>
      obtain ⟨v, us, rfl, r1, r2⟩ := r
      obtain ⟨A1, o1, s1⟩ := o.setD (cl j List.mem_cons_self) r1
      refine ⟨v, us, rfl, names_sound js ds us (σ.set j (some v)) (ε.set j (.da d)) A1 o1 r2 (by simpa using hl) (fun x hx => cl x (List.mem_cons_of_mem _ hx)) fun σ' A' o' w' q' => k σ' A' o' (fun a w => s1 a (w' a w)) fun ws hw => ?_⟩
      rw [q' ws fun y hy => hw y (List.mem_cons_of_mem _ hy), wipe_set (hw j List.mem_cons_self)]
theorem Pt.sound {p : Pt} {d : D} {x : V} {ε' : En} {Q : L2.St → Hp → Prop} (o : Ok K pn σ ε G H A) (h : p.run pn.io d ε = .ok () ε') (r : Rp K G d x)
    (k : ∀ σ' A', Ok K pn σ' ε' G H A' → (∀ a ∈ A', a ∈ A) → (∀ ws : List Nat, (∀ j ∈ p.js, j ∈ ws) → wipe σ' ws = wipe σ ws) → Q σ' H) : p.rd K.K x σ H Q := by
  cases p with
  | nm j =>
    have h : (if j < ε.length ∧ pn.io.rep j = true then R.ok () (ε.set j (.da d)) else .no) = R.ok () ε' := h
    split at h
    · rename_i hc
      cases h
      obtain ⟨A', o', s⟩ := o.setD hc.2 r
      exact k _ A' o' s fun ws hw => wipe_set (hw j List.mem_cons_self)
    · cases h
  | tp js =>
    cases d with
    | tup ds =>
      have h : (if ds.length = js.length ∧ (js.all fun j => decide (j < ε.length) && pn.io.rep j) = true then R.ok () (setAll ε js (ds.map .da)) else .no) = R.ok () ε' := h
      split at h
      · rename_i hc
        cases h
        obtain ⟨a, vs, rfl, r1, r2⟩ := r
        refine ⟨a, vs, rfl, (r1.mono o.ex).sq, by rw [Rps.length _ _ r2]; exact hc.1, names_sound js ds vs σ ε A o r2 hc.1 (fun j hj => ?_) k⟩
        have := List.all_eq_true.mp hc.2 j hj
        rw [Bool.and_eq_true] at this
        exact this.2
      · cases h
    | _ => cases h
  | ls js =>
    cases d with
    | lst ds =>
      have h : (if ds.length = js.length ∧ (js.all fun j => decide (j < ε.length) && pn.io.rep j) = true then R.ok () (setAll ε js (ds.map .da)) else .no) = R.ok () ε' := h
      split at h
      · rename_i hc
        cases h
        obtain ⟨a, vs, rfl, r1, r2⟩ := r
        refine ⟨a, vs, rfl, SqL.of (o.ex _ _ r1), by rw [Rps.length _ _ r2]; exact hc.1, names_sound js ds vs σ ε A o r2 hc.1 (fun j hj => ?_) k⟩
        have := List.all_eq_true.mp hc.2 j hj
        rw [Bool.and_eq_true] at this
        exact this.2
      · cases h
    | _ => cases h
end
end Mq
/-! A small language over HandS, 12: what is run is told (parts, walks, comprehensions). -/
namespace Mq
open PySem L2 Evl
open SX (S S_len S_cat S_inj)
/-! ### while a place is held, nothing of ours changes -/
def Pin.fzd (pn : Pin) (b : Bool) : Pin := { pn with fz := pn.fz || b }
def Ar.deep : Ar → Bool
  | .p (_, _ :: _) => true
  | _ => false
theorem fzd_io {pn : Pin} {x : Ar} : (pn.fzd x.deep).io = pn.io.add x := by
  cases x with
  | d x => show ({ l := pn.l.map (·.1), fz := pn.fz || false } : Io) = _; rw [Bool.or_false]; rfl
  | t x => show ({ l := pn.l.map (·.1), fz := pn.fz || false } : Io) = _; rw [Bool.or_false]; rfl
  | p rp =>
    obtain ⟨i, ss⟩ := rp
    cases ss with
    | nil => show ({ l := pn.l.map (·.1), fz := pn.fz || false } : Io) = _; rw [Bool.or_false]; rfl
    | cons s ss => show ({ l := pn.l.map (·.1), fz := pn.fz || true } : Io) = _; rw [Bool.or_true]; rfl
theorem fzd_f {pn : Pin} : pn.fzd false = pn := by
  show ({ pn with fz := pn.fz || false } : Pin) = pn
  rw [Bool.or_false]
section
variable {K : Kx} {G G' H H' G1 G2 H1 H2 : Hp} {pn : Pin} {σ σ1 σ2 : L2.St} {ε ε1 ε2 : En} {A A1 A2 A' : List Addr}
theorem Ok.fzd {b : Bool} (o : Ok K pn σ ε G H A) : Ok K (pn.fzd b) σ ε G H A := ⟨o.ex, o.st, o.nd, o.gn, o.pin, o.px, o.g0⟩
theorem Ok.unfz {b : Bool} (o : Ok K (pn.fzd b) σ ε G H A) : Ok K pn σ ε G H A := ⟨o.ex, o.st, o.nd, o.gn, o.pin, o.px, o.g0⟩
theorem Aft.unfz {b : Bool} (a : Aft K (pn.fzd b) σ ε G H A σ1 ε1 G1 H1 A1) : Aft K pn σ ε G H A σ1 ε1 G1 H1 A1 :=
  ⟨a.ok.unfz, a.g, a.h, a.f, a.w, fun z => a.z (show (pn.fz || b) = true by rw [z]; rfl)⟩
/-- an operand, its value -/
def ArP (K : Kx) (σ : L2.St) : Ar → V → Hp → Hp → Prop
  | .d x, v, G, _ => Rp K G x v
  | .p rp, v, _, H => ∃ v0, σ[rp.1]? = some (some v0) ∧ AtH K H v0 rp.2 v
  | .t _, _, _, _ => False
theorem view_rq {s : Sl} {d : D} {v : V} {B : List Addr} (e : view s = some d) (h : HV K G H s v B) : Rq K G H d v := by
  cases s <;> first | (cases e; done) | skip
  · cases e; exact .inl h.2
  · cases e
    obtain ⟨p, vs, h1, _, h3, h4⟩ := h
    exact .inr (.inl ⟨_, p, vs, rfl, h1, h3, h4⟩)
  · cases e
    obtain ⟨p, kr, vs, h1, _, h3, h4, h5⟩ := h
    exact .inr (.inr ⟨_, _, p, kr, vs, rfl, h1, h3, h4, h5⟩)
theorem view_ne {s : Sl} {d : D} (e : view s = some d) : s ≠ .no ∧ s ≠ .ex := ⟨(fun z => by rw [z] at e; cases e), fun z => by rw [z] at e; cases e⟩
/-- a place held stays where it is -/
theorem ArP.aft {x : Ar} {v : V} (h : ArP K σ x v G1 H1) (a : Aft K (pn.fzd x.deep) σ ε1 G1 H1 A1 σ ε2 G2 H2 A2) : ArP K σ x v G2 H2 := by
  cases x with
  | d x => exact Rp.mono a.g _ _ h
  | t s => exact h
  | p rp =>
    obtain ⟨v0, h1, h2⟩ := h
    refine ⟨v0, h1, ?_⟩
    obtain ⟨i, ss⟩ := rp
    cases ss with
    | nil => exact h2
    | cons s ss => exact AtH.ex (a.z (show (pn.fz || true) = true from Bool.or_true _)) _ _ _ h2
theorem vw_rq (hd : KD K) {x : Ar} {v : V} {d : D} (o : Ok K pn σ ε G H A) (h : ArP K σ x v G H) (e : x.vw ε = some d) : Rq K G H d v := by
  cases x with
  | d x => cases e; exact .inl h
  | t s => cases e
  | p rp =>
    obtain ⟨v0, h1, h2⟩ := h
    obtain ⟨s, e1, e2⟩ := Option.bind_eq_some_iff.mp (show (getP ε rp).bind view = some d from e)
    obtain ⟨u, B, R, f1, f2, _⟩ := o.st.focus hd e1 h1 (view_ne e2).2
    have hu : u = v := AtH.det _ _ _ _ (f1 H fun _ _ => rfl) h2
    subst hu
    exact view_rq e2 f2
end
section
variable {Z : Rc} {W : WX} {α β α' β' : Type} {P : α → β → Hp → Hp → Prop} {P' : α' → β' → Hp → Hp → Prop} {Q : β → Hp → Prop} {Q' : β' → Hp → Prop}
variable {G G' H H' G1 G2 H1 H2 : Hp} {pn : Pin} {σ σ1 σ2 : L2.St} {ε ε1 ε2 : En} {A A1 A2 A' : List Addr}
theorem Rc.Fine.fzd {b : Bool} {c : Cn} (hz : Z.Fine c pn) : Z.Fine c (pn.fzd b) :=
  ⟨hz.kd, hz.cl, hz.gl, hz.gd, hz.gf, hz.ar, hz.arm, hz.mt, hz.hf, hz.ini, hz.mkc, hz.mkn, hz.cf, hz.mf, hz.ox, hz.sb, hz.x0, hz.x1⟩
/-- what is to be shown behind a part, whatever it gives -/
structure Outer (Z : Rc) (W : WX) (pn : Pin) (σ : L2.St) (Ω : En → Hp → Hp → List Addr → R α → Prop) : Prop where
  no : ∀ {ε G H A}, Ω ε G H A .no → False
  er : ∀ {ε G H A x ε'}, Ω ε G H A (.er x ε') → ∀ cls d G' H' A', Aft Z.K pn σ ε G H A σ ε' G' H' A' → Z.xr x cls d H' → W cls d σ H'
  sh : ∀ {ε G H A ε1 G1 H1 A1 r}, Aft Z.K pn σ ε G H A σ ε1 G1 H1 A1 → Ω ε G H A r → Ω ε1 G1 H1 A1 r
theorem oPost : Outer Z W pn σ fun ε G H A (r : R α) => Post Z W pn σ ε G H A P Q r := ⟨(fun h => h), (fun h => h), fun a h => Post.shift a h⟩
theorem oFPost {Q : VK} : Outer Z W pn σ fun ε G H A r => FPost Z W pn σ ε G H A Q r := ⟨(fun h => h), (fun h => h), fun a h => FPost.shift a h⟩
theorem oCPost {Q : VK} : Outer Z W pn σ fun ε G H A r => CPost Z W pn σ ε G H A Q r := ⟨(fun h => h), (fun h => h), fun a h => CPost.shift a h⟩
theorem APost.shift (a : Aft Z.K pn σ ε G H A σ ε1 G1 H1 A1) {Q : List V → Hp → Prop} {r : R (List Ar)} (h : APost Z W pn σ ε G H A Q r) : APost Z W pn σ ε1 G1 H1 A1 Q r := by
  cases r with
  | no => exact h
  | ok x ε' => exact fun v G' H' A' B z p n w => h v G' H' A' B (a.trans z) p n fun b hb => ⟨(w b hb).1, old_sub a (w b hb).2⟩
  | er x ε' => exact fun cls d G' H' A' z p => h cls d G' H' A' (a.trans z) p
theorem oAPost {Q : List V → Hp → Prop} : Outer Z W pn σ fun ε G H A r => APost Z W pn σ ε G H A Q r := ⟨(fun h => h), (fun h => h), fun a h => APost.shift a h⟩
variable {Ω : En → Hp → Hp → List Addr → R α' → Prop} {t : Bool}
theorem Post.bd (w : Outer Z W pn σ Ω) {r : R α} {f : α → En → R α'} (h : Ω ε G H A (r.bind f))
    (k : ∀ a ε1 b G1 H1 A1, Aft Z.K (pn.fzd t) σ ε G H A σ ε1 G1 H1 A1 → P a b G1 H1 → Ω ε1 G1 H1 A1 (f a ε1) → Q b H1) : Post Z W (pn.fzd t) σ ε G H A P Q r := by
  cases r with
  | no => exact w.no h
  | ok a ε1 => exact fun b G1 H1 A1 z p => k a ε1 b G1 H1 A1 z p (w.sh z.unfz h)
  | er x ε1 => exact fun cls d G' H' A' z p => w.er h cls d G' H' A' z.unfz p
theorem Post.bd0 (w : Outer Z W pn σ Ω) {r : R α} {f : α → En → R α'} (h : Ω ε G H A (r.bind f))
    (k : ∀ a ε1 b G1 H1 A1, Aft Z.K pn σ ε G H A σ ε1 G1 H1 A1 → P a b G1 H1 → Ω ε1 G1 H1 A1 (f a ε1) → Q b H1) : Post Z W pn σ ε G H A P Q r := by
  have := Post.bd (t := false) (Q := Q) (P := P) w h fun a ε1 b G1 H1 A1 z => k a ε1 b G1 H1 A1 z.unfz
  rw [fzd_f] at this
  exact this
theorem Post.bdE {r : R α} {β' : Type} {P' : α → β' → Hp → Hp → Prop} {Q' : β' → Hp → Prop} (h : Post Z W pn σ ε G H A P' Q' r) (k : ∀ a ε1 b G1 H1 A1, r = .ok a ε1 → Aft Z.K (pn.fzd t) σ ε G H A σ ε1 G1 H1 A1 → P a b G1 H1 → (∀ b' G' H' A', Aft Z.K pn σ ε G H A σ ε1 G' H' A' → P' a b' G' H' → Q' b' H') → Q b H1) : Post Z W (pn.fzd t) σ ε G H A P Q r := by
  cases r with
  | no => exact h
  | ok a ε1 => exact fun b G1 H1 A1 z p => k a ε1 b G1 H1 A1 rfl z p h
  | er x ε1 => exact fun cls d G' H' A' z p => h cls d G' H' A' z.unfz p
theorem FPost.bd {r : R Sl} {Q0 : VK} (w : Outer Z W pn σ Ω) {f : Sl → En → R α'} (h : Ω ε G H A (r.bind f))
    (k : ∀ s ε1 v G1 H1 A1 B, Aft Z.K pn σ ε G H A σ ε1 G1 H1 A1 → HV Z.K G1 H1 s v B → isOwS s = true → (A1 ++ B).Nodup → (∀ b ∈ B, G1 b = none ∧ (b ∈ A ∨ H b = none)) → Ω ε G H A (f s ε1) → Q0 v H1) : FPost Z W pn σ ε G H A Q0 r := by
  cases r with
  | no => exact w.no h
  | ok a ε1 => exact fun v G1 H1 A1 B z p q n m => k a ε1 v G1 H1 A1 B z p q n m h
  | er x ε1 => exact fun cls d G' H' A' z p => w.er h cls d G' H' A' z p
theorem APost.bd {t : Bool} {r : R (List Ar)} {Q0 : List V → Hp → Prop} (w : Outer Z W pn σ Ω) {f : List Ar → En → R α'} (h : Ω ε G H A (r.bind f))
    (k : ∀ as ε1 vs G1 H1 A1 T, Aft Z.K (pn.fzd t) σ ε G H A σ ε1 G1 H1 A1 → ArgsP Z.K σ G1 H1 as vs T → (A1 ++ T).Nodup → (∀ b ∈ T, G1 b = none ∧ (b ∈ A ∨ H b = none)) → Ω ε G H A (f as ε1) → Q0 vs H1) : APost Z W (pn.fzd t) σ ε G H A Q0 r := by
  cases r with
  | no => exact w.no h
  | ok a ε1 => exact fun v G1 H1 A1 B z p n m => k a ε1 v G1 H1 A1 B z p n m h
  | er x ε1 => exact fun cls d G' H' A' z p => w.er h cls d G' H' A' z.unfz p
theorem APost.bd0 {r : R (List Ar)} {Q0 : List V → Hp → Prop} (w : Outer Z W pn σ Ω) {f : List Ar → En → R α'} (h : Ω ε G H A (r.bind f))
    (k : ∀ as ε1 vs G1 H1 A1 T, Aft Z.K pn σ ε G H A σ ε1 G1 H1 A1 → ArgsP Z.K σ G1 H1 as vs T → (A1 ++ T).Nodup → (∀ b ∈ T, G1 b = none ∧ (b ∈ A ∨ H b = none)) → Ω ε G H A (f as ε1) → Q0 vs H1) : APost Z W pn σ ε G H A Q0 r := by
  have := APost.bd (t := false) (Q0 := Q0) w h fun a ε1 b G1 H1 A1 T z => k a ε1 b G1 H1 A1 T z.unfz
  rw [fzd_f] at this
  exact this
theorem CPost.bd {r : R Sl} {Q0 : VK} (w : Outer Z W pn σ Ω) {f : Sl → En → R α'} (h : Ω ε G H A (r.bind f))
    (k : ∀ s ε1 v G1 H1 A1, Aft Z.K pn σ ε G H A σ ε1 G1 H1 A1 → RetOk Z.K H G1 H1 A A1 s v → Ω ε G H A (f s ε1) → Q0 v H1) : CPost Z W pn σ ε G H A Q0 r := by
  cases r with
  | no => exact w.no h
  | ok a ε1 => exact fun v G1 H1 A1 z p => k a ε1 v G1 H1 A1 z p h
  | er x ε1 => exact fun cls d G' H' A' z p => w.er h cls d G' H' A' z p
theorem Post.ofA {x : Option α} {ε1 : En} (h : Post Z W pn σ ε G H A P Q (R.of ε1 x)) : ∃ a, x = some a ∧ ∀ b G' H' A', Aft Z.K pn σ ε G H A σ ε1 G' H' A' → P a b G' H' → Q b H' := by
  cases x with
  | none => exact h.elim
  | some a => exact ⟨a, rfl, h⟩
theorem FPost.ofA {Q : VK} {x : Option Sl} {ε1 : En} (h : FPost Z W pn σ ε G H A Q (R.of ε1 x)) : ∃ s, x = some s ∧ ∀ v G' H' A' B, Aft Z.K pn σ ε G H A σ ε1 G' H' A' → HV Z.K G' H' s v B → isOwS s = true → (A' ++ B).Nodup → (∀ b ∈ B, G' b = none ∧ (b ∈ A ∨ H b = none)) → Q v H' := by
  cases x with
  | none => exact h.elim
  | some a => exact ⟨a, rfl, h⟩
/-- what a call gives, as data -/
theorem ret_frz {r : Sl} {v : V} {d : D} (a : Aft Z.K pn σ ε G H A σ1 ε1 G1 H1 A1) (h : RetOk Z.K H G1 H1 A A1 r v) (e : r.frz = some d) : ∃ G2, Aft Z.K pn σ ε G H A σ1 ε1 G2 H1 A1 ∧ Rp Z.K G2 d v := by
  have key : (∃ B, HV Z.K G1 H1 r v B ∧ (A1 ++ B).Nodup ∧ ∀ b ∈ B, G1 b = none ∧ (b ∈ A ∨ H b = none)) → ∃ G2, Aft Z.K pn σ ε G H A σ1 ε1 G2 H1 A1 ∧ Rp Z.K G2 d v := fun ⟨B, b1, b2, b3⟩ =>
    ⟨_, a.freeze b2 b3, HV.frz (frzG_ex fun b hb => (b3 b hb).1) _ _ _ _ b1 e fun b hb => frzG_in hb⟩
  cases r <;> first | exact h.elim | (cases e; exact ⟨G1, a, h⟩) | exact key h
theorem ret_ow {r : Sl} {v : V} (h : RetOk Z.K H G1 H1 A A1 r v) (e : isOwS r = true) : ∃ B, HV Z.K G1 H1 r v B ∧ (A1 ++ B).Nodup ∧ ∀ b ∈ B, G1 b = none ∧ (b ∈ A ∨ H b = none) := by
  cases r <;> first | exact h.elim | (cases e; done) | exact h
/-! ### walks -/
/-- a walk over these items, whose objects are in G; the list itself in H -/
def Wk (K : Kx) (pl : Bool) (items : List D) (J : L2.It) (G H : Hp) : Prop := ∃ (Gw : Hp → Prop) (Y : Nat → Hp → V → Hp → Prop), Walk J items.length Gw Y ∧ (∀ Hc, Ex G Hc → (pl = true → Ex H Hc) → Gw Hc) ∧
  ∀ (i : Nat) (d : D) (Hc : Hp) (x : V) (Hc' : Hp), items[i]? = some d → Y i Hc x Hc' → ∀ Gc, Ex G Gc → Ex Gc Hc → ∃ Gc', Pu Gc Hc Gc' Hc' ∧ Rp K Gc' d x
variable {K : Kx} {pl : Bool}
theorem wk_keys {p : Addr} {od : PySem.Obj} {ks : List D} {kv : List (Key × V)} (g : G p = some (.frz od (.dK kv))) (h : ks.map kyF = kv.map fun q => some q.1) : Wk K pl ks (Itk p od kv) G H := by
  have hl : kv.length = ks.length := by simpa using (congrArg List.length h).symm
  refine ⟨fun H => H p = some (.frz od (.dK kv)), _, by rw [← hl]; exact walk_keys, fun Hc e _ => e _ _ g, fun i d Hc x Hc' e y Gc g1 g2 => ?_⟩
  obtain ⟨rfl, k, v, y1, rfl⟩ := y
  refine ⟨Gc, Pu.refl g2, ?_⟩
  have q : (ks.map kyF)[i]? = some (some k) := by rw [h, List.getElem?_map, y1]; rfl
  rw [List.getElem?_map, e] at q
  have q : kyF d = some k := by simpa using q
  cases d <;> first | (cases q; done) | skip
  · cases q; rfl
  · cases q; rfl
theorem wk_list {ds : List D} {p : Addr} {vs : List V} (h : SqL K.K G p vs) (r : Rps K G ds vs) : Wk K pl ds (Itl K.K p) G H := by
  refine ⟨fun H => SqL K.K H p vs, YAt vs, by rw [← Rps.length ds vs r]; exact walk_list, fun Hc e _ => ex_l e h, fun i d Hc x Hc' e y Gc g1 g2 => ?_⟩
  obtain ⟨rfl, y⟩ := y
  obtain ⟨v, e1, e2⟩ := Rps.get ds vs i d r e
  rw [y] at e1
  cases e1
  exact ⟨Gc, Pu.refl g2, Rp.mono g1 d _ e2⟩
theorem rev_get {α : Type} {l : List α} {i : Nat} {x : α} (h : l.reverse[i]? = some x) : l[l.length - 1 - i]? = some x := by
  have hi : i < l.length := by
    obtain ⟨h1, _⟩ := List.getElem?_eq_some_iff.mp h
    rw [List.length_reverse] at h1
    exact h1
  rw [List.getElem?_reverse hi] at h
  exact h
theorem wk_rev {ds : List D} {p : Addr} {vs : List V} (h : SqL K.K G p vs) (r : Rps K G ds vs) : Wk K pl ds.reverse (Itv K.K p vs.length) G H := by
  have hl := Rps.length ds vs r
  refine ⟨fun H => SqL K.K H p vs, _, by rw [List.length_reverse, ← hl]; exact walk_rev, fun Hc e _ => ex_l e h, fun i d Hc x Hc' e y Gc g1 g2 => ?_⟩
  obtain ⟨rfl, y⟩ := y
  obtain ⟨v, e1, e2⟩ := Rps.get ds vs _ d r (rev_get e)
  rw [← hl, y] at e1
  cases e1
  exact ⟨Gc, Pu.refl g2, Rp.mono g1 d _ e2⟩
theorem walk_revT {K : PySem.W.Frag} {a : Addr} {xs : List V} : Walk (RT.ItvT K a xs.length) xs.length (fun H => SqT K H a xs) (fun i H x H' => H' = H ∧ xs[xs.length - 1 - i]? = some x) :=
  ⟨fun i _ hi q => ⟨hi, xs, xs[xs.length - 1 - i]'(by omega), q, by simp [show xs.length - 1 - i < xs.length by omega]⟩, fun _ _ => Nat.le_refl _, fun _ _ _ _ _ q y => ⟨y.1, y.2 xs q⟩⟩
theorem wk_revT {ds : List D} {p : Addr} {vs : List V} (h : SqT K.K G p vs) (r : Rps K G ds vs) : Wk K pl ds.reverse (RT.ItvT K.K p vs.length) G H := by
  have hl := Rps.length ds vs r
  refine ⟨fun H => SqT K.K H p vs, _, by rw [List.length_reverse, ← hl]; exact walk_revT, fun Hc e _ => ex_t e h, fun i d Hc x Hc' e y Gc g1 g2 => ?_⟩
  obtain ⟨rfl, y⟩ := y
  obtain ⟨v, e1, e2⟩ := Rps.get ds vs _ d r (rev_get e)
  rw [← hl, y] at e1
  cases e1
  exact ⟨Gc, Pu.refl g2, Rp.mono g1 d _ e2⟩
theorem wk_own {ds : List D} {p : Addr} {vs : List V} (h : H p = some (.lst vs)) (r : Rps K G ds vs) : Wk K true ds (Itl K.K p) G H := by
  refine ⟨fun H => SqL K.K H p vs, YAt vs, by rw [← Rps.length ds vs r]; exact walk_list, fun Hc _ e => SqL.of (e rfl _ _ h), fun i d Hc x Hc' e y Gc g1 g2 => ?_⟩
  obtain ⟨rfl, y⟩ := y
  obtain ⟨v, e1, e2⟩ := Rps.get ds vs i d r e
  rw [y] at e1
  cases e1
  exact ⟨Gc, Pu.refl g2, Rp.mono g1 d _ e2⟩
theorem wk_tup {ds : List D} {p : Addr} {vs : List V} (h : SqT K.K G p vs) (r : Rps K G ds vs) : Wk K pl ds (Itt K.K p) G H := by
  refine ⟨fun H => SqT K.K H p vs, YAt vs, by rw [← Rps.length ds vs r]; exact walk_tup, fun Hc e _ => ex_t e h, fun i d Hc x Hc' e y Gc g1 g2 => ?_⟩
  obtain ⟨rfl, y⟩ := y
  obtain ⟨v, e1, e2⟩ := Rps.get ds vs i d r e
  rw [y] at e1
  cases e1
  exact ⟨Gc, Pu.refl g2, Rp.mono g1 d _ e2⟩
theorem wk_str {l : List Nat} : Wk K pl (l.map fun c => .str [c]) (Its (S l)) G H := by
  refine ⟨fun _ => True, _, by rw [List.length_map]; exact walk_str (z := S l), fun _ _ _ => trivial, fun i d Hc x Hc' e y Gc g1 g2 => ?_⟩
  obtain ⟨rfl, c, y1, rfl⟩ := y
  rw [List.getElem?_map] at e
  have y2 : l[i]? = some c := by simpa using y1
  rw [y2] at e
  cases e
  exact ⟨Gc, Pu.refl g2, rfl⟩
theorem wk_rng {a b : Int} : Wk K pl (rngD a b) (Itr a (b - a).toNat) G H := by
  refine ⟨fun _ => True, _, by unfold rngD; rw [List.length_map, List.length_range]; exact walk_range (lo := a) (n := (b - a).toNat), fun _ _ _ => trivial, fun i d Hc x Hc' e y Gc g1 g2 => ?_⟩
  obtain ⟨rfl, rfl⟩ := y
  unfold rngD at e
  rw [List.getElem?_map] at e
  by_cases hi : i < (b - a).toNat
  · rw [List.getElem?_range hi] at e
    cases e
    exact ⟨Gc, Pu.refl g2, rfl⟩
  · rw [List.getElem?_eq_none (by simp; omega)] at e
    cases e
/-! ### comprehensions -/
theorem noEr_ok {α : Type} {r : R α} {a : α} {ε' : En} (h : r.noEr = .ok a ε') : r = .ok a ε' := by
  cases r with
  | no => cases h
  | ok b ε2 => exact h
  | er x ε2 => cases h
theorem bind_ok {α β : Type} {r : R α} {f : α → En → R β} {b : β} {ε' : En} (h : r.bind f = .ok b ε') : ∃ a ε1, r = .ok a ε1 ∧ f a ε1 = .ok b ε' := by
  cases r with
  | no => cases h
  | ok a ε1 => exact ⟨a, ε1, rfl, h⟩
  | er x ε2 => cases h
def IdP {α : Type} : α → α → Hp → Hp → Prop := fun a b _ _ => a = b
def VP (K : Kx) : D → V → Hp → Hp → Prop := fun d v G _ => Rp K G d v
def VPs (K : Kx) : List D → List V → Hp → Hp → Prop := fun d v G _ => Rps K G d v
theorem lc_sound {p : Pt} {t : En → R Bool} {e : En → R D} {tt : TT} {te : TE} {own : List Nat} {items : List D} {J : L2.It} {Q : VK}
    (ht : ∀ {σ : L2.St} {ε : En} {G H : Hp} {A : List Addr} {Q : Bool → Hp → Prop}, Ok Z.K (pn.fzd pl) σ ε G H A → Post Z W0 (pn.fzd pl) σ ε G H A IdP Q (t ε) → tt σ H Q)
    (he : ∀ {σ : L2.St} {ε : En} {G H : Hp} {A : List Addr} {Q : VK}, Ok Z.K (pn.fzd pl) σ ε G H A → Post Z W0 (pn.fzd pl) σ ε G H A (VP Z.K) Q (e ε) → te σ H Q)
    (o : Ok Z.K pn σ ε G H A) (wk : Wk Z.K pl items J G H) (cl : Clear ε own) (hr0 : ∀ j ∈ own, pn.io.rep j = true) (hp : ∀ j ∈ p.js, j ∈ own) {ys : List D} {εn : En} (hr : lcRun (pn.fzd pl).io p t e own items (wipeE ε own) [] = .ok ys εn)
    (k : ∀ Da G' H' A' vs, Aft Z.K pn σ ε G H A σ (backE ε εn own) G' H' A' → H Da = none → H' Da = some (.lst vs) → Rps Z.K G' ys vs → G' Da = none → Da ∉ A' → Q (.ref Da) H') :
    ∀ D, H D = none → ∃ W : Nat → Nat → Hp → Prop, (∃ m, W 0 m (upd H D (.lst []))) ∧ ∀ i m H, W i m H →
      (J.stop i H ∧ Q (.ref D) H) ∨ (J.go i H ∧ ∃ Nx : Hp → Prop, (∀ H', Nx H' → ∃ m', m' < m ∧ W (i + 1) m' H') ∧ ∀ x H', J.yld i H x H' → p.rd Z.K.K x (wipe σ own) H' fun σ2 H2 => wipe σ2 own = wipe σ own ∧ tt σ2 H2 fun b H3 =>
        if b = true then te σ2 H3 fun y H4 => ∃ acc, H4 D = some (.lst acc) ∧ acc.length < sizeLine ∧ Nx (upd H4 D (.lst (acc ++ [y]))) else Nx H3) := by
  intro Da hD
  obtain ⟨Gw, Y, wlk, hgw, hy⟩ := wk
  have gD : G Da = none := none_of_ex o.ex hD
  obtain ⟨A0, o00, s0⟩ := o.wipe own hr0
  have ow0 : Ok Z.K (pn.fzd pl) (wipe σ own) (wipeE ε own) G H A0 := o00.fzd
  have nD : Da ∉ A0 := fun w => (ow0.lv _ w).1 hD
  have neD : ∀ (x : Addr) (u : HO), H x = some u → x ≠ Da := fun x u e z => by rw [z, hD] at e; cases e
  refine lc_it wlk (fun i Hi => ∃ (εi : En) (Gi : Hp) (acc : List D) (vs : List V) (Ai : List Addr), Aft Z.K (pn.fzd pl) (wipe σ own) (wipeE ε own) G H A0 (wipe σ own) εi Gi Hi Ai ∧ Da ∉ Ai ∧ Hi Da = some (.lst vs) ∧ Gi Da = none ∧ Rps Z.K Gi acc vs ∧
      lcRun (pn.fzd pl).io p t e own (items.drop i) εi acc = .ok ys εn) ?_ ?_ ?_ ?_
  · exact ⟨wipeE ε own, G, [], [], A0, ⟨ow0.upd gD nD, Ex.refl G, fun a u _ e => by rw [upd_ne (neD a u e)]; exact e, fun _ _ g _ => g, fun _ w => .inl w, fun _ a u e => by rw [upd_ne (neD a u e)]; exact e⟩, nD, upd_same, gD, rfl, hr⟩
  · rintro i Hi _ ⟨εi, Gi, acc, vs, Ai, a, h0, h1, h2, h3, h4⟩
    exact hgw _ (a.g.trans a.ok.ex) fun z => a.z (by show (pn.fz || pl) = true; rw [z, Bool.or_true])
  · rintro i x Hi Hi' hi ⟨εi, Gi, acc, vs, Ai, a, h0, h1, h2, h3, h4⟩ y
    obtain ⟨d, hd⟩ : ∃ d, items[i]? = some d := ⟨items[i], List.getElem?_eq_getElem hi⟩
    obtain ⟨Gc, pu, rx⟩ := hy i d Hi x Hi' hd y Gi a.g a.ok.ex
    have hD2 : Hi' Da = some (.lst vs) := pu.h _ _ h1
    have gD2 : Gc Da = none := pu.f _ h2 (by rw [h1]; exact fun z => nomatch z)
    have a2 := a.trans (Aft.pu a.ok pu)
    rw [List.drop_eq_getElem_cons (by exact hi), show items[i] = d by rw [List.getElem?_eq_getElem hi] at hd; exact Option.some.inj hd] at h4
    unfold lcRun at h4
    obtain ⟨⟨⟩, ε1, e1, h4⟩ := bind_ok h4
    obtain ⟨b, ε2, e2, h4⟩ := bind_ok h4
    have e2 := noEr_ok e2
    refine Pt.sound a2.ok e1 rx fun σ2 A3 o3 w3 q3 => ?_
    have q4 : wipe σ2 own = wipe σ own := by rw [q3 own hp, wipe_wipe]
    have a2' : Aft Z.K (pn.fzd pl) (wipe σ own) (wipeE ε own) G H A0 σ2 ε1 Gc Hi' A3 := a2.trans (Aft.sub a2.ok o3 w3)
    have nD3 : Da ∉ A3 := fun w => h0 (w3 _ w)
    have lvD : Lv (some (HO.lst vs)) := ⟨(fun z => nomatch z), fun _ z => nomatch z⟩
    refine ⟨q4, ht o3 ?_⟩
    rw [e2]
    rintro b' G3 H3 A4 a3 rfl
    have hD3 : H3 Da = some (.lst vs) := a3.h _ _ nD3 hD2
    have gD3 : G3 Da = none := a3.f _ nD3 gD2 (by rw [hD2]; exact lvD)
    have nD4 : Da ∉ A4 := fun w => by
      rcases a3.w _ w with z | z
      · exact nD3 z
      · rw [hD2] at z; cases z
    have a23 := a2'.trans a3
    cases b with
    | false =>
      show ∃ (εi : En) (Gi : Hp) (acc : List D) (vs : List V) (Ai : List Addr), _
      rw [if_neg Bool.false_ne_true] at h4
      obtain ⟨A5, o5, s5⟩ := a3.ok.wipe own hr0
      rw [q4] at o5
      exact ⟨wipeE ε2 own, G3, acc, vs, A5, a23.trans (Aft.sub a3.ok o5 s5), fun w => nD4 (s5 _ w), hD3, gD3, Rps.mono (pu.g.trans a3.g) _ _ h3, h4⟩
    | true =>
      show te σ2 H3 _
      rw [if_pos rfl] at h4
      obtain ⟨y', ε3, e3, h4⟩ := bind_ok h4
      have e3 := noEr_ok e3
      refine he a3.ok ?_
      rw [e3]
      intro y G4 H4 A5 a4 ry
      have hD4 : H4 Da = some (.lst vs) := a4.h _ _ nD4 hD3
      have gD4 : G4 Da = none := a4.f _ nD4 gD3 (by rw [hD3]; exact lvD)
      have nD5 : Da ∉ A5 := fun w => by
        rcases a4.w _ w with z | z
        · exact nD4 z
        · rw [hD3] at z; cases z
      have a24 := a23.trans a4
      split at h4
      · rename_i hz
        have hlen : vs.length < sizeLine := by
          rw [Rps.length _ _ h3]
          exact Nat.lt_of_lt_of_le hz (by decide)
        obtain ⟨A6, o6, s6⟩ := a4.ok.wipe own hr0
        rw [q4] at o6
        have nD6 : Da ∉ A6 := fun w => nD5 (s6 _ w)
        have a6 := a24.trans (Aft.sub a4.ok o6 s6)
        exact ⟨vs, hD4, hlen, wipeE ε3 own, G4, acc ++ [y'], vs ++ [y], A6, ⟨o6.upd gD4 nD6, a6.g, fun x u n e => by rw [upd_ne (neD x u e)]; exact a6.h x u n e, a6.f, a6.w, fun z x u e => by rw [upd_ne (neD x u e)]; exact a6.z z x u e⟩, nD6, upd_same, gD4,
          Rps.snoc (Rps.mono ((pu.g.trans a3.g).trans a4.g) _ _ h3) ry, h4⟩
      · cases h4
  · rintro Hn ⟨εi, Gi, acc, vs, Ai, a, h0, h1, h2, h3, h4⟩
    rw [List.drop_length] at h4
    have h4 : R.ok acc εi = R.ok ys εn := h4
    cases h4
    obtain ⟨A7, o7, s7⟩ := o.backOk a.g cl hr0 a.ok.unfz
    refine k Da Gi Hn A7 vs ⟨o7, a.g, fun x u n e => a.h x u (fun z => n (s0 _ z)) e, fun x n g e => a.f x (fun z => n (s0 _ z)) g e, fun x w => ?_, fun z => a.z (show (pn.fz || pl) = true by rw [z]; rfl)⟩ hD h1 h3 h2 fun w => h0 (s7 _ w)
    rcases a.w x (s7 _ w) with z | z
    · exact .inl (s0 _ z)
    · exact .inr z
end
end Mq
/-! A small language over HandS: a dict that is data, locked for a while. -/
namespace Mq
open PySem L2 Evl
open SX (S S_len S_cat S_inj)

/-- the same, but that dicts may be locked or unlocked -/
def ExV (G G' : Hp) : Prop := ∀ a o, G a = some o → G' a = some o ∨ (∃ kv od, o = .dK kv ∧ G' a = some (.frz od (.dK kv))) ∨ ∃ kv od, o = .frz od (.dK kv) ∧ G' a = some (.dK kv)
section
variable {K : Kx} {G G' H H' G1 G2 H1 H2 : Hp} {pn : Pin} {σ σ1 σ2 : L2.St} {ε ε1 ε2 : En} {A A1 A2 A' : List Addr}
theorem ExV.eq (e : ExV G G') {a : Addr} {o : HO} (h : G a = some o) (n1 : ∀ kv, o ≠ .dK kv) (n2 : ∀ od kv, o ≠ .frz od (.dK kv)) : G' a = some o := by
  rcases e a o h with z | ⟨kv, od, z, _⟩ | ⟨kv, od, z, _⟩
  · exact z
  · exact absurd z (n1 kv)
  · exact absurd z (n2 od kv)
theorem SqL.monoV {a : Addr} {xs : List V} (e : ExV G G') (h : SqL K.K G a xs) : SqL K.K G' a xs := by
  rcases h with (h | ⟨o, h⟩) | h
  · exact .inl (.inl (e.eq h (fun _ z => nomatch z) fun _ _ z => nomatch z))
  · exact .inl (.inr ⟨o, e.eq h (fun _ z => nomatch z) fun _ _ z => nomatch z⟩)
  · exact .inr h
theorem TpAt.monoV {p : Addr} {vs : List V} (e : ExV G G') (h : TpAt K G p vs) : TpAt K G' p vs := by
  rcases h with ⟨o, h, hd⟩ | h
  · exact .inl ⟨o, e.eq h (fun _ z => nomatch z) (fun _ _ z => nomatch z), hd⟩
  · exact .inr h
theorem DcV.monoV {p : Addr} {ks : List D} {kr vs : List V} (e : ExV G G') (h : DcV K G p ks kr vs) : DcV K G' p ks kr vs := by
  rcases h with (⟨kv, h1, h2⟩ | ⟨h0, xs, h1, h2⟩) | ⟨od, kv, h1, h2⟩
  · rcases e _ _ h1 with z | ⟨kv', od, z, w⟩ | ⟨kv', od, z, w⟩
    · exact .inl (.inl ⟨kv, z, h2⟩)
    · cases z; exact .inr ⟨od, kv, w, h2⟩
    · cases z
  · exact .inl (.inr ⟨h0, xs, e.eq h1 (fun _ z => nomatch z) (fun _ _ z => nomatch z), h2⟩)
  · rcases e _ _ h1 with z | ⟨kv', od', z, w⟩ | ⟨kv', od', z, w⟩
    · exact .inr ⟨od, kv, z, h2⟩
    · cases z
    · cases z; exact .inl (.inl ⟨kv, w, h2⟩)
mutual
theorem Rp.monoV (e : ExV G G') : ∀ (d : D) (v : V), Rp K G d v → Rp K G' d v
  | .non, _, h => h
  | .bl _, _, h => h
  | .int _, _, h => h
  | .str _, _, h => h
  | .ty _, _, h => h
  | .fn _, _, h => h
  | .lst ds, _, h => by
    obtain ⟨p, vs, h1, h2, h3⟩ := h
    exact ⟨p, vs, h1, e.eq h2 (fun _ z => nomatch z) (fun _ _ z => nomatch z), Rps.monoV e ds vs h3⟩
  | .tup ds, _, h => by
    obtain ⟨p, vs, h1, h2, h3⟩ := h
    exact ⟨p, vs, h1, h2.monoV e, Rps.monoV e ds vs h3⟩
  | .fls ds, _, h => by
    obtain ⟨p, vs, h1, h2, h3⟩ := h
    exact ⟨p, vs, h1, SqL.monoV e h2, Rps.monoV e ds vs h3⟩
  | .dct ks ds, _, h => by
    obtain ⟨p, kr, vs, h1, h2, h3, h4⟩ := h
    exact ⟨p, kr, vs, h1, h2.monoV e, Rps.monoV e ks kr h3, Rps.monoV e ds vs h4⟩
theorem Rps.monoV (e : ExV G G') : ∀ (ds : List D) (vs : List V), Rps K G ds vs → Rps K G' ds vs
  | [], _, h => h
  | d :: ds, _, h => by
    obtain ⟨v, r, h1, h2, h3⟩ := h
    exact ⟨v, r, h1, Rp.monoV e d v h2, Rps.monoV e ds r h3⟩
end
mutual
theorem HV.monoV (e : ExV G G') : ∀ (s : Sl) (v : V) (A : List Addr), (∀ a ∈ A, H' a = H a) → HV K G H s v A → HV K G' H' s v A
  | .no, _, _, _, h => h
  | .ex, _, _, _, h => h
  | .da d, v, A, k, ⟨h1, h2⟩ => ⟨h1, Rp.monoV e d v h2⟩
  | .ls ds, v, A, k, h => by
    obtain ⟨p, vs, h1, rfl, h3, h4⟩ := h
    exact ⟨p, vs, h1, rfl, (k p List.mem_cons_self).trans h3, Rps.monoV e _ _ h4⟩
  | .dk ks ds, v, A, k, h => by
    obtain ⟨p, kr, vs, h1, rfl, h3, h4, h5⟩ := h
    exact ⟨p, kr, vs, h1, rfl, h3.at fun o q => (k p List.mem_cons_self).trans q, Rps.monoV e _ _ h4, Rps.monoV e _ _ h5⟩
  | .ob c fn fv, v, A, k, h => by
    obtain ⟨p, dx, fs, B, h1, rfl, h3, h4, h5, h6, h7⟩ := h
    exact ⟨p, dx, fs, B, h1, rfl, (k p List.mem_cons_self).trans h3, (k dx (List.mem_cons_of_mem _ List.mem_cons_self)).trans h4, h5, h6, HVs.monoV e fv _ B (fun a ha => k a (List.mem_cons_of_mem _ (List.mem_cons_of_mem _ ha))) h7⟩
  | .lo cs, v, A, k, h => by
    obtain ⟨p, vs, B, h1, rfl, h3, h4⟩ := h
    exact ⟨p, vs, B, h1, rfl, (k p List.mem_cons_self).trans h3, HVs.monoV e cs _ B (fun a ha => k a (List.mem_cons_of_mem _ ha)) h4⟩
  | .dl ks cs, v, A, k, h => by
    obtain ⟨p, kr, vs, B, h1, rfl, h3, h4, h5⟩ := h
    exact ⟨p, kr, vs, B, h1, rfl, h3.at fun o q => (k p List.mem_cons_self).trans q, Rps.monoV e _ _ h4, HVs.monoV e cs _ B (fun a ha => k a (List.mem_cons_of_mem _ ha)) h5⟩
theorem HVs.monoV (e : ExV G G') : ∀ (ss : List Sl) (vs : List V) (A : List Addr), (∀ a ∈ A, H' a = H a) → HVs K G H ss vs A → HVs K G' H' ss vs A
  | [], _, _, _, h => h
  | s :: ss, _, _, k, h => by
    obtain ⟨v, us, B, C, h1, rfl, h3, h4⟩ := h
    exact ⟨v, us, B, C, h1, rfl, HV.monoV e s v B (fun a ha => k a (List.mem_append_left _ ha)) h3, HVs.monoV e ss us C (fun a ha => k a (List.mem_append_right _ ha)) h4⟩
end
theorem HS.monoV (e : ExV G G') {s : Sl} {o : Option V} {A : List Addr} (k : ∀ a ∈ A, H' a = H a) (h : HS K G H s o A) : HS K G' H' s o A := by
  cases s <;> first | exact h | (obtain ⟨v, h1, h2⟩ := h; exact ⟨v, h1, HV.monoV e _ v A k h2⟩)
theorem HSs.monoV (e : ExV G G') : ∀ (ss : En) (σ : L2.St) (A : List Addr), (∀ a ∈ A, H' a = H a) → HSs K G H ss σ A → HSs K G' H' ss σ A
  | [], _, _, _, h => h
  | s :: ss, _, _, k, h => by
    obtain ⟨v, us, B, C, h1, rfl, h3, h4⟩ := h
    exact ⟨v, us, B, C, h1, rfl, HS.monoV e (fun a ha => k a (List.mem_append_left _ ha)) h3, HSs.monoV e ss us C (fun a ha => k a (List.mem_append_right _ ha)) h4⟩

/-! ### locking, unlocking -/
theorem exV_lock {p : Addr} {kv : List (Key × V)} {od : Obj} (h : G p = some (.dK kv)) : ExV G (upd G p (.frz od (.dK kv))) := fun a o e => by
  by_cases z : a = p
  · subst z
    rw [h] at e
    cases e
    exact .inr (.inl ⟨kv, od, rfl, upd_same⟩)
  · exact .inl (by rw [upd_ne z]; exact e)
theorem exV_unlock {p : Addr} {kv : List (Key × V)} {od : Obj} (h : G p = some (.frz od (.dK kv))) : ExV G (upd G p (.dK kv)) := fun a o e => by
  by_cases z : a = p
  · subst z
    rw [h] at e
    cases e
    exact .inr (.inr ⟨kv, od, rfl, upd_same⟩)
  · exact .inl (by rw [upd_ne z]; exact e)
/-- the pins under the lock -/
def Pin.lk (pn : Pin) (p : Addr) (u : HO) : Pin := { pn with g0 := fun a => if a = p then (pn.g0 p).map fun _ => u else pn.g0 a }
theorem lk_io {p : Addr} {u : HO} : (pn.lk p u).io = pn.io := rfl
theorem ok_lock {p : Addr} {kv : List (Key × V)} {od : Obj} (o : Ok K pn σ ε G H A) (h : G p = some (.dK kv)) :
    Ok K (pn.lk p (.frz od (.dK kv))) σ ε (upd G p (.frz od (.dK kv))) (upd H p (.frz od (.dK kv))) A := by
  have ne : ∀ a ∈ A, a ≠ p := fun a ha z => by rw [z] at ha; rw [o.gn p ha] at h; cases h
  refine ⟨fun a u e => ?_, HSs.monoV (exV_lock h) _ _ _ (fun a ha => upd_ne (ne a ha)) o.st, o.nd, fun a ha => by rw [upd_ne (ne a ha)]; exact o.gn a ha, o.pin, o.px, fun a u e => ?_⟩
  · by_cases z : a = p
    · subst z; rw [upd_same] at e ⊢; exact e
    · rw [upd_ne z] at e ⊢; exact o.ex a u e
  · by_cases z : a = p
    · subst z
      have e : (if a = a then (pn.g0 a).map fun _ => HO.frz od (.dK kv) else pn.g0 a) = some u := e
      rw [if_pos rfl] at e
      obtain ⟨_, _, rfl⟩ := Option.map_eq_some_iff.mp e
      exact upd_same
    · have e : (if a = p then (pn.g0 p).map fun _ => HO.frz od (.dK kv) else pn.g0 a) = some u := e
      rw [if_neg z] at e
      rw [upd_ne z]
      exact o.g0 a u e
/-- behind the lock: p is as it was -/
theorem aft_unlock {p : Addr} {kv : List (Key × V)} {od : Obj} (o : Ok K pn σ ε G H A) (h : G p = some (.dK kv))
    (a : Aft K (pn.lk p (.frz od (.dK kv))) σ ε (upd G p (.frz od (.dK kv))) (upd H p (.frz od (.dK kv))) A σ1 ε1 G1 H1 A1) :
    G1 p = some (.frz od (.dK kv)) ∧ H1 p = some (.frz od (.dK kv)) ∧ Aft K pn σ ε G H A σ1 ε1 (upd G1 p (.dK kv)) (upd H1 p (.dK kv)) A1 := by
  have g1 : G1 p = some (.frz od (.dK kv)) := a.g p _ upd_same
  have h1 : H1 p = some (.frz od (.dK kv)) := a.ok.ex p _ g1
  have hp : H p = some (.dK kv) := o.ex p _ h
  have ne : ∀ x ∈ A1, x ≠ p := fun x hx z => by rw [z] at hx; rw [a.ok.gn p hx] at g1; cases g1
  refine ⟨g1, h1, ⟨fun x u e => ?_, HSs.monoV (exV_unlock g1) _ _ _ (fun x hx => upd_ne (ne x hx)) a.ok.st, a.ok.nd, fun x hx => by rw [upd_ne (ne x hx)]; exact a.ok.gn x hx, a.ok.pin, a.ok.px, fun x u e => ?_⟩, fun x u e => ?_, fun x u n e => ?_, fun x n e l => ?_, fun x hx => ?_, fun z x u e => ?_⟩
  · by_cases z : x = p
    · subst z; rw [upd_same] at e ⊢; exact e
    · rw [upd_ne z] at e ⊢; exact a.ok.ex x u e
  · by_cases z : x = p
    · subst z
      have w := o.g0 x u e
      rw [h] at w
      cases w
      exact upd_same
    · rw [upd_ne z]
      refine a.ok.g0 x u ?_
      show (if x = p then (pn.g0 p).map fun _ => HO.frz od (.dK kv) else pn.g0 x) = some u
      rw [if_neg z]
      exact e
  · by_cases z : x = p
    · subst z; rw [h] at e; cases e; exact upd_same
    · rw [upd_ne z]; exact a.g x u (by rw [upd_ne z]; exact e)
  · by_cases z : x = p
    · subst z; rw [hp] at e; cases e; exact upd_same
    · rw [upd_ne z]; exact a.h x u n (by rw [upd_ne z]; exact e)
  · have z : x ≠ p := fun z => by rw [z, h] at e; cases e
    rw [upd_ne z]
    exact a.f x n (by rw [upd_ne z]; exact e) (by rw [upd_ne z]; exact l)
  · rcases a.w x hx with w | w
    · exact .inl w
    · rw [upd_ne (ne x hx)] at w; exact .inr w
  · by_cases w : x = p
    · subst w; rw [hp] at e; cases e; exact upd_same
    · rw [upd_ne w]; exact a.z z x u (by rw [upd_ne w]; exact e)
theorem rp_unlock {p : Addr} {kv : List (Key × V)} {od : Obj} (g : G1 p = some (.frz od (.dK kv))) {d : D} {v : V} (h : Rp K G1 d v) : Rp K (upd G1 p (.dK kv)) d v := Rp.monoV (exV_unlock g) _ _ h
theorem dk_data {i : Nat} {ks : List D} (o : Ok K pn σ ε G H A) (e : dkOf ε i = some ks) : ∃ p, σ[i]? = some (some (.ref p)) ∧
    ((∃ od kv, G p = some (.frz od (.dK kv)) ∧ ks.map kyF = kv.map (fun q => some q.1)) ∨ ∃ kv, G p = some (.dK kv) ∧ ks.map kyF = kv.map (fun q => some q.1)) := by
  unfold dkOf at e
  split at e
  · rename_i ks' ds e1
    split at e
    · rename_i hF
      cases e
      obtain ⟨x, B, R, f1, ⟨v, rfl, _, h⟩, _⟩ := HSs.at_ _ _ _ _ _ o.st e1
      obtain ⟨p, kr, vs, rfl, h1, h2, h3⟩ := h
      obtain ⟨kv, d1, d2, d3, d4⟩ := dictV h1 hF
      refine ⟨p, f1, ?_⟩
      rcases d1 with d1 | ⟨od, d1⟩
      · exact .inr ⟨kv, d1, d2⟩
      · exact .inl ⟨od, kv, d1, d2⟩
    · cases e
  · cases e
theorem fine_lk {Z : Rc} {c : Cn} {p : Addr} {kv : List (Key × V)} {u : HO} (hz : Z.Fine c pn) (o : Ok K pn σ ε G H A) (h : G p = some (.dK kv)) : Z.Fine c (pn.lk p u) :=
  { hz with
    x0 := hz.x0
    x1 := fun x e => by
      obtain ⟨a1, ns, b1, b2, b3, b4, b5, b6⟩ := hz.x1 x e
      refine ⟨a1, ns, b1, b2, b3, b4, b5, fun n => ?_⟩
      obtain ⟨dd, c1, c2⟩ := b6 n
      refine ⟨dd, c1, ?_⟩
      show (if dd = p then (pn.g0 p).map fun _ => u else pn.g0 dd) = _
      rw [if_neg fun z => ?_]
      · exact c2
      · have w := o.g0 _ _ c2
        rw [z, h] at w
        cases w }
end
end Mq
/-! A small language over HandS, 13: comprehensions that make dicts. -/
namespace Mq
open PySem L2 Evl
open SX (S S_len S_cat S_inj)
section
variable {K : Kx} {G G' H H' G1 G2 H1 H2 : Hp}
theorem it_gen {J : L2.It} {n : Nat} {Gw : Hp → Prop} {Y : Nat → Hp → V → Hp → Prop} (w : Walk J n Gw Y) {B : (Hp → Prop) → V → Hp → Prop} {H0 : Hp} {Qd : Hp → Prop} (Pv : Nat → Hp → Prop) (h0 : Pv 0 H0) (hG : ∀ i H, i ≤ n → Pv i H → Gw H)
    (hs : ∀ i x H H', i < n → Pv i H → Y i H x H' → B (Pv (i + 1)) x H') (hd : ∀ H, Pv n H → Qd H) :
    ∃ W : Nat → Nat → Hp → Prop, (∃ m, W 0 m H0) ∧ ∀ i m H, W i m H →
      (J.stop i H ∧ Qd H) ∨ (J.go i H ∧ ∃ Nx : Hp → Prop, (∀ H', Nx H' → ∃ m', m' < m ∧ W (i + 1) m' H') ∧ ∀ x H', J.yld i H x H' → B Nx x H') := by
  refine ⟨fun i m H => m = n - i ∧ i ≤ n ∧ Pv i H, ⟨n, by simp, Nat.zero_le _, h0⟩, ?_⟩
  rintro i m H ⟨rfl, hi, p⟩
  have q := hG i H hi p
  by_cases hlt : i < n
  · refine .inr ⟨w.goes i H hlt q, Pv (i + 1), fun H' p' => ⟨n - (i + 1), by omega, rfl, hlt, p'⟩, fun x H' y => hs i x H H' hlt p (w.yields i H x H' hlt q y)⟩
  · have e : i = n := by omega
    subst e
    exact .inl ⟨w.stops H q, hd H p⟩
theorem putKs_rps {ks : List D} {d : D} {kr : List V} {y : V} (h : Rps K G ks kr) (r : Rp K G d y) : Rps K G (putKs ks d) (putR ks d kr y) := by
  unfold putKs putR
  split
  · exact h
  · exact Rps.snoc h r
theorem putV_rps {ks ds : List D} {d x : D} {vs : List V} {v : V} (h : Rps K G ds vs) (r : Rp K G x v) : Rps K G (putV ks d ds x) (putV ks d vs v) := by
  unfold putV
  split
  · exact Rps.set _ _ _ _ _ h r
  · exact Rps.snoc h r
theorem flat_rp {d : D} {y : V} (hF : isF d = true) (h : Rp K G d y) : ∃ k, kyF d = some k ∧ y = kV k := by
  cases d <;> first | (cases hF; done) | skip
  · cases h; exact ⟨_, rfl, rfl⟩
  · cases h; exact ⟨_, rfl, rfl⟩
theorem nodup_kv {ks : List D} {kv : List (Key × V)} (h : (ks.map kyF).Nodup) (e : ks.map kyF = kv.map fun q => some q.1) : (kv.map (·.1)).Nodup := by
  rw [e] at h
  have q : (kv.map fun q => some q.1) = (kv.map (·.1)).map some := by rw [List.map_map]; rfl
  rw [q] at h
  exact List.Pairwise.of_map some (fun a b n z => n (congrArg some z)) h
theorem ixk_none : ∀ {ks : List D} {d : D}, isF d = true → ks.all isF = true → ixk ks d = none → kyF d ∉ ks.map kyF
  | [], _, _, _, _ => by simp
  | x :: ks, d, hF, hA, h => by
    rw [List.all_cons, Bool.and_eq_true] at hA
    unfold ixk at h
    split at h
    · cases h
    · rename_i n
      have h2 : ixk ks d = none := by
        cases q : ixk ks d with
        | none => rfl
        | some i => rw [q] at h; cases h
      rw [List.map_cons, List.mem_cons]
      rintro (z | z)
      · refine n ?_
        cases d <;> first | (cases hF; done) | skip
        · cases x <;> first | (cases hA.1; done) | skip
          · cases z; simp [D.keq]
          · cases z
        · cases x <;> first | (cases hA.1; done) | skip
          · cases z
          · have z : some (Sum.inr (S _)) = some (Sum.inr (S _)) := z
            injection z with z
            injection z with z
            have z := S_inj z
            subst z
            simp [D.keq]
      · exact ixk_none hF hA.2 h2 z
theorem nodup_put {ks : List D} {d : D} (h : (ks.map kyF).Nodup ∧ ks.all isF = true) (hF : isF d = true) : ((putKs ks d).map kyF).Nodup ∧ (putKs ks d).all isF = true := by
  unfold putKs
  cases q : ixk ks d with
  | some i => exact h
  | none =>
    refine ⟨?_, by rw [List.all_append, h.2]; simp [hF]⟩
    rw [List.map_append, List.nodup_append]
    refine ⟨h.1, by simp, fun a ha b hb z => ?_⟩
    rw [List.map_cons, List.map_nil, List.mem_singleton] at hb
    rw [z, hb] at ha
    exact ixk_none hF h.2 q ha
theorem dcAt_nil {p : Addr} (h : H p = some (.dK [])) : DcAt K H p [] [] [] := .inl ⟨[], h, rfl, rfl, rfl⟩
theorem dcAt_some {p : Addr} {ks : List D} {kr vs : List V} (h : DcAt K H p ks kr vs) : ∃ o, H p = some o := lv_some (dc_lv h)
end
section
variable {Z : Rc} {W : WX} {G G' H H' G1 G2 H1 H2 : Hp} {pn : Pin} {σ σ1 σ2 : L2.St} {ε ε1 ε2 : En} {A A1 A2 A' : List Addr} {pl : Bool}
theorem dc_sound {p : Pt} {t : En → R Bool} {kk e : En → R D} {tt : TT} {tk te : TE} {own : List Nat} {items : List D} {J : L2.It} {Q : VK}
    (ht : ∀ {σ : L2.St} {ε : En} {G H : Hp} {A : List Addr} {Q : Bool → Hp → Prop}, Ok Z.K (pn.fzd pl) σ ε G H A → Post Z W0 (pn.fzd pl) σ ε G H A IdP Q (t ε) → tt σ H Q)
    (hk : ∀ {σ : L2.St} {ε : En} {G H : Hp} {A : List Addr} {Q : VK}, Ok Z.K (pn.fzd pl) σ ε G H A → Post Z W0 (pn.fzd pl) σ ε G H A (VP Z.K) Q (kk ε) → tk σ H Q)
    (he : ∀ {σ : L2.St} {ε : En} {G H : Hp} {A : List Addr} {Q : VK}, Ok Z.K (pn.fzd pl) σ ε G H A → Post Z W0 (pn.fzd pl) σ ε G H A (VP Z.K) Q (e ε) → te σ H Q)
    (o : Ok Z.K pn σ ε G H A) (wk : Wk Z.K pl items J G H) (cl : Clear ε own) (hr0 : ∀ j ∈ own, pn.io.rep j = true) (hp : ∀ j ∈ p.js, j ∈ own) {ys : List D × List D} {εn : En} (hr : dcRun (pn.fzd pl).io p t kk e own items (wipeE ε own) [] [] = .ok ys εn)
    (k : ∀ Da G' H' A' kr vs, Aft Z.K pn σ ε G H A σ (backE ε εn own) G' H' A' → H Da = none → DcAt Z.K H' Da ys.1 kr vs → Rps Z.K G' ys.1 kr → Rps Z.K G' ys.2 vs → G' Da = none → Da ∉ A' → Q (.ref Da) H') :
    ∀ D, H D = none → ∃ W : Nat → Nat → Hp → Prop, (∃ m, W 0 m (upd H D (.dK []))) ∧ ∀ i m H, W i m H →
      (J.stop i H ∧ Q (.ref D) H) ∨ (J.go i H ∧ ∃ Nx : Hp → Prop, (∀ H', Nx H' → ∃ m', m' < m ∧ W (i + 1) m' H') ∧ ∀ x H', J.yld i H x H' → p.rd Z.K.K x (wipe σ own) H' fun σ2 H2 => wipe σ2 own = wipe σ own ∧ tt σ2 H2 fun b H3 =>
        if b = true then tk σ2 H3 fun y H4 => te σ2 H4 fun z H5 => DSto Z.K H5 (.ref D) y z Nx else Nx H3) := by
  intro Da hD
  obtain ⟨Gw, Y, wlk, hgw, hy⟩ := wk
  have gD : G Da = none := none_of_ex o.ex hD
  obtain ⟨A0, o00, s0⟩ := o.wipe own hr0
  have ow0 : Ok Z.K (pn.fzd pl) (wipe σ own) (wipeE ε own) G H A0 := o00.fzd
  have nD : Da ∉ A0 := fun w => (ow0.lv _ w).1 hD
  have neD : ∀ (x : Addr) (u : HO), H x = some u → x ≠ Da := fun x u e z => by rw [z, hD] at e; cases e
  refine it_gen wlk (B := fun Nx x H' => p.rd Z.K.K x (wipe σ own) H' fun σ2 H2 => wipe σ2 own = wipe σ own ∧ tt σ2 H2 fun b H3 => if b = true then tk σ2 H3 fun y H4 => te σ2 H4 fun z H5 => DSto Z.K H5 (.ref Da) y z Nx else Nx H3) (fun i Hi => ∃ (εi : En) (Gi : Hp) (ks ds : List D) (kr vs : List V) (Ai : List Addr), Aft Z.K (pn.fzd pl) (wipe σ own) (wipeE ε own) G H A0 (wipe σ own) εi Gi Hi Ai ∧ Da ∉ Ai ∧ DcAt Z.K Hi Da ks kr vs ∧ Gi Da = none ∧ Rps Z.K Gi ks kr ∧ Rps Z.K Gi ds vs ∧
      dcRun (pn.fzd pl).io p t kk e own (items.drop i) εi ks ds = .ok ys εn) ?_ ?_ ?_ ?_
  · exact ⟨wipeE ε own, G, [], [], [], [], A0, ⟨ow0.upd gD nD, Ex.refl G, fun a u _ e => by rw [upd_ne (neD a u e)]; exact e, fun _ _ g _ => g, fun _ w => .inl w, fun _ a u e => by rw [upd_ne (neD a u e)]; exact e⟩, nD, dcAt_nil upd_same, gD, rfl, rfl, hr⟩
  · rintro i Hi _ ⟨εi, Gi, ks, ds, kr, vs, Ai, a, h0, h1, h2, h3, h3', h4⟩
    exact hgw _ (a.g.trans a.ok.ex) fun z => a.z (by show (pn.fz || pl) = true; rw [z, Bool.or_true])
  · rintro i x Hi Hi' hi ⟨εi, Gi, ks, ds, kr, vs, Ai, a, h0, h1, h2, h3, h3', h4⟩ y
    obtain ⟨d, hd⟩ : ∃ d, items[i]? = some d := ⟨items[i], List.getElem?_eq_getElem hi⟩
    obtain ⟨Gc, pu, rx⟩ := hy i d Hi x Hi' hd y Gi a.g a.ok.ex
    have hD2 : DcAt Z.K Hi' Da ks kr vs := h1.at fun o q => pu.h _ _ q
    have gD2 : Gc Da = none := pu.f _ h2 (dc_lv h1).1
    have a2 := a.trans (Aft.pu a.ok pu)
    rw [List.drop_eq_getElem_cons (by exact hi), show items[i] = d by rw [List.getElem?_eq_getElem hi] at hd; exact Option.some.inj hd] at h4
    unfold dcRun at h4
    obtain ⟨⟨⟩, ε1, e1, h4⟩ := bind_ok h4
    obtain ⟨b, ε2, e2, h4⟩ := bind_ok h4
    have e2 := noEr_ok e2
    refine Pt.sound a2.ok e1 rx fun σ2 A3 o3 w3 q3 => ?_
    have q4 : wipe σ2 own = wipe σ own := by rw [q3 own hp, wipe_wipe]
    have a2' : Aft Z.K (pn.fzd pl) (wipe σ own) (wipeE ε own) G H A0 σ2 ε1 Gc Hi' A3 := a2.trans (Aft.sub a2.ok o3 w3)
    have nD3 : Da ∉ A3 := fun w => h0 (w3 _ w)
    refine ⟨q4, ht o3 ?_⟩
    rw [e2]
    rintro b' G3 H3 A4 a3 rfl
    have stp : ∀ {σ' : L2.St} {εa εb : En} {Ga Gb Ha Hb : Hp} {Aa Ab : List Addr}, Aft Z.K (pn.fzd pl) σ' εa Ga Ha Aa σ' εb Gb Hb Ab → Da ∉ Aa → DcAt Z.K Ha Da ks kr vs → Ga Da = none → DcAt Z.K Hb Da ks kr vs ∧ Gb Da = none ∧ Da ∉ Ab := fun {σ' εa εb Ga Gb Ha Hb Aa Ab} q n h g => by
      refine ⟨h.at fun o w => q.h _ _ n w, q.f _ n g (dc_lv h), fun w => ?_⟩
      rcases q.w _ w with z | z
      · exact n z
      · exact (dc_lv h).1 z
    obtain ⟨hD3, gD3, nD4⟩ := stp a3 nD3 hD2 gD2
    have a23 := a2'.trans a3
    cases b with
    | false =>
      show ∃ (εi : En) (Gi : Hp) (ks ds : List D) (kr vs : List V) (Ai : List Addr), _
      rw [if_neg Bool.false_ne_true] at h4
      obtain ⟨A5, o5, s5⟩ := a3.ok.wipe own hr0
      rw [q4] at o5
      exact ⟨wipeE ε2 own, G3, ks, ds, kr, vs, A5, a23.trans (Aft.sub a3.ok o5 s5), fun w => nD4 (s5 _ w), hD3, gD3, Rps.mono (pu.g.trans a3.g) _ _ h3, Rps.mono (pu.g.trans a3.g) _ _ h3', h4⟩
    | true =>
      show tk σ2 H3 _
      rw [if_pos rfl] at h4
      obtain ⟨y', ε3, e3, h4⟩ := bind_ok h4
      have e3 := noEr_ok e3
      obtain ⟨z', ε4, e4, h4⟩ := bind_ok h4
      have e4 := noEr_ok e4
      refine hk a3.ok ?_
      rw [e3]
      intro y G4 H4 A5 a4 ry
      obtain ⟨hD4, gD4, nD5⟩ := stp a4 nD4 hD3 gD3
      refine he a4.ok ?_
      rw [e4]
      intro z G5 H5 A6 a5 rz
      obtain ⟨hD5, gD5, nD6⟩ := stp a5 nD5 hD4 gD4
      have a25 := (a23.trans a4).trans a5
      have ge := ((pu.g.trans a3.g).trans a4.g).trans a5.g
      split at h4
      · rename_i hz
        have r1 := Rps.mono ge _ _ h3
        have r2 := Rps.mono ge _ _ h3'
        have r3 := Rp.mono a5.g _ _ ry
        refine ⟨Da, ks, kr, vs, y', rfl, hD5, Rps.mono a5.ok.ex _ _ r1, Rp.mono a5.ok.ex _ _ r3, hz.2, Nat.lt_of_lt_of_le hz.1 (by decide), fun ob hu => ?_⟩
        obtain ⟨A7, o7, s7⟩ := a5.ok.wipe own hr0
        rw [q4] at o7
        have nD7 : Da ∉ A7 := fun w => nD6 (s7 _ w)
        have a7 := a25.trans (Aft.sub a5.ok o7 s7)
        exact ⟨wipeE ε4 own, G5, putKs ks y', putV ks y' ds z', putR ks y' kr y, putV ks y' vs z, A7, ⟨o7.upd gD5 nD7, a7.g, fun x u n e => by rw [upd_ne (neD x u e)]; exact a7.h x u n e, a7.f, a7.w, fun z x u e => by rw [upd_ne (neD x u e)]; exact a7.z z x u e⟩, nD7, hu, gD5,
          putKs_rps r1 r3, putV_rps r2 rz, h4⟩
      · cases h4
  · rintro Hn ⟨εi, Gi, ks, ds, kr, vs, Ai, a, h0, h1, h2, h3, h3', h4⟩
    rw [List.drop_length] at h4
    have h4 : R.ok (ks, ds) εi = R.ok ys εn := h4
    cases h4
    obtain ⟨A7, o7, s7⟩ := o.backOk a.g cl hr0 a.ok.unfz
    refine k Da Gi Hn A7 kr vs ⟨o7, a.g, fun x u n e => a.h x u (fun z => n (s0 _ z)) e, fun x n g e => a.f x (fun z => n (s0 _ z)) g e, fun x w => ?_, fun z => a.z (show (pn.fz || pl) = true by rw [z]; rfl)⟩ hD h1 h3 h3' h2 fun w => h0 (s7 _ w)
    rcases a.w x (s7 _ w) with z | z
    · exact .inl (s0 _ z)
    · exact .inr z
end
end Mq
/-! A small language over HandS, 14: what is run is told (helpers). -/
namespace Mq
open PySem L2 Evl
open SX (S S_len S_cat S_inj)
section
variable {K : Kx} {G G' H H' G1 G2 H1 H2 : Hp} {pn : Pin} {σ σ1 σ2 : L2.St} {ε ε1 ε2 : En} {A A1 A2 A' : List Addr}
theorem vD_rp {d : D} (h : flat d = true ∨ ∃ n, d = .ty n) : Rp K G d (vD d) := by
  rcases h with h | ⟨n, rfl⟩
  · cases d <;> first | (cases h; done) | exact rfl
  · exact rfl
theorem vC_rp {d : D} (h : flat d = true) : Rp K G d (vC K d) := by
  cases d <;> first | (cases h; done) | exact rfl
/-- a new object -/
theorem Aft.new (o : Ok K pn σ ε G H A) {p : Addr} {u : HO} (hp : H p = none) : Aft K pn σ ε G H A σ ε G (upd H p u) A ∧ G p = none ∧ p ∉ A := by
  have gp := none_of_ex o.ex hp
  have np : p ∉ A := fun z => (o.lv p z).1 hp
  exact ⟨⟨o.upd gp np, Ex.refl G, fun a q _ e => by rw [upd_ne (ne_of_none e hp)]; exact e, fun _ _ g _ => g, fun _ w => .inl w, fun _ a q e => by rw [upd_ne (ne_of_none e hp)]; exact e⟩, gp, np⟩
/-- a list of ours at a place -/
theorem put_ls (hd : KD K) (o : Ok K pn σ ε G H A) {rp : RP} {ds : List D} (e : getP ε rp = some (.ls ds)) : ∃ v0 p vs, σ[rp.1]? = some (some v0) ∧ AtH K H v0 rp.2 (.ref p) ∧ H p = some (.lst vs) ∧ Rps K G ds vs ∧
    (pn.fz = false → ∀ es us, Rps K G es us → ∃ A', Aft K pn σ ε G H A σ (setP ε rp (.ls es)) G (upd H p (.lst us)) A') := by
  obtain ⟨v0, u, B, h1, h2, h3, h4, h5, h6⟩ := o.put hd e ⟨(fun z => nomatch z), fun z => nomatch z⟩
  obtain ⟨p, vs, rfl, rfl, c3, c4⟩ := h3
  refine ⟨v0, p, vs, h1, h2, c3, c4, fun hf es us r => ?_⟩
  have gp := o.gn p (h4 p List.mem_cons_self)
  refine h6 G (upd H p (.lst us)) (.ls es) [p] (Ex.refl G) (fun a x q => ?_) (fun a x n q => ?_) (fun _ _ g _ => g) ⟨p, us, rfl, rfl, upd_same, r⟩ (fun a ha => .inl ha) h5 (fun a ha => o.gn a (h4 a ha)) (fun z => by rw [hf] at z; cases z) (.inl rfl)
  · have z : a ≠ p := fun y => by rw [y, gp] at q; cases q
    rw [upd_ne z]; exact o.ex a x q
  · rw [upd_ne fun y => n (by rw [y]; exact List.mem_cons_self)]; exact q
theorem put_dk (hd : KD K) (o : Ok K pn σ ε G H A) {rp : RP} {ks ds : List D} (e : getP ε rp = some (.dk ks ds)) : ∃ v0 p kr vs, σ[rp.1]? = some (some v0) ∧ AtH K H v0 rp.2 (.ref p) ∧ DcAt K H p ks kr vs ∧ Rps K G ks kr ∧ Rps K G ds vs ∧
    (pn.fz = false → ∀ x ks' ds' kr' vs', DcAt K (upd H p x) p ks' kr' vs' → Rps K G ks' kr' → Rps K G ds' vs' → ∃ A', Aft K pn σ ε G H A σ (setP ε rp (.dk ks' ds')) G (upd H p x) A') := by
  obtain ⟨v0, u, B, h1, h2, h3, h4, h5, h6⟩ := o.put hd e ⟨(fun z => nomatch z), fun z => nomatch z⟩
  obtain ⟨p, kr, vs, rfl, rfl, c3, c4, c5⟩ := h3
  refine ⟨v0, p, kr, vs, h1, h2, c3, c4, c5, fun hf y ks' ds' kr' vs' r1 r2 r3 => ?_⟩
  have gp := o.gn p (h4 p List.mem_cons_self)
  refine h6 G (upd H p y) (.dk ks' ds') [p] (Ex.refl G) (fun a x q => ?_) (fun a x n q => ?_) (fun _ _ g _ => g) ⟨p, kr', vs', rfl, rfl, r1, r2, r3⟩ (fun a ha => .inl ha) h5 (fun a ha => o.gn a (h4 a ha)) (fun z => by rw [hf] at z; cases z) (.inl rfl)
  · have z : a ≠ p := fun y => by rw [y, gp] at q; cases q
    rw [upd_ne z]; exact o.ex a x q
  · rw [upd_ne fun y => n (by rw [y]; exact List.mem_cons_self)]; exact q
/-- a new tree stays, while more is done -/
theorem tmp_join {s : Sl} {v : V} {B T : List Addr} (a1 : Aft K pn σ ε G H A σ ε1 G1 H1 A1) (hv : HV K G1 H1 s v B) (hn : (A1 ++ B).Nodup) (hb : ∀ b ∈ B, G1 b = none ∧ (b ∈ A ∨ H b = none))
    (a2 : Aft K pn σ ε1 G1 H1 A1 σ ε2 G2 H2 A2) (hn2 : (A2 ++ T).Nodup) (hT : ∀ b ∈ T, G2 b = none ∧ (b ∈ A1 ∨ H1 b = none)) : HV K G2 H2 s v B ∧ (A2 ++ (B ++ T)).Nodup ∧ ∀ b ∈ B ++ T, G2 b = none ∧ (b ∈ A ∨ H b = none) := by
  have lvB := HV.lv _ _ _ hv
  obtain ⟨_, nB, dis⟩ := List.nodup_append.mp hn
  have nA1 : ∀ b ∈ B, b ∉ A1 := fun b hb z => dis b z b hb rfl
  obtain ⟨nA2, nT, dis2⟩ := List.nodup_append.mp hn2
  have old : ∀ b, b ∈ A1 ∨ H1 b = none → b ∉ B := fun b h z => by
    rcases h with h | h
    · exact nA1 b z h
    · exact (lvB b z).1 h
  have kB : ∀ b ∈ B, H2 b = H1 b := fun b hb => by
    obtain ⟨u, hu⟩ := lv_some (lvB b hb)
    rw [hu]
    exact a2.h b u (nA1 b hb) hu
  have old2 : ∀ b, b ∈ A1 ∨ H1 b = none → b ∈ A ∨ H b = none := fun b h => by
    rcases h with h | h
    · exact a1.w b h
    · by_cases n : b ∈ A
      · exact .inl n
      · refine .inr ?_
        cases q : H b with
        | none => rfl
        | some u => rw [a1.h b u n q] at h; cases h
  refine ⟨HV.mono a2.g _ _ _ kB hv, List.nodup_append.mpr ⟨nA2, List.nodup_append.mpr ⟨nB, nT, fun x hx y hy z => old y (hT y hy).2 (z ▸ hx)⟩, fun x hx y hy z => ?_⟩, fun b hb2 => ?_⟩
  · subst z
    rcases List.mem_append.mp hy with w | w
    · exact old x (a2.w x hx) w
    · exact dis2 x hx x w rfl
  · rcases List.mem_append.mp hb2 with w | w
    · exact ⟨a2.f b (nA1 b w) (hb b w).1 (lvB b w), (hb b w).2⟩
    · exact ⟨(hT b w).1, old2 b (hT b w).2⟩
theorem args_rqs (hd : KD K) (o : Ok K pn σ ε G H A) : ∀ (as : List Ar) {vs : List V} {T : List Addr} {ys : List D}, ArgsP K σ G H as vs T → as.mapM (Ar.vw ε) = some ys → Rqs K G H ys vs
  | [], vs, T, ys, h, e => by
    rw [List.mapM_nil] at e
    cases e
    exact h.1
  | a :: as, vs, T, ys, h, e => by
    rw [List.mapM_cons] at e
    obtain ⟨y, e1, e2⟩ := Option.bind_eq_some_iff.mp e
    obtain ⟨zs, e3, e4⟩ := Option.bind_eq_some_iff.mp e2
    cases e4
    cases a with
    | d x =>
      obtain ⟨v, us, rfl, h1, h2⟩ := h
      cases e1
      exact ⟨v, us, rfl, .inl h1, args_rqs hd o as h2 e3⟩
    | p rp =>
      obtain ⟨v, us, v0, rfl, h1, h2, h3⟩ := h
      exact ⟨v, us, rfl, vw_rq hd o (x := .p rp) ⟨v0, h1, h2⟩ e1, args_rqs hd o as h3 e3⟩
    | t s => cases e1
theorem args_cons {x : Ar} {v : V} {as : List Ar} {vs : List V} {T : List Addr} (h : ArP K σ x v G H) (h2 : ArgsP K σ G H as vs T) : ArgsP K σ G H (x :: as) (v :: vs) T := by
  cases x with
  | d x => exact ⟨v, vs, rfl, h, h2⟩
  | p rp => obtain ⟨v0, h3, h4⟩ := h; exact ⟨v, vs, v0, rfl, h3, h4, h2⟩
  | t s => exact h.elim
theorem tyD_of {x : D} {v : V} {m : Mth} (h : tyOkD m x = true) (e : Ex G H) (hx : Rq K G H x v) : tyX K m.ty v H := by
  cases x with
  | str l => cases hx.str; exact .inl (beq_iff_eq.mp h)
  | lst ds =>
    obtain ⟨p, us, rfl, p1, _⟩ := hx.lst e
    exact .inl (.inl ⟨beq_iff_eq.mp h, us, SqL.of p1⟩)
  | tup ds =>
    obtain ⟨p, us, rfl, p1, _⟩ := hx.tup
    exact .inr (.inl ⟨beq_iff_eq.mp h, p, us, rfl, p1.mono e⟩)
  | dct ks ds =>
    obtain ⟨p, kr, us, rfl, p1, _⟩ := hx.dct e
    exact .inr (.inr ⟨beq_iff_eq.mp h, p, _, kr, us, rfl, p1⟩)
  | non => cases h
  | bl _ => cases h
  | int _ => cases h
  | ty _ => cases h
  | fn _ => cases h
  | fls _ => cases h
/-! ### what gives a new list -/
abbrev NewL (K : Kx) (G H : Hp) (ds : List D) (Q : VK) : Prop := ∀ p us, H p = none → Rps K G ds us → Q (.ref p) (upd H p (.lst us))
theorem cat_new {x y : D} {ds : List D} {a b : V} {Q : VK} (h : addD x y = some (.lst ds)) (e : Ex G H) (hx : Rq K G H x a) (hy : Rq K G H y b) (k : NewL K G H ds Q) : Op2.add.rd K a b H Q := by
  unfold addD at h
  split at h
  · cases h
  · split at h
    · cases h
    · cases h
  · split at h
    · rename_i hz
      cases Option.some.inj h
      obtain ⟨p, vs, rfl, p1, p2⟩ := hx.lst e
      obtain ⟨q, us, rfl, q1, q2⟩ := hy.lst e
      exact .inr (.inr (.inl ⟨p, q, vs, us, rfl, rfl, p1, q1, by rw [Rps.length _ _ p2, Rps.length _ _ q2]; exact sz_line hz, fun r hr => k r _ hr (Rps.append _ _ _ _ p2 q2)⟩))
    · cases h
  · split at h
    · cases h
    · cases h
  · cases h
theorem slc_new {x : D} {ds : List D} {v : V} {lo hi : Option Int} {Q : VK} (h : sliceD x lo hi = some (.lst ds)) (e : Ex G H) (hx : Rq K G H x v) (k : NewL K G H ds Q) : rSl K v lo hi H Q := by
  have cut : ∀ (ds : List D) (vs : List V), Rps K G ds vs → Rps K G (cutL ds lo hi) (cutV vs lo hi) := fun ds vs r => by
    unfold cutL cutV
    rw [Rps.length ds vs r]
    exact Rps.take _ _ _ (Rps.drop _ _ _ r)
  unfold sliceD at h
  split at h
  · split at h
    · cases h
    · cases h
  · cases Option.some.inj h
    obtain ⟨p, us, rfl, p1, p2⟩ := hx.lst e
    exact .inr (.inl ⟨p, us, rfl, SqL.of p1, fun q hq => k q _ hq (cut _ _ p2)⟩)
  · cases Option.some.inj h
    obtain ⟨p, us, rfl, p1, p2⟩ := hx.fls
    exact .inr (.inl ⟨p, us, rfl, ex_l e p1, fun q hq => k q _ hq (cut _ _ p2)⟩)
  · cases h
  · cases h
theorem map_lst {α : Type} {o : Option α} {f : α → D} {ds : List D} (hf : ∀ x, f x ≠ .lst ds) (h : o.map f = some (.lst ds)) : False := by
  cases o with
  | none => cases h
  | some x => exact hf x (Option.some.inj h)
theorem sortD_lst {x : D} {d : D} (h : sortD x = some d) : ∃ ds, d = .lst ds := by
  unfold sortD at h
  split at h
  · split at h
    · exact ⟨_, (Option.some.inj h).symm⟩
    · cases h
  · split at h
    · exact ⟨_, (Option.some.inj h).symm⟩
    · split at h
      · split at h
        · exact ⟨_, (Option.some.inj h).symm⟩
        · cases h
      · cases h
theorem bif_lst {b : Bif} {xs ds : List D} (h : b.run xs = some (.lst ds)) : (b = .list ∨ b = .sorted) ∧ ∃ x, xs = [x] := by
  unfold Bif.run at h
  split at h <;> first
    | exact ⟨.inr rfl, _, rfl⟩
    | exact ⟨.inl rfl, _, rfl⟩
    | (obtain ⟨a, _, h⟩ := Option.map_eq_some_iff.mp h; cases h; done)
    | (split at h <;> first | (cases h; done) | (split at h <;> cases h))
    | (unfold i2 at h; split at h <;> cases h)
    | (obtain ⟨a, _, h⟩ := Option.bind_eq_some_iff.mp h; obtain ⟨b, _, h⟩ := Option.map_eq_some_iff.mp h; cases h; done)
    | cases h
theorem sort_new {x : D} {ds : List D} {v : V} {Q : VK} (h : sortD x = some (.lst ds)) (e : Ex G H) (h1 : Rq K G H x v) (k : NewL K G H ds Q) : Bif.sorted.rd K [v] H Q := by
  unfold sortD at h
  cases q : txtsD x with
  | none =>
    rw [q] at h
    dsimp only at h
    cases q2 : intsD x with
    | some ns =>
      rw [q2] at h
      cases Option.some.inj h
      obtain ⟨p, rfl, p1⟩ := ints_at e q2 h1
      refine .inr (.inr (.inl ⟨p, ns, rfl, p1, fun ns' l z1 z2 hl => ?_⟩))
      rw [srtI_of z1 z2]
      exact k l _ hl (rps_ints _)
    | none =>
      rw [q2] at h
      cases x with
      | lst ls =>
        dsimp only at h
        split at h
        · rename_i hk
          cases Option.some.inj h
          obtain ⟨p, us, rfl, p1, p2⟩ := h1.lst e
          exact .inr (.inr (.inr (tupsOk_of hk e p2 (SqL.of p1) fun l hl => k l _ hl (sk_sorted rfl p2))))
        · cases h
      | _ => cases h
  | some ls =>
    rw [q] at h
    have h : (if ls.length < 64 then some (D.lst ((srtL ls).map .str)) else none) = some (.lst ds) := h
    split at h
    · rename_i hz
      cases Option.some.inj h
      have fin : ∀ (ys : List Str) (l : Addr), ys.Perm (ls.map S) → PyProof.Rows.sortedS ys = true → H l = none → Q (.ref l) (upd H l (.lst (ys.map V.str))) := fun ys l z1 z2 hl => by
        rw [srtL_of z1 z2]
        exact k l _ hl (rps_strs _)
      cases x <;> first | (cases q; done) | skip
      · obtain ⟨p, us, rfl, p1, p2⟩ := h1.lst e
        rw [strs_rp _ _ _ q p2] at p1
        exact .inl ⟨p, _, rfl, SqL.of p1, by rw [List.length_map]; exact hz, fin⟩
      · obtain ⟨p, us, rfl, p1, p2⟩ := h1.fls
        rw [strs_rp _ _ _ q p2] at p1
        exact .inl ⟨p, _, rfl, ex_l e p1, by rw [List.length_map]; exact hz, fin⟩
      · obtain ⟨p, kr, us, rfl, p1, p2, p3⟩ := h1.dct e
        have q : strsD _ = some ls := q
        obtain ⟨kv, d1, d2, d3, d4⟩ := dictV p1 (strs_F q)
        exact .inr (.inl ⟨p, kv, _, rfl, d1, keys_S q d2, by rw [List.length_map]; exact hz, fin⟩)
    · cases h
theorem bif_new {b : Bif} {xs : List D} {ds : List D} {vs : List V} {Q : VK} (h : b.run xs = some (.lst ds)) (e : Ex G H) (hx : Rqs K G H xs vs) (k : NewL K G H ds Q) : b.rd K vs H Q := by
  obtain ⟨hb, x, rfl⟩ := bif_lst h
  obtain ⟨v, _, rfl, h1, rfl⟩ := hx
  rcases hb with rfl | rfl
  rotate_left
  · exact sort_new h e h1 k
  cases x with
  | lst ds =>
    cases Option.some.inj h
    obtain ⟨p, us, rfl, p1, p2⟩ := h1.lst e
    exact .inl ⟨p, us, rfl, .inl (SqL.of p1), fun l hl => k l us hl p2⟩
  | tup ds =>
    cases Option.some.inj h
    obtain ⟨p, us, rfl, p1, p2⟩ := h1.tup
    exact .inl ⟨p, us, rfl, .inr (p1.mono e).sq, fun l hl => k l us hl p2⟩
  | fls ds =>
    cases Option.some.inj h
    obtain ⟨p, us, rfl, p1, p2⟩ := h1.fls
    exact .inl ⟨p, us, rfl, .inl (ex_l e p1), fun l hl => k l us hl p2⟩
  | dct ks es =>
    have h : (if ks.all isF = true then some (D.lst ks) else none) = some (.lst ds) := h
    split at h
    · rename_i hF
      cases Option.some.inj h
      obtain ⟨p, kr, us, rfl, p1, p2, p3⟩ := h1.dct e
      obtain ⟨kv, d1, d2, d3, d4⟩ := dictV p1 hF
      refine .inr ⟨p, kv, rfl, d1, fun l hl => k l _ hl ?_⟩
      rw [← d3]
      exact p2
    · cases h
  | int _ => cases h
  | bl _ => cases h
  | str _ => cases h
  | non => cases h
  | ty _ => cases h
  | fn _ => cases h
/-! ### dict displays -/
def PsP (K : Kx) : List (D × D) → List (V × V) → Hp → Hp → Prop := fun kvs ps G _ => ps.length = kvs.length ∧ ∀ (i : Nat) (q : D × D), kvs[i]? = some q → isF q.1 = true ∧ ∃ v, ps[i]? = some (vD q.1, v) ∧ Rp K G q.2 v
/-- a dict with these keys and values -/
def DkR (K : Kx) (G : Hp) (ks ds : List D) (kv : List (Key × V)) : Prop := (kv.map (·.1)).Nodup ∧ ks.map kyF = kv.map (fun q => some q.1) ∧ Rps K G ks (kv.map fun q => kV q.1) ∧ Rps K G ds (kv.map (·.2))
theorem putK_nodup {kv : List (Key × V)} {k : Key} {v : V} (h : (kv.map (·.1)).Nodup) : ((putK kv k v).map (·.1)).Nodup := by
  unfold putK
  split
  · rw [List.map_map]
    have e : ((fun q : Key × V => q.1) ∘ fun kv : Key × V => if kv.1 = k then (kv.1, v) else kv) = fun q => q.1 := by
      funext q
      show (if q.1 = k then (q.1, v) else q).1 = q.1
      split <;> rfl
    rw [e]
    exact h
  · rename_i hn
    rw [List.map_append, List.nodup_append]
    refine ⟨h, by simp, fun x hx y hy z => ?_⟩
    subst z
    have hy : x = k := by simpa using hy
    subst hy
    obtain ⟨q, hq, e⟩ := List.mem_map.mp hx
    exact hn (List.any_eq_true.mpr ⟨q, hq, decide_eq_true e⟩)
theorem DkR.put {ks ds : List D} {kv : List (Key × V)} {d x : D} {k : Key} {v : V} (h : DkR K G ks ds kv) (hk : kyF d = some k) (r : Rp K G x v) : DkR K G (putKs ks d) (putV ks d ds x) (putK kv k v) := by
  obtain ⟨h1, h2, h3, h4⟩ := h
  obtain ⟨a, b, c⟩ := putK_ixk (v := v) h1 h2 hk
  have rk : Rp K G d (kV k) := by
    cases d <;> first | (cases hk; done) | (cases hk; exact rfl)
  refine ⟨putK_nodup h1, b.symm, ?_, ?_⟩
  · rw [c]; exact putKs_rps h3 rk
  · rw [a]; exact putV_rps h4 r
theorem DkR.at (h : DkR K G ks ds kv) {p : Addr} (e : H p = some (.dK kv)) : DcAt K H p ks (kv.map fun q => kV q.1) (kv.map (·.2)) := .inl ⟨kv, e, h.2.1, rfl, rfl⟩
abbrev dkFold (a : Sl) (p : D × D) : Sl := match a with | .dk ks ds => .dk (putKs ks p.1) (putV ks p.1 ds p.2) | a => a
theorem DkR.fold : ∀ (kvs : List (D × D)) (ps : List (V × V)) (ks ds : List D) (kv : List (Key × V)), DkR K G ks ds kv → PsP K kvs ps G H → ∃ kw : List (Key × V), ps = kw.map (fun q => (kV q.1, q.2)) ∧ ∃ ks' ds', kvs.foldl dkFold (.dk ks ds) = .dk ks' ds' ∧ DkR K G ks' ds' (mergeK kv kw)
  | [], ps, ks, ds, kv, h, hp => by
    have e : ps = [] := List.eq_nil_of_length_eq_zero hp.1
    subst e
    exact ⟨[], rfl, ks, ds, rfl, h⟩
  | q :: kvs, ps, ks, ds, kv, h, hp => by
    cases ps with
    | nil => cases hp.1
    | cons w ps =>
      obtain ⟨f, v, e1, r⟩ := hp.2 0 q rfl
      cases e1
      obtain ⟨k, hk⟩ := isF_ky f
      obtain ⟨kw, e2, ks', ds', e3, e4⟩ := DkR.fold kvs ps _ _ _ (h.put hk r) ⟨by simpa using hp.1, fun i q hi => hp.2 (i + 1) q hi⟩
      refine ⟨(k, v) :: kw, ?_, ks', ds', e3, e4⟩
      rw [e2, List.map_cons]
      congr 1
      have : vD q.1 = kV k := by
        obtain ⟨q1, q2⟩ := q
        cases q1 <;> first | (cases hk; done) | (cases hk; rfl)
      rw [this]
end
/-! ### places are read -/
section
variable {Z : Rc} {W : WX} {G G' H H' G1 G2 H1 H2 : Hp} {pn : Pin} {σ σ1 σ2 : L2.St} {ε ε1 ε2 : En} {A A1 A2 A' : List Addr} {c : Cn}
theorem at_nat {vs : List V} {n : Int} {w : V} (h0 : 0 ≤ n) (e : vs[n.toNat]? = some w) : atI vs n = some w := by
  have hl := (List.getElem?_eq_some_iff.mp e).1
  unfold atI ixN
  rw [if_pos h0]
  split
  · exact e
  · omega
theorem sa_read (hz : Z.Fine c pn) (o : Ok Z.K pn σ ε G H A) : ∀ (ss : List Sa) {te : TE} {v u : V} {sp : List Stp} {Q : VK}, (∀ Q : VK, Q v H → te σ H Q) → Pa.steps ε ss = some sp → AtH Z.K H v sp u → Q u H → saRd Z.K te ss σ H Q
  | [], te, v, u, sp, Q, ht, e, ha, q => by
    cases e
    cases (show u = v from ha)
    exact ht _ q
  | .f n :: r, te, v, u, sp, Q, ht, e, ha, q => by
    obtain ⟨sp', e1, e2⟩ := Option.map_eq_some_iff.mp (show (Pa.steps ε r).map (Stp.f n :: ·) = some sp from e)
    subst e2
    obtain ⟨a, cl, dx, fs, w, rfl, h2, h0, h3, h4⟩ := ha
    obtain ⟨c1, c2⟩ := hz.cf cl n h0
    exact sa_read hz o r (te := tFld Z.K.K te (Z.K.fl n)) (fun Q q => ht _ ⟨a, _, dx, fs, w, rfl, h2, c1, c2, h3, q⟩) e1 h4 q
  | .vi j :: r, te, v, u, sp, Q, ht, e, ha, q => by
    unfold Pa.steps at e
    split at e
    · rename_i n ej
      split at e
      · rename_i h0
        obtain ⟨sp', e1, e2⟩ := Option.map_eq_some_iff.mp e
        subst e2
        obtain ⟨a, vs, w, rfl, h2, h3, h4⟩ := ha
        obtain ⟨vj, s1, s2⟩ := o.da ej
        cases s2
        exact sa_read hz o r (te := tOp (Op2.idx.rd Z.K) te (tVar j)) (fun Q q => ht _ ⟨_, s1, .inl (.inl ⟨a, vs, n, w, rfl, rfl, SqL.of h2, at_nat h0 h3, q⟩)⟩) e1 h4 q
      · cases e
    · cases e
theorem res_fst {P : Pa} {rp : RP} (e : P.res ε = some rp) : rp.1 = P.i ∧ Pa.steps ε P.ss = some rp.2 := by
  obtain ⟨sp, e1, e2⟩ := Option.map_eq_some_iff.mp (show (Pa.steps ε P.ss).map _ = some rp from e)
  subst e2
  exact ⟨rfl, e1⟩
theorem pa_read (hz : Z.Fine c pn) (o : Ok Z.K pn σ ε G H A) {P : Pa} {rp : RP} (e : P.res ε = some rp) {v0 u : V} (h1 : σ[rp.1]? = some (some v0)) (h2 : AtH Z.K H v0 rp.2 u) {Q : VK} (q : Q u H) : P.rd Z.K σ H Q := by
  obtain ⟨e1, e2⟩ := res_fst e
  exact sa_read hz o P.ss (te := tVar P.i) (fun Q q => ⟨v0, e1 ▸ h1, q⟩) e2 h2 q
/-- an operand that is a place, or what stands there -/
theorem odP_sound (hz : Z.Fine c pn) (o : Ok Z.K pn σ ε G H A) {P : Pa} {Q : VK} (h : Post Z W pn σ ε G H A (ArP Z.K σ) Q (odP P ε)) : P.rd Z.K σ H Q := by
  unfold odP at h
  cases e : P.res ε with
  | none => rw [e] at h; exact h.elim
  | some rp =>
    rw [e] at h
    dsimp only at h
    cases e2 : getP ε rp with
    | none => rw [e2] at h; exact h.elim
    | some s =>
      rw [e2] at h
      dsimp only at h
      have ow : isOwS s = true → Post Z W pn σ ε G H A (ArP Z.K σ) Q (.ok (.p rp) ε) → P.rd Z.K σ H Q := fun hs h => by
        obtain ⟨v0, u, B, R, f1, f2, f3, _⟩ := o.focus hz.kd e2 (isOw_ne hs)
        exact pa_read hz o e f1 f2 (h u G H A (Aft.refl o) ⟨v0, f1, f2⟩)
      cases s with
      | da d =>
        obtain ⟨v0, u, B, R, f1, f2, f3, _⟩ := o.focus hz.kd e2 ⟨(fun z => nomatch z), fun z => nomatch z⟩
        exact pa_read hz o e f1 f2 (h u G H A (Aft.refl o) f3.2)
      | no => exact h.elim
      | ex => exact h.elim
      | ls _ => exact ow rfl h
      | dk _ _ => exact ow rfl h
      | ob _ _ _ => exact ow rfl h
      | lo _ => exact ow rfl h
      | dl _ _ => exact ow rfl h
theorem APost.bdS {α' : Type} {Ω : En → Hp → Hp → List Addr → R α' → Prop} {r : R (List Ar)} {Q0 : List V → Hp → Prop} (w : Outer Z W pn σ Ω) (a1 : Aft Z.K pn σ ε G H A σ ε1 G1 H1 A1) {f : List Ar → En → R α'} (h : Ω ε G H A (r.bind f))
    (k : ∀ as ε2 vs G2 H2 A2 T, Aft Z.K pn σ ε1 G1 H1 A1 σ ε2 G2 H2 A2 → ArgsP Z.K σ G2 H2 as vs T → (A2 ++ T).Nodup → (∀ b ∈ T, G2 b = none ∧ (b ∈ A1 ∨ H1 b = none)) → Ω ε G H A (f as ε2) → Q0 vs H2) : APost Z W pn σ ε1 G1 H1 A1 Q0 r := by
  cases r with
  | no => exact w.no h
  | ok a ε2 => exact fun v G2 H2 A2 B z p n m => k a ε2 v G2 H2 A2 B z p n m h
  | er x ε2 => exact fun cls d G' H' A' z p => w.er (w.sh a1 h) cls d G' H' A' z p
theorem Post.bdS {α α' β : Type} {P : α → β → Hp → Hp → Prop} {Q : β → Hp → Prop} {Ω : En → Hp → Hp → List Addr → R α' → Prop} {r : R α} (w : Outer Z W pn σ Ω) (a1 : Aft Z.K pn σ ε G H A σ ε1 G1 H1 A1) {f : α → En → R α'} (h : Ω ε G H A (r.bind f))
    (k : ∀ a ε2 b G2 H2 A2, Aft Z.K pn σ ε1 G1 H1 A1 σ ε2 G2 H2 A2 → P a b G2 H2 → Ω ε G H A (f a ε2) → Q b H2) : Post Z W pn σ ε1 G1 H1 A1 P Q r := by
  cases r with
  | no => exact w.no h
  | ok a ε2 => exact fun b G2 H2 A2 z p => k a ε2 b G2 H2 A2 z p h
  | er x ε2 => exact fun cls d G' H' A' z p => w.er (w.sh a1 h) cls d G' H' A' z p
/-- a new object, ours -/
theorem FPost.new {Q : VK} {s : Sl} {ε1 : En} (o : Ok Z.K pn σ ε1 G1 H1 A1) (h : FPost Z W pn σ ε1 G1 H1 A1 Q (.ok s ε1)) {p : Addr} {u : HO} (hp : H1 p = none) (hv : HV Z.K G1 (upd H1 p u) s (.ref p) [p]) (hs : isOwS s = true) : Q (.ref p) (upd H1 p u) := by
  obtain ⟨a, gp, np⟩ := Aft.new o (u := u) hp
  refine h (.ref p) G1 (upd H1 p u) A1 [p] a hv hs (List.nodup_append.mpr ⟨o.nd, by simp, fun x hx y hy z => ?_⟩) fun b hb => ?_
  · rw [List.mem_singleton.mp hy] at z
    exact np (z ▸ hx)
  · rw [List.mem_singleton.mp hb]
    exact ⟨gp, .inr hp⟩
/-- no field is named as a method -/
theorem mf_none (hz : Z.Fine c pn) {cl m f : Nat} (hm : Z.mt cl m = some f) : ∀ {fn : List Nat} {fs : List (Str × V)}, fs.map (·.1) = fn.map Z.K.fl → (∀ n ∈ fn, Z.K.hf cl n = true) → fs.lookup (Z.mn m) = none
  | [], [], _, _ => rfl
  | [], _ :: _, h, _ => by cases h
  | _ :: _, [], h, _ => by cases h
  | n :: fn, q :: fs, h, hf => by
    rw [List.map_cons, List.map_cons] at h
    injection h with h1 h2
    have nb : (Z.mn m == q.1) = false := beq_eq_false_iff_ne.mpr fun y => hz.mf cl m f n hm (hf n List.mem_cons_self) (h1.symm.trans y.symm)
    obtain ⟨q1, q2⟩ := q
    simp only [List.lookup, nb]
    exact mf_none hz hm h2 fun k hk => hf k (List.mem_cons_of_mem _ hk)
/-- the error at hand -/
theorem Ok.err (hz : Z.Fine c pn) (o : Ok Z.K pn σ ε G H A) {x : Er} {i : Nat} (hx : c.ex = some x) (e : ε[i]? = some .ex) : σ[i]? = some (some (.ref Z.xa)) ∧ Z.xr x Z.xc Z.xd H := by
  obtain ⟨h1, ns, h2, h3, h4, h5, h6, h7⟩ := hz.x1 x hx
  obtain ⟨_, a, ha, hs⟩ := o.px i e
  rw [h1] at ha
  cases ha
  refine ⟨hs, ns, h2, h3, h4, h5, h6, fun hn => ?_⟩
  obtain ⟨dd, e1, e2⟩ := h7 hn
  exact ⟨dd, e1, o.ex dd _ (o.g0 dd _ e2)⟩
theorem lookup_mem {k : Str} {v : V} : ∀ {l : List (Str × V)}, (l.map (·.1)).Nodup → (k, v) ∈ l → l.lookup k = some v
  | [], _, h => by cases h
  | q :: l, hn, h => by
    obtain ⟨n1, n2⟩ := List.nodup_cons.mp hn
    obtain ⟨q1, q2⟩ := q
    rcases List.mem_cons.mp h with e | h
    · cases e
      simp [List.lookup]
    · have ne : (k == q1) = false := beq_eq_false_iff_ne.mpr fun y => n1 (List.mem_map.mpr ⟨(k, v), h, y⟩)
      simp only [List.lookup, ne]
      exact lookup_mem n2 h
theorem clsA_run (Z : Rc) : ∀ (ys : List Nat) {σ : L2.St} {H : Hp} {Q : List V → Hp → Prop}, Q (ys.map fun y => V.ref (Z.K.ca y)) H → clsA Z ys σ H Q
  | [], _, _, _, h => h
  | y :: ys, _, _, _, h => clsA_run Z ys h
theorem cls_paired (Z : Rc) : ∀ ys : List Nat, Paired ClsV (ys.map fun y => V.ref (Z.K.ca y)) (ys.map fun y => Value.ref (Z.K.ca y))
  | [] => .nil
  | y :: ys => .cons (.own _) (cls_paired Z ys)
theorem any_kit (hz : Z.Fine c pn) (x : Nat) : ∀ (ys : List Nat) {b : Bool}, subAny c x ys = some b → PySem.W.kitAny Z.K.K (.ref (Z.K.ca x)) (ys.map fun y => Value.ref (Z.K.ca y)) = some b
  | [], b, h => h
  | y :: ys, b, h => by
    unfold subAny at h
    cases q : c.sub x y with
    | none => rw [q] at h; cases h
    | some k =>
      rw [q] at h
      rw [List.map_cons]
      unfold PySem.W.kitAny
      rw [(hz.sb _ _ _ q).2]
      cases k with
      | true => exact h
      | false => exact any_kit hz x ys h
end
theorem occ_no {l : List Nat} {y : Nat} (h : l.contains y = false) : Builtin.Str.occurrences (SX.S l) (SX.S [y]) 0 (SX.S l).length ((SX.S l).length + 1) = [] := by
  rcases PySem.StrLaws.occ_head (SX.S l) (SX.S [y]) ((SX.S l).length + 1) (Nat.le_add_left _ _) with ⟨h1, _⟩ | ⟨i, r, _, h2, _⟩
  · exact h1
  · have h3 := (PySem.StrLaws.found_iff (SX.S l) (SX.S [y])).mpr ⟨i, h2.1, h2.2⟩
    have h4 := PySem.StrLaws.found_one (SX.S l) y
    rw [show (⟨#[y]⟩ : Str) = SX.S [y] from rfl, h3] at h4
    have h5 : y ∈ (SX.S l).cps.toList := of_decide_eq_true h4.symm
    have h6 : y ∈ l := by simpa [SX.S] using h5
    rw [List.contains_iff_mem.mpr h6] at h
    cases h
theorem repl_S (l : List Nat) {y z : List Nat} (hy : y ≠ []) : Txt.replace (SX.S l) (SX.S y) (SX.S z) = SX.S (PySem.StrLaws.replL y z l) := by
  refine TL.ext_tl ?_
  have hl : 1 ≤ (SX.S y).length := by
    rw [SX.S_len]
    exact List.length_pos_iff.mpr hy
  exact PySem.StrLaws.replace_list hl
end Mq
/-! A small language over HandS: sorted(x, key=f), the evaluator's side. -/
namespace Mq
open PySem L2 Evl
section
variable {Z : Rc} {c : Cn} {W : WX} {G G' H H' G1 G2 H1 H2 : Hp} {pn : Pin} {σ : L2.St} {ε ε1 : En} {A A1 A2 A' : List Addr}
theorem callD_lo (hz : Z.Fine c pn) {f : Nat} {d k : D} {s' : Sl} {v : V} {Q : VK} (a : Aft Z.K pn σ ε G H A σ ε1 G1 H1 A1) (r : Rp Z.K G1 d v) (hc : c.mkc f [.da d] = .ok (.da k) [s'])
    (q : ∀ v' G' H' A', Aft Z.K pn σ ε G H A σ ε1 G' H' A' → Rp Z.K G' k v' → Q v' H') : spC Z.lo f [v] H1 Q (fun _ _ _ => False) := by
  obtain ⟨B, hin, hout⟩ := call_frame hz.kd a (as := [.d d]) (vs := [v]) (T := []) (εh := ε1) (ss := [.da d]) ⟨v, [], rfl, r, rfl, rfl⟩ (by rw [List.append_nil]; exact a.ok.nd) (fun b hb => by cases hb) rfl (fun _ => ⟨rfl, fun b hb => by cases hb⟩) rfl
  have hc' : Z.lo.call f [.da d] = .ok (.da k) [s'] := by
    show Z.mkc f [.da d] = _
    rw [← hz.mkc, hc]
  refine ⟨hz.arm f [.da d] (fun z => by rw [← hz.mkc, hc] at z; cases z), G1, [.da d], B, hin, ?_⟩
  rw [hc']
  intro v' G' H' A' a' ro
  obtain ⟨A2, o1, o2, _⟩ := hout [s'] G' H' A' a' rfl
  exact q v' G' H' A2 o1 (o2 (.da k) v' ro)
theorem sk_run (hz : Z.Fine c pn) {f : Nat} : ∀ {ds ks : List D} {us : List V} {G1 H1 : Hp} {A1 : List Addr} {C : List V → Hp → Prop}, Ok Z.K pn σ ε1 G1 H1 A1 → keysRun c f ds = some ks → Rps Z.K G1 ds us →
    (∀ kd G' H' A', Aft Z.K pn σ ε1 G1 H1 A1 σ ε1 G' H' A' → Rps Z.K G' ks kd → C kd H') → SkRun (fun vs H Q => spC Z.lo f vs H Q fun _ _ _ => False) us H1 C
  | [], ks, us, G1, H1, A1, C, o, e, r, hC => by
    cases e
    cases (show us = [] from r)
    exact hC [] G1 H1 A1 (Aft.refl o) rfl
  | d :: ds, ks, us, G1, H1, A1, C, o, e, r, hC => by
    obtain ⟨v, us', rfl, r1, r2⟩ := r
    unfold keysRun at e
    split at e
    · rename_i k s' hc
      obtain ⟨ks', e1, e2⟩ := Option.map_eq_some_iff.mp e
      subst e2
      refine callD_lo hz (Aft.refl o) r1 hc fun v' G' H' A' a' rk => ?_
      exact sk_run hz a'.ok e1 (Rps.mono a'.g _ _ r2) fun kd G2 H2 A2 a2 rks => hC (v' :: kd) G2 H2 A2 (a'.trans a2) ⟨v', kd, rfl, Rp.mono a2.g _ _ rk, rks⟩
    · cases e
theorem keysRun_len {f : Nat} : ∀ {ds ks : List D}, keysRun c f ds = some ks → ks.length = ds.length
  | [], ks, e => by cases e; rfl
  | d :: ds, ks, e => by
    unfold keysRun at e
    split at e
    · obtain ⟨ks', e1, e2⟩ := Option.map_eq_some_iff.mp e
      subst e2
      rw [List.length_cons, List.length_cons, keysRun_len e1]
    · cases e
theorem skOk_of {K : Kx} {ds ks : List D} {us kd : List V} {G' H' : Hp} (h : skOkB ds ks = true) (hl : ks.length = ds.length) (hu : us.length = ds.length) (e : Ex G' H') (r : Rps K G' ks kd) {Dn : List V → Hp → Prop} (q : Dn (skOut us (ks.map D.py)) H') : SkEnd K.K us Dn kd H' := by
  unfold skOkB at h
  rw [Bool.and_eq_true, Bool.or_eq_true, Bool.and_eq_true] at h
  obtain ⟨h1, h2⟩ := h
  have sh : ∀ k ∈ ks, shp k = true := fun k hk => List.all_eq_true.mp h1 k hk
  have cl : ∀ l : List D, (∀ k ∈ l, shp k = true) → PyData.canLayAll0 (D.pys l) = true := by
    intro l
    induction l with
    | nil => intro _; rfl
    | cons k l ih =>
      intro h
      show (k.py.canLay0 && PyData.canLayAll0 (D.pys l)) = true
      rw [SeqAt.canLay_of_shaped (h k List.mem_cons_self), ih fun x hx => h x (List.mem_cons_of_mem _ hx)]
      rfl
  refine ⟨ks.map D.py, ?_, by rw [List.length_map, hl, hu], ?_, q⟩
  · rw [← pys_map]
    exact Rps.dp ks kd (cl ks sh) (Rps.mono e _ _ r)
  · rcases h2 with h2 | ⟨h3, h4⟩
    · exact .inl (by rw [hu]; exact of_decide_eq_true h2)
    · refine .inr ⟨fun d hd d' hd' => ?_, ?_, fun d hd => ?_⟩
      · obtain ⟨k, hk, rfl⟩ := List.mem_map.mp hd
        obtain ⟨k', hk', rfl⟩ := List.mem_map.mp hd'
        exact List.all_eq_true.mp (List.all_eq_true.mp h3 k hk) k' hk'
      · unfold sortableB at h4
        rw [Bool.or_eq_true] at h4
        rcases h4 with h4 | h4
        · refine .inl fun d hd => ?_
          obtain ⟨k, hk, rfl⟩ := List.mem_map.mp hd
          have := List.all_eq_true.mp h4 k hk
          cases k with
          | tup l =>
            cases l with
            | nil => cases this
            | cons a r => exact ⟨a.py, D.pys r, rfl⟩
          | _ => cases this
        · refine .inr fun d hd => ?_
          obtain ⟨k, hk, rfl⟩ := List.mem_map.mp hd
          have := List.all_eq_true.mp h4 k hk
          cases k with
          | bl b => exact ⟨(fun z => by cases z), (fun xs z => by cases z)⟩
          | int b => exact ⟨(fun z => by cases z), (fun xs z => by cases z)⟩
          | str b => exact ⟨(fun z => by cases z), (fun xs z => by cases z)⟩
          | _ => cases this
      · obtain ⟨k, hk, rfl⟩ := List.mem_map.mp hd
        exact SeqAt.depth_of_shaped (sh k hk)
theorem srtk_sound (hz : Z.Fine c pn) {f : Nat} {x : D} {v : V} {Q : VK} (o : Ok Z.K pn σ ε1 G1 H1 A1) (r : Rp Z.K G1 x v) (h : FPost Z W pn σ ε1 G1 H1 A1 Q (match itK x with
    | none => .no
    | some ds => match keysRun c f ds with
      | none => .no
      | some ks => if skOkB ds ks = true then .ok (.ls (skSort ds ks)) ε1 else .no)) :
    ∃ us, SkSrc Z.K H1 v us ∧ SkRun (fun vs H Q => spC Z.lo f vs H Q fun _ _ _ => False) us H1 (SkEnd Z.K.K us fun out H2 => ∀ p, H2 p = none → Q (.ref p) (upd H2 p (.lst out))) := by
  cases e1 : itK x with
  | none => rw [e1] at h; exact h.elim
  | some ds =>
    rw [e1] at h
    dsimp only at h
    cases e2 : keysRun c f ds with
    | none => rw [e2] at h; exact h.elim
    | some ks =>
      rw [e2] at h
      dsimp only at h
      by_cases hk : skOkB ds ks = true
      · rw [if_pos hk] at h
        have hl := keysRun_len e2
        have src : ∃ us, SkSrc Z.K H1 v us ∧ Rps Z.K G1 ds us := by
          cases x with
          | lst l =>
            cases e1
            obtain ⟨p, vs, rfl, h2, h3⟩ := r
            exact ⟨vs, .inl ⟨p, rfl, .inl (.inl (o.ex _ _ h2))⟩, h3⟩
          | fls l =>
            cases e1
            obtain ⟨p, vs, rfl, h2, h3⟩ := r
            exact ⟨vs, .inl ⟨p, rfl, ex_l o.ex h2⟩, h3⟩
          | dct l m =>
            cases e1
            obtain ⟨p, kr, vs, rfl, h2, h3, _⟩ := r
            exact ⟨kr, .inr ⟨p, _, _, rfl, h2.mono o.ex⟩, h3⟩
          | _ => cases e1
        obtain ⟨us, s1, s2⟩ := src
        refine ⟨us, s1, sk_run hz o e2 s2 fun kd G' H' A' a rk => ?_⟩
        refine skOk_of hk hl (Rps.length _ _ s2) a.ok.ex rk fun p hp => ?_
        exact FPost.new (W := W) a.ok (FPost.shift a h) hp ⟨p, _, rfl, rfl, upd_same, sk_sorted hl (Rps.mono a.g _ _ s2)⟩ rfl
      · rw [if_neg hk] at h; exact h.elim
end
end Mq
/-! A small language over HandS, 15: what is run is told (the theorem for expressions). -/
namespace Mq
open PySem L2 Evl
open SX (S S_len S_cat S_inj)
section
variable {Z : Rc}
abbrev StE (Z : Rc) (c : Cn) (W : WX) (pn : Pin) (σ : L2.St) (ε : En) (G H : Hp) (A : List Addr) : Prop := Ok Z.K pn σ ε G H A
mutual
theorem E.sound {c : Cn} : ∀ (e : E) {pn : Pin} (hz : Z.Fine c pn) {W : WX} {σ : L2.St} {ε : En} {G H : Hp} {A : List Addr} {Q : VK}, Ok Z.K pn σ ε G H A → Post Z W pn σ ε G H A (VP Z.K) Q (e.run c pn.io ε) → e.rd Z W σ H Q
  | .var i, pn, hz, W, σ, ε, G, H, A, Q, o, h => by
    unfold E.run at h
    split at h
    · rename_i d e
      obtain ⟨v, e1, e2⟩ := o.da e
      exact ⟨v, e1, h v G H A (Aft.refl o) e2⟩
    · exact h.elim
  | .pth P, pn, hz, W, σ, ε, G, H, A, Q, o, h => by
    unfold E.run at h
    cases e : P.res ε with
    | none => rw [e] at h; exact h.elim
    | some rp =>
      rw [e, Option.bind_some] at h
      split at h
      · rename_i d e2
        obtain ⟨v0, u, B, R, f1, f2, f3, _⟩ := o.focus hz.kd e2 ⟨(fun z => nomatch z), fun z => nomatch z⟩
        exact pa_read hz o e f1 f2 (h u G H A (Aft.refl o) f3.2)
      · exact h.elim
  | .frz P, pn, hz, W, σ, ε, G, H, A, Q, o, h => by
    unfold E.run at h
    cases e : P.res ε with
    | none => rw [e] at h; exact h.elim
    | some rp =>
      rw [e] at h
      dsimp only at h
      cases e2 : getP ε rp with
      | none => rw [e2] at h; exact h.elim
      | some s =>
        rw [e2] at h
        dsimp only at h
        have key : (s ≠ .no ∧ s ≠ .ex) → Post Z W pn σ ε G H A (VP Z.K) Q (if (!pn.io.fz && (!rp.2.isEmpty || pn.io.rep rp.1)) = true then match s.frz with | some d => R.ok d (setP ε rp (.da d)) | none => .no else .no) → P.rd Z.K σ H Q := fun hs h => by
          split at h
          · rename_i hc
            rw [Bool.and_eq_true] at hc
            cases q : s.frz with
            | none => rw [q] at h; exact h.elim
            | some d =>
              rw [q] at h
              obtain ⟨v0, u, B, f1, f2, f3, f4, f5, f6⟩ := o.put hz.kd e2 hs
              have gB : ∀ b ∈ B, G b = none := fun b hb => o.gn b (f4 b hb)
              have rp' : Rp Z.K (frzG G H B) d u := HV.frz (frzG_ex gB) _ _ _ _ f3 q fun b hb => frzG_in hb
              obtain ⟨A', a⟩ := f6 (frzG G H B) H (.da d) [] (frzG_ex gB) (frzG_le o.ex) (fun _ _ _ e => e) (fun a n g _ => by rw [frzG_out n]; exact g) ⟨rfl, rp'⟩ (fun _ z => nomatch z) List.nodup_nil (fun _ z => nomatch z) (fun _ => Ex.refl H) (by
                have h2 := hc.2
                rw [Bool.or_eq_true] at h2
                rcases h2 with h2 | h2
                · refine .inr (.inl fun z => ?_)
                  rw [z] at h2
                  cases h2
                · exact .inr (.inr fun z => by
                    obtain ⟨q, hq, e⟩ := List.mem_map.mp z
                    exact rep_pin h2 q hq e))
              exact pa_read hz o e f1 f2 (h u _ H A' a rp')
          · exact h.elim
        cases s with
        | da d =>
          obtain ⟨v0, u, B, R, f1, f2, f3, _⟩ := o.focus hz.kd e2 ⟨(fun z => nomatch z), fun z => nomatch z⟩
          exact pa_read hz o e f1 f2 (h u G H A (Aft.refl o) f3.2)
        | no => dsimp only at h; split at h <;> exact h.elim
        | ex => dsimp only at h; split at h <;> exact h.elim
        | ls _ => exact key ⟨(fun z => nomatch z), fun z => nomatch z⟩ h
        | dk _ _ => exact key ⟨(fun z => nomatch z), fun z => nomatch z⟩ h
        | ob _ _ _ => exact key ⟨(fun z => nomatch z), fun z => nomatch z⟩ h
        | lo _ => exact key ⟨(fun z => nomatch z), fun z => nomatch z⟩ h
        | dl _ _ => exact key ⟨(fun z => nomatch z), fun z => nomatch z⟩ h
  | .cst d, pn, hz, W, σ, ε, G, H, A, Q, o, h => by
    unfold E.run at h
    split at h
    · rename_i hf
      exact h _ G H A (Aft.refl o) (vC_rp hf)
    · split at h
      · exact h _ G H A (Aft.refl o) rfl
      · exact h _ G H A (Aft.refl o) rfl
      · exact h.elim
  | .glb x, pn, hz, W, σ, ε, G, H, A, Q, o, h => by
    unfold E.run at h
    obtain ⟨d, e, k⟩ := Post.ofA h
    exact k _ G H A (Aft.refl o) (hz.gl x d e G)
  | .op2 p a b, pn, hz, W, σ, ε, G, H, A, Q, o, h => by
    unfold E.run at h
    refine E.sound a hz o (Post.bd0 oPost h fun x ε1 v G1 H1 A1 a1 r1 h1 => ?_)
    refine E.sound b hz a1.ok (Post.bd0 oPost h1 fun y ε2 u G2 H2 A2 a2 r2 h2 => ?_)
    obtain ⟨d, e, k⟩ := Post.ofA h2
    exact Op2.sound e a2.ok.ex (.inl (Rp.mono a2.g _ _ r1)) (.inl r2) fun v G' H' pu r => k v G' H' A2 (Aft.pu a2.ok pu) r
  | .opo p a b, pn, hz, W, σ, ε, G, H, A, Q, o, h => by
    unfold E.run at h
    refine Od.sound a hz o (Post.bd0 oPost h fun x ε1 v G1 H1 A1 a1 r1 h1 => ?_)
    rw [← fzd_io] at h1
    refine Od.sound b hz.fzd a1.ok.fzd (Post.bd oPost h1 fun y ε2 u G2 H2 A2 a2 r2 h2 => ?_)
    obtain ⟨d, e, k⟩ := Post.ofA h2
    obtain ⟨d1, e1, e⟩ := Option.bind_eq_some_iff.mp e
    obtain ⟨d2, e2, e⟩ := Option.bind_eq_some_iff.mp e
    exact Op2.sound e a2.ok.ex (vw_rq hz.kd a2.ok (r1.aft a2) e1) (vw_rq hz.kd a2.ok r2 e2) fun v G' H' pu r => k v G' H' A2 (Aft.pu a2.unfz.ok pu) r
  | .neg a, pn, hz, W, σ, ε, G, H, A, Q, o, h => by
    unfold E.run at h
    refine E.sound a hz o (Post.bd0 oPost h fun x ε1 v G1 H1 A1 a1 r1 h1 => ?_)
    split at h1
    · cases (show v = V.int _ from r1)
      exact ⟨_, rfl, h1 _ G1 H1 A1 (Aft.refl a1.ok) rfl⟩
    · exact h1.elim
  | .rep a y z, pn, hz, W, σ, ε, G, H, A, Q, o, h => by
    unfold E.run at h
    refine E.sound a hz o (Post.bd0 oPost h fun x ε1 v G1 H1 A1 a1 r1 h1 => ?_)
    split at h1
    · rename_i l
      split at h1
      · rename_i hc
        simp only [Bool.and_eq_true, Bool.not_eq_true', decide_eq_true_eq] at hc
        obtain ⟨c1, c2, c3⟩ := hc
        cases (show v = V.str (SX.S l) from r1)
        refine ⟨SX.S l, rfl, by rw [SX.S_len, SX.S_len]; exact c3, ?_⟩
        rw [repl_S l (fun z => by rw [z] at c1; cases c1)]
        exact h1 _ G1 H1 A1 (Aft.refl a1.ok) rfl
      · exact h1.elim
    · exact h1.elim
  | .rep0 a y z, pn, hz, W, σ, ε, G, H, A, Q, o, h => by
    unfold E.run at h
    refine E.sound a hz o (Post.bd0 oPost h fun x ε1 v G1 H1 A1 a1 r1 h1 => ?_)
    split at h1
    · rename_i l
      split at h1
      · rename_i hc
        cases (show v = V.str (SX.S l) from r1)
        exact ⟨SX.S l, rfl, occ_no hc, h1 _ G1 H1 A1 (Aft.refl a1.ok) rfl⟩
      · exact h1.elim
    · exact h1.elim
  | .chain p q a b e, pn, hz, W, σ, ε, G, H, A, Q, o, h => by
    unfold E.run at h
    refine E.sound a hz o (Post.bd0 oPost h fun x ε1 v G1 H1 A1 a1 r1 h1 => ?_)
    refine E.sound b hz a1.ok (Post.bd0 oPost h1 fun y ε2 u G2 H2 A2 a2 r2 h2 => ?_)
    split at h2
    · rename_i eq
      refine Op2.sound eq a2.ok.ex (.inl (Rp.mono a2.g _ _ r1)) (.inl r2) fun w G3 H3 pu rw => ?_
      cases (show w = V.bl true from rw)
      refine ⟨true, rfl, ?_⟩
      rw [if_pos rfl]
      have a3 := Aft.pu a2.ok pu
      refine E.sound e hz a3.ok (Post.bd0 oPost (Post.shift a3 h2) fun z ε4 w' G4 H4 A4 a4 r4 h4 => ?_)
      obtain ⟨d, e, k⟩ := Post.ofA h4
      exact Op2.sound e a4.ok.ex (.inl (Rp.mono (pu.g.trans a4.g) _ _ r2)) (.inl r4) fun v G' H' pu r => k v G' H' A4 (Aft.pu a4.ok pu) r
    · rename_i e
      refine Op2.sound e a2.ok.ex (.inl (Rp.mono a2.g _ _ r1)) (.inl r2) fun w G3 H3 pu rw => ?_
      cases (show w = V.bl false from rw)
      refine ⟨false, rfl, ?_⟩
      rw [if_neg Bool.false_ne_true]
      exact h2 _ _ _ _ (Aft.pu a2.ok pu) rfl
    · exact h2.elim
  | .and a b, pn, hz, W, σ, ε, G, H, A, Q, o, h => by
    unfold E.run at h
    refine E.sound a hz o (Post.bd0 oPost h fun x ε1 v G1 H1 A1 a1 r1 h1 => ?_)
    cases q : truD x with
    | none => rw [q] at h1; exact h1.elim
    | some k =>
      rw [q] at h1
      refine ⟨k, tru_sound q a1.ok.ex (.inl r1), ?_⟩
      cases k with
      | true => rw [if_pos rfl]; exact E.sound b hz a1.ok h1
      | false => rw [if_neg Bool.false_ne_true]; exact h1 _ _ _ _ (Aft.refl a1.ok) r1
  | .or a b, pn, hz, W, σ, ε, G, H, A, Q, o, h => by
    unfold E.run at h
    refine E.sound a hz o (Post.bd0 oPost h fun x ε1 v G1 H1 A1 a1 r1 h1 => ?_)
    cases q : truD x with
    | none => rw [q] at h1; exact h1.elim
    | some k =>
      rw [q] at h1
      refine ⟨k, tru_sound q a1.ok.ex (.inl r1), ?_⟩
      cases k with
      | true => rw [if_pos rfl]; exact h1 _ _ _ _ (Aft.refl a1.ok) r1
      | false => rw [if_neg Bool.false_ne_true]; exact E.sound b hz a1.ok h1
  | .not a, pn, hz, W, σ, ε, G, H, A, Q, o, h => by
    unfold E.run at h
    refine E.sound a hz o (Post.bd0 oPost h fun x ε1 v G1 H1 A1 a1 r1 h1 => ?_)
    obtain ⟨d, e, k⟩ := Post.ofA h1
    obtain ⟨b, q, e2⟩ := Option.map_eq_some_iff.mp e
    subst e2
    exact ⟨b, tru_sound q a1.ok.ex (.inl r1), k _ _ _ _ (Aft.refl a1.ok) rfl⟩
  | .ite t a b, pn, hz, W, σ, ε, G, H, A, Q, o, h => by
    unfold E.run at h
    refine T.sound t hz o (Post.bd0 oPost h fun x ε1 v G1 H1 A1 a1 r1 h1 => ?_)
    cases (show x = v from r1)
    cases x with
    | true => rw [if_pos rfl] at h1 ⊢; exact E.sound a hz a1.ok h1
    | false => rw [if_neg Bool.false_ne_true] at h1 ⊢; exact E.sound b hz a1.ok h1
  | .tup es, pn, hz, W, σ, ε, G, H, A, Q, o, h => by
    unfold E.run at h
    refine Es.sound es hz o (Post.bd0 oPost h fun xs ε1 vs G1 H1 A1 a1 r1 h1 => ?_)
    split at h1
    · rename_i hl
      refine ⟨by rw [Rps.length _ _ r1]; exact sz_line hl, fun p ob hp hd => h1 _ _ _ _ (Aft.pu a1.ok (Pu.new a1.ok.ex hp)) ?_⟩
      exact ⟨p, vs, rfl, .new hd, Rps.mono (Ex.new (none_of_ex a1.ok.ex hp)) _ _ r1⟩
    · exact h1.elim
  | .mk m, pn, hz, W, σ, ε, G, H, A, Q, o, h => by
    unfold E.run at h
    refine M.sound m hz o (FPost.bd oPost h fun s ε1 v G1 H1 A1 B a1 hv ho hn hb h1 => ?_)
    obtain ⟨d, e, k⟩ := Post.ofA h1
    exact k v _ H1 A1 (a1.freeze hn hb) (HV.frz (frzG_ex fun b hb2 => (hb b hb2).1) _ _ _ _ hv e fun b hb => frzG_in hb)
  | .bif b es, pn, hz, W, σ, ε, G, H, A, Q, o, h => by
    unfold E.run at h
    refine Es.sound es hz o (Post.bd0 oPost h fun xs ε1 vs G1 H1 A1 a1 r1 h1 => ?_)
    obtain ⟨d, e, k⟩ := Post.ofA h1
    exact Bif.sound e a1.ok.ex (Rqs.of _ _ r1) fun v G' H' pu r => k v G' H' A1 (Aft.pu a1.ok pu) r
  | .bifo b as, pn, hz, W, σ, ε, G, H, A, Q, o, h => by
    unfold E.run at h
    refine As.sound as hz o (APost.bd0 oPost h fun xs ε1 vs G1 H1 A1 T a1 r1 hn hT h1 => ?_)
    obtain ⟨d, e, k⟩ := Post.ofA h1
    obtain ⟨ys, e1, e⟩ := Option.bind_eq_some_iff.mp e
    exact Bif.sound e a1.ok.ex (args_rqs hz.kd a1.ok xs r1 e1) fun v G' H' pu r => k v G' H' A1 (a1.trans (Aft.pu a1.ok pu)) r
  | .mth m a es, pn, hz, W, σ, ε, G, H, A, Q, o, h => by
    unfold E.run at h
    refine Od.sound a hz o (Post.bd0 oPost h fun x ε1 v G1 H1 A1 a1 r1 h1 => ?_)
    cases q : x.vw ε1 with
    | none => rw [q] at h1; exact h1.elim
    | some u0 =>
      rw [q] at h1
      dsimp only at h1
      split at h1
      · rename_i hty
        refine ⟨tyD_of hty a1.ok.ex (vw_rq hz.kd a1.ok r1 q), ?_⟩
        rw [← fzd_io] at h1
        refine Es.sound es hz.fzd a1.ok.fzd (Post.bd oPost h1 fun xs ε2 vs G2 H2 A2 a2 r2 h2 => ?_)
        obtain ⟨d, e, k⟩ := Post.ofA h2
        obtain ⟨d1, e1, e⟩ := Option.bind_eq_some_iff.mp e
        exact Mth.sound e a2.ok.ex (vw_rq hz.kd a2.ok (r1.aft a2) e1) r2 fun v G' H' pu r => k v G' H' A2 (Aft.pu a2.unfz.ok pu) r
      · exact h1.elim
  | .slc a lo hi, pn, hz, W, σ, ε, G, H, A, Q, o, h => by
    unfold E.run at h
    refine E.sound a hz o (Post.bd0 oPost h fun x ε1 v G1 H1 A1 a1 r1 h1 => ?_)
    refine OE.sound lo hz a1.ok (Post.bd0 oPost h1 fun l ε2 l' G2 H2 A2 a2 r2 h2 => ?_)
    refine OE.sound hi hz a2.ok (Post.bd0 oPost h2 fun u ε3 u' G3 H3 A3 a3 r3 h3 => ?_)
    obtain ⟨d, e, k⟩ := Post.ofA h3
    cases (show l = l' from r2)
    cases (show u = u' from r3)
    exact slice_sound e a3.ok.ex (.inl (Rp.mono (a2.g.trans a3.g) _ _ r1)) fun v G' H' pu r => k v G' H' A3 (Aft.pu a3.ok pu) r
  | .slo P lo hi, pn, hz, W, σ, ε, G, H, A, Q, o, h => by
    unfold E.run at h
    refine odP_sound hz o (Post.bd0 oPost h fun x ε1 v G1 H1 A1 a1 r1 h1 => ?_)
    rw [← fzd_io] at h1
    refine OE.sound lo hz.fzd a1.ok.fzd (Post.bd oPost h1 fun l ε2 l' G2 H2 A2 a2 r2 h2 => ?_)
    refine OE.sound hi hz.fzd a2.ok (Post.bd oPost h2 fun u ε3 u' G3 H3 A3 a3 r3 h3 => ?_)
    obtain ⟨d, e, k⟩ := Post.ofA h3
    obtain ⟨d1, e1, e⟩ := Option.bind_eq_some_iff.mp e
    cases (show l = l' from r2)
    cases (show u = u' from r3)
    exact slice_sound e a3.ok.ex (vw_rq hz.kd a3.ok ((r1.aft a2).aft a3) e1) fun v G' H' pu r => k v G' H' A3 (Aft.pu a3.unfz.ok pu) r
  | .call f as, pn, hz, W, σ, ε, G, H, A, Q, o, h => by
    unfold E.run at h
    refine As.sound as hz o (APost.bd0 oPost h fun xs ε1 vs G1 H1 A1 T a1 r1 hn hT h1 => ?_)
    rw [List.append_nil]
    refine call_sound hz a1 r1 hn hT (CPost.bd oPost h1 fun r ε2 v G2 H2 A2 a2 ro h2 => ?_)
    obtain ⟨d, e, k⟩ := Post.ofA h2
    obtain ⟨G3, a3, r3⟩ := ret_frz a2 ro e
    exact k v G3 H2 A2 a3 r3
  | .meth P m as, pn, hz, W, σ, ε, G, H, A, Q, o, h => by
    unfold E.run at h
    cases e : P.res ε with
    | none => rw [e] at h; exact h.elim
    | some rp =>
      rw [e] at h
      dsimp only at h
      split at h
      · rename_i cl fn fv e2
        rw [hz.mt] at h
        cases q : Z.mt cl m with
        | none => rw [q] at h; exact h.elim
        | some f =>
          rw [q] at h
          dsimp only at h
          obtain ⟨v0, u, B, R, f1, f2, f3, _⟩ := o.focus hz.kd e2 ⟨(fun z => nomatch z), fun z => nomatch z⟩
          obtain ⟨p, dx, fs, C, rfl, rfl, g1, g2, g3, g4, g5⟩ := f3
          refine pa_read hz o e f1 f2 ⟨p, cl, dx, fs, f, rfl, g1, q, mf_none hz q g3 g4, ?_⟩
          rw [← fzd_io] at h
          refine As.sound as hz.fzd o.fzd (APost.bd oPost h fun xs ε1 vs G1 H1 A1 T a1 r1 hn hT h1 => ?_)
          have rr : ArP Z.K σ (.p rp) (.ref p) G1 H1 := ArP.aft (x := .p rp) (G1 := G) (H1 := H) ⟨v0, f1, f2⟩ a1
          refine call_sound hz a1.unfz (args_cons rr r1) hn hT (CPost.bd oPost h1 fun r ε2 v G2 H2 A2 a2 ro h2 => ?_)
          obtain ⟨d, e, k⟩ := Post.ofA h2
          obtain ⟨G3, a3, r3⟩ := ret_frz a2 ro e
          exact k v G3 H2 A2 a3 r3
      · exact h.elim
  | .metht km m as, pn, hz, W, σ, ε, G, H, A, Q, o, h => by
    unfold E.run at h
    refine M.sound km hz o (FPost.bd oPost h fun s ε1 v G1 H1 A1 B a1 hv ho hn hb h1 => ?_)
    split at h1
    · rename_i cl fn fv
      rw [hz.mt] at h1
      cases q : Z.mt cl m with
      | none => rw [q] at h1; exact h1.elim
      | some f =>
        rw [q] at h1
        dsimp only at h1
        have hv0 := hv
        obtain ⟨p, dx, fs, C, rfl, _, g1, g2, g3, g4, g5⟩ := hv0
        refine ⟨p, cl, dx, fs, f, rfl, g1, q, mf_none hz q g3 g4, ?_⟩
        refine As.sound as hz a1.ok (APost.bdS oPost a1 h1 fun xs ε2 vs G2 H2 A2 T a2 r2 hn2 hT2 h2 => ?_)
        obtain ⟨j1, j2, j3⟩ := tmp_join a1 hv hn hb a2 hn2 hT2
        refine call_sound hz (a1.trans a2) (as := .t (.ob cl fn fv) :: xs) ⟨_, vs, B, T, rfl, rfl, j1, r2⟩ j2 j3 (CPost.bd oPost h2 fun r ε3 v G3 H3 A3 a3 ro h3 => ?_)
        obtain ⟨d, e, k⟩ := Post.ofA h3
        obtain ⟨G4, a4, r4⟩ := ret_frz a3 ro e
        exact k v G4 H3 A3 a4 r4
    · exact h1.elim
  | .callv i as, pn, hz, W, σ, ε, G, H, A, Q, o, h => by
    unfold E.run at h
    split at h
    · rename_i f e
      obtain ⟨v, e1, e2⟩ := o.da e
      cases (show v = V.ref (Z.K.fa f) from e2)
      refine ⟨f, e1, ?_⟩
      refine As.sound as hz o (APost.bd0 oPost h fun xs ε1 vs G1 H1 A1 T a1 r1 hn hT h1 => ?_)
      refine call_sound hz a1 r1 hn hT (CPost.bd oPost h1 fun r ε2 v G2 H2 A2 a2 ro h2 => ?_)
      obtain ⟨d, e, k⟩ := Post.ofA h2
      obtain ⟨G3, a3, r3⟩ := ret_frz a2 ro e
      exact k v G3 H2 A2 a3 r3
    · exact h.elim
  | .pop P, pn, hz, W, σ, ε, G, H, A, Q, o, h => by
    unfold E.run at h
    cases e : P.res ε with
    | none => rw [e] at h; exact h.elim
    | some rp =>
      rw [e] at h
      dsimp only at h
      split at h
      · rename_i hf
        split at h
        · rename_i d ds e2
          obtain ⟨v0, p, vs, f1, f2, f3, f4, f5⟩ := put_ls hz.kd o e2
          obtain ⟨v, us, rfl, r1, r2⟩ := f4
          obtain ⟨A', a⟩ := f5 (by
            have hf : (!pn.fz) = true := hf
            cases q : pn.fz
            · rfl
            · rw [q] at hf; cases hf) ds us r2
          refine pa_read hz o e f1 f2 ⟨.inl (.inl ⟨rfl, _, SqL.of f3⟩), ?_⟩
          exact ⟨p, v :: us, 0, 0, v, rfl, rfl, f3, by decide, by decide, by unfold seqIndex?; simp, rfl, h v G _ A' a r1⟩
        · exact h.elim
      · exact h.elim
  | .sd P k e, pn, hz, W, σ, ε, G, H, A, Q, o, h => by
    unfold E.run at h
    cases q : P.res ε with
    | none => rw [q] at h; exact h.elim
    | some rp =>
      rw [q] at h
      dsimp only at h
      split at h
      · rename_i ks0 ds0 e2
        obtain ⟨v0, p, kr, vs, f1, f2, f3, f4, f5, f6⟩ := put_dk hz.kd o e2
        refine pa_read hz o q f1 f2 ⟨.inr (.inr ⟨rfl, p, _, kr, vs, rfl, f3.v⟩), ?_⟩
        rw [← fzd_io] at h
        refine E.sound k hz.fzd o.fzd (Post.bd oPost h fun x ε1 y G1 H1 A1 a1 r1 h1 => ?_)
        refine E.sound e hz.fzd a1.ok (Post.bd oPost h1 fun z ε2 w G2 H2 A2 a2 r2 h2 => ?_)
        split at h2
        · rename_i hf
          have hf : pn.fz = false := by
            have hf : (!pn.fz) = true := hf
            cases q : pn.fz
            · rfl
            · rw [q] at hf; cases hf
          split at h2
          · rename_i ks ds e3
            obtain ⟨v0', p', kr', vs', g1, g2, g3, g4, g5, g6⟩ := put_dk hz.kd a2.unfz.ok e3
            have hv0 : v0 = v0' := by
              rw [f1] at g1
              exact Option.some.inj (Option.some.inj g1)
            subst hv0
            have rr : ArP Z.K σ (.p rp) (.ref p) G2 H2 := ArP.aft (x := .p rp) (ArP.aft (x := .p rp) (G1 := G) (H1 := H) ⟨v0, f1, f2⟩ a1) a2
            obtain ⟨v1, w1, w2⟩ := rr
            have hv1 : v0 = v1 := by
              rw [f1] at w1
              exact Option.some.inj (Option.some.inj w1)
            subst hv1
            have hp : V.ref p = V.ref p' := AtH.det _ _ _ _ w2 g2
            cases hp
            split at h2
            · rename_i hc
              have lk : ∀ o', o' = ((ixk ks x).bind fun i => vs'[i]?) → DLook Z.K H2 (.ref p) y o' := fun o' eo => ⟨p, ks, kr', vs', x, rfl, g3.v, Rps.mono a2.ok.ex _ _ g4, Rp.mono (a2.g.trans a2.ok.ex) _ _ r1, hc.2, eo⟩
              cases qi : ixk ks x with
              | some i =>
                have hi : ∃ z', ds[i]? = some z' := by
                  rw [qi] at h2
                  cases qd : ds[i]? with
                  | some z' => exact ⟨z', rfl⟩
                  | none =>
                    exfalso
                    have hl := ixk_lt qi
                    have l1 : vs'.length = ds.length := Rps.length _ _ g5
                    have l2 : ks.length = ds.length := by
                      rcases g3 with ⟨kv, _, c2, _, c4⟩ | ⟨_, xs, _, c2, _, _, c5, _⟩
                      · have := congrArg List.length c2
                        rw [List.length_map, List.length_map] at this
                        rw [this, ← l1, c4, List.length_map]
                      · have := congrArg List.length c2
                        rw [List.length_map, List.length_map] at this
                        have e5 := c5.length
                        rw [List.length_map] at e5
                        omega
                    rw [List.getElem?_eq_none_iff] at qd
                    omega
                obtain ⟨z', hz'⟩ := hi
                rw [qi, Option.bind_some, hz'] at h2
                obtain ⟨v, v1, v2⟩ := Rps.get _ _ _ _ g5 hz'
                exact ⟨y, w, rfl, .inl ⟨v, lk _ (by rw [qi, Option.bind_some]; exact v1.symm), h2 v G2 H2 A2 (Aft.refl a2.unfz.ok) v2⟩⟩
              | none =>
                rw [qi, Option.bind_none] at h2
                refine ⟨y, w, rfl, .inr ?_⟩
                refine ⟨p, ks, kr', vs', x, rfl, g3, Rps.mono a2.ok.ex _ _ g4, Rp.mono (a2.g.trans a2.ok.ex) _ _ r1, hc.2, qi, Nat.lt_of_lt_of_le hc.1 (by decide), fun u hu => ?_⟩
                obtain ⟨A', a⟩ := g6 hf u _ _ _ _ hu (putKs_rps g4 (Rp.mono a2.g _ _ r1)) (putV_rps g5 r2)
                exact h2 w G2 _ A' a r2
            · exact h2.elim
          · exact h2.elim
        · exact h2.elim
      · exact h.elim
  | .gin n x e, pn, hz, W, σ, ε, G, H, A, Q, o, h => by
    unfold E.run at h
    refine E.sound e hz o (Post.bd0 oPost h fun y ε1 v G1 H1 A1 a1 r1 h1 => ?_)
    rw [hz.gd] at h1
    split at h1
    · rename_i ks ds l e1
      cases (show v = V.str _ from r1)
      exact ⟨l, ks, ds, rfl, e1, h1 _ _ _ _ (Aft.refl a1.ok) rfl⟩
    · exact h1.elim
  | .gix x e, pn, hz, W, σ, ε, G, H, A, Q, o, h => by
    unfold E.run at h
    refine E.sound e hz o (Post.bd0 oPost h fun y ε1 v G1 H1 A1 a1 r1 h1 => ?_)
    rw [hz.gd] at h1
    split at h1
    · rename_i ks ds l e1
      cases (show v = V.str _ from r1)
      obtain ⟨d, e2, k⟩ := Post.ofA h1
      obtain ⟨i, e3, e4⟩ := Option.bind_eq_some_iff.mp e2
      exact ⟨l, ks, ds, i, d, rfl, e1, e3, e4, k _ _ _ _ (Aft.refl a1.ok) (vD_rp (.inl (hz.gf x ks ds e1 d (List.mem_of_getElem? e4))))⟩
    · exact h1.elim
  | .gget x e d, pn, hz, W, σ, ε, G, H, A, Q, o, h => by
    unfold E.run at h
    refine E.sound e hz o (Post.bd0 oPost h fun y ε1 v G1 H1 A1 a1 r1 h1 => ?_)
    refine E.sound d hz a1.ok (Post.bd0 oPost h1 fun z ε2 u G2 H2 A2 a2 r2 h2 => ?_)
    rw [hz.gd] at h2
    split at h2
    · rename_i ks ds l e1
      cases (show v = V.str _ from r1)
      refine ⟨l, ks, ds, rfl, e1, h2 _ _ _ _ (Aft.refl a2.ok) ?_⟩
      cases q : (ixL ks l).bind fun i => ds[i]? with
      | none => exact r2
      | some d' =>
        obtain ⟨i, e3, e4⟩ := Option.bind_eq_some_iff.mp q
        exact vD_rp (.inl (hz.gf x ks ds e1 d' (List.mem_of_getElem? e4)))
    · exact h2.elim
  | .xf k i, pn, hz, W, σ, ε, G, H, A, Q, o, h => by
    unfold E.run at h
    split at h
    · rename_i x hx he
      obtain ⟨d, e, kk⟩ := Post.ofA h
      obtain ⟨hs, ns, m1, m2, m3, m4, m5, m6⟩ := o.err hz hx he
      rw [hz.mkn, m1, Option.bind_some] at e
      obtain ⟨j, e1, e2⟩ := Option.bind_eq_some_iff.mp e
      have nn : ns ≠ [] := fun z => by rw [z] at e1; cases e1
      obtain ⟨dd, d1, d2⟩ := m6 nn
      refine ⟨x.c, ⟨ns, m1⟩, m4, .ref Z.xa, hs, rfl, m4, dd, _, vD d, d1, d2, ?_, kk _ G H A (Aft.refl o) (vD_rp (.inl (List.all_eq_true.mp m3 d (List.mem_of_getElem? e2))))⟩
      have len : (ns.map Z.K.fl).length = (x.fs.map vD).length := by rw [List.length_map, List.length_map, m2]
      refine lookup_mem ?_ ?_
      · rw [List.map_reverse, (List.reverse_perm _).nodup_iff, List.map_fst_zip (by omega)]
        exact (hz.ox x.c ns m1).1
      · rw [List.mem_reverse]
        have j1 := fix_mem e1
        refine List.mem_of_getElem? (i := j) ?_
        rw [List.getElem?_zip_eq_some]
        exact ⟨by rw [List.getElem?_map, j1]; rfl, by rw [List.getElem?_map, e2]; rfl⟩
    · exact h.elim
  | .xi i y, pn, hz, W, σ, ε, G, H, A, Q, o, h => by
    unfold E.run at h
    split at h
    · rename_i x hx he
      obtain ⟨d, e, kk⟩ := Post.ofA h
      obtain ⟨hs, ns, m1, m2, m3, m4, m5, m6⟩ := o.err hz hx he
      obtain ⟨b, q, e2⟩ := Option.map_eq_some_iff.mp e
      subst e2
      refine ⟨.ref Z.xa, hs, .ref (Z.K.ca y), Z.K.ca x.c, b, rfl, m4, ?_, (hz.ox _ _ m1).2.2, .inl ⟨_, .own _, (hz.sb _ _ _ q).2⟩, kk _ G H A (Aft.refl o) rfl⟩
      by_cases nn : ns = []
      · exact .inl (m5 nn)
      · obtain ⟨dd, d1, d2⟩ := m6 nn
        exact .inr ⟨dd, _, d1, d2⟩
    · exact h.elim
  | .xt i ys, pn, hz, W, σ, ε, G, H, A, Q, o, h => by
    unfold E.run at h
    split at h
    · rename_i x hx he
      split at h
      · rename_i hl
        obtain ⟨d, e, kk⟩ := Post.ofA h
        obtain ⟨hs, ns, m1, m2, m3, m4, m5, m6⟩ := o.err hz hx he
        obtain ⟨b, q, e2⟩ := Option.map_eq_some_iff.mp e
        subst e2
        refine ⟨.ref Z.xa, hs, clsA_run Z ys ⟨by rw [List.length_map]; exact Nat.le_trans hl (by decide), fun p ob hp hd => ?_⟩⟩
        refine ⟨.ref p, Z.K.ca x.c, b, rfl, m4, ?_, (hz.ox _ _ m1).2.2, .inr ⟨p, _, _, rfl, (TpAt.new hd : TpAt Z.K _ p _).sq, cls_paired Z ys, any_kit hz x.c ys q⟩, kk _ _ _ _ (Aft.pu o (Pu.new o.ex hp)) rfl⟩
        by_cases nn : ns = []
        · exact .inl (m5 nn)
        · obtain ⟨dd, d1, d2⟩ := m6 nn
          exact .inr ⟨dd, _, d1, by rw [upd_ne (ne_of_none d2 hp)]; exact d2⟩
      · exact h.elim
    · exact h.elim
theorem Od.sound {c : Cn} : ∀ (e : Od) {pn : Pin} (hz : Z.Fine c pn) {W : WX} {σ : L2.St} {ε : En} {G H : Hp} {A : List Addr} {Q : VK}, Ok Z.K pn σ ε G H A → Post Z W pn σ ε G H A (ArP Z.K σ) Q (e.run c pn.io ε) → e.rd Z W σ H Q
  | .e e, pn, hz, W, σ, ε, G, H, A, Q, o, h => by
    unfold Od.run at h
    exact E.sound e hz o (Post.bd0 oPost h fun x ε1 v G1 H1 A1 a1 r1 h1 => h1 v G1 H1 A1 (Aft.refl a1.ok) r1)
  | .p P, pn, hz, W, σ, ε, G, H, A, Q, o, h => by
    unfold Od.run at h
    exact odP_sound hz o h
theorem Es.sound {c : Cn} : ∀ (e : Es) {pn : Pin} (hz : Z.Fine c pn) {W : WX} {σ : L2.St} {ε : En} {G H : Hp} {A : List Addr} {Q : List V → Hp → Prop}, Ok Z.K pn σ ε G H A → Post Z W pn σ ε G H A (VPs Z.K) Q (e.run c pn.io ε) → e.rd Z W σ H Q
  | .nil, pn, hz, W, σ, ε, G, H, A, Q, o, h => by
    unfold Es.run at h
    exact h [] G H A (Aft.refl o) rfl
  | .cons e es, pn, hz, W, σ, ε, G, H, A, Q, o, h => by
    unfold Es.run at h
    refine E.sound e hz o (Post.bd0 oPost h fun x ε1 v G1 H1 A1 a1 r1 h1 => ?_)
    refine Es.sound es hz a1.ok (Post.bd0 oPost h1 fun xs ε2 vs G2 H2 A2 a2 r2 h2 => ?_)
    exact h2 _ _ _ _ (Aft.refl a2.ok) ⟨v, vs, rfl, Rp.mono a2.g _ _ r1, r2⟩
theorem As.sound {c : Cn} : ∀ (e : As) {pn : Pin} (hz : Z.Fine c pn) {W : WX} {σ : L2.St} {ε : En} {G H : Hp} {A : List Addr} {Q : List V → Hp → Prop}, Ok Z.K pn σ ε G H A → APost Z W pn σ ε G H A Q (e.run c pn.io ε) → e.rd Z W σ H Q
  | .nil, pn, hz, W, σ, ε, G, H, A, Q, o, h => by
    unfold As.run at h
    exact h [] G H A [] (Aft.refl o) ⟨rfl, rfl⟩ (by rw [List.append_nil]; exact o.nd) (fun _ z => nomatch z)
  | .cons od es, pn, hz, W, σ, ε, G, H, A, Q, o, h => by
    unfold As.run at h
    refine Od.sound od hz o (Post.bd0 oAPost h fun x ε1 v G1 H1 A1 a1 r1 h1 => ?_)
    rw [← fzd_io] at h1
    refine As.sound es hz.fzd a1.ok.fzd (APost.bd oAPost h1 fun xs ε2 vs G2 H2 A2 T a2 r2 hn hT h2 => ?_)
    exact h2 _ _ _ _ _ a2.unfz (args_cons (r1.aft a2) r2) hn hT
  | .tm m es, pn, hz, W, σ, ε, G, H, A, Q, o, h => by
    unfold As.run at h
    refine M.sound m hz o (FPost.bd oAPost h fun s ε1 v G1 H1 A1 B a1 hv ho hn hb h1 => ?_)
    refine As.sound es hz a1.ok (APost.bdS oAPost a1 h1 fun xs ε2 vs G2 H2 A2 T a2 r2 hn2 hT2 h2 => ?_)
    obtain ⟨j1, j2, j3⟩ := tmp_join a1 hv hn hb a2 hn2 hT2
    exact h2 (v :: vs) G2 H2 A2 (B ++ T) (a1.trans a2) ⟨v, vs, B, T, rfl, rfl, j1, r2⟩ j2 j3
theorem OE.sound {c : Cn} : ∀ (e : OE) {pn : Pin} (hz : Z.Fine c pn) {W : WX} {σ : L2.St} {ε : En} {G H : Hp} {A : List Addr} {Q : Option Int → Hp → Prop}, Ok Z.K pn σ ε G H A → Post Z W pn σ ε G H A IdP Q (e.run c pn.io ε) → e.rd Z W σ H Q
  | .no, pn, hz, W, σ, ε, G, H, A, Q, o, h => by
    unfold OE.run at h
    exact h none G H A (Aft.refl o) rfl
  | .so e, pn, hz, W, σ, ε, G, H, A, Q, o, h => by
    unfold OE.run at h
    refine E.sound e hz o (Post.bd0 oPost h fun x ε1 v G1 H1 A1 a1 r1 h1 => ?_)
    split at h1
    · cases (show v = V.int _ from r1)
      exact ⟨_, rfl, h1 _ _ _ _ (Aft.refl a1.ok) rfl⟩
    · exact h1.elim
theorem T.sound {c : Cn} : ∀ (e : T) {pn : Pin} (hz : Z.Fine c pn) {W : WX} {σ : L2.St} {ε : En} {G H : Hp} {A : List Addr} {Q : Bool → Hp → Prop}, Ok Z.K pn σ ε G H A → Post Z W pn σ ε G H A IdP Q (e.run c pn.io ε) → e.rd Z W σ H Q
  | .val e, pn, hz, W, σ, ε, G, H, A, Q, o, h => by
    unfold T.run at h
    refine E.sound e hz o (Post.bd0 oPost h fun x ε1 v G1 H1 A1 a1 r1 h1 => ?_)
    split at h1
    · cases (show v = V.bl _ from r1)
      exact ⟨_, rfl, h1 _ _ _ _ (Aft.refl a1.ok) rfl⟩
    · exact h1.elim
  | .tru e, pn, hz, W, σ, ε, G, H, A, Q, o, h => by
    unfold T.run at h
    refine E.sound e hz o (Post.bd0 oPost h fun x ε1 v G1 H1 A1 a1 r1 h1 => ?_)
    obtain ⟨b, q, k⟩ := Post.ofA h1
    exact ⟨b, tru_sound q a1.ok.ex (.inl r1), k _ _ _ _ (Aft.refl a1.ok) rfl⟩
  | .truo P, pn, hz, W, σ, ε, G, H, A, Q, o, h => by
    unfold T.run at h
    refine odP_sound hz o (Post.bd0 oPost h fun x ε1 v G1 H1 A1 a1 r1 h1 => ?_)
    obtain ⟨b, q, k⟩ := Post.ofA h1
    obtain ⟨d, q1, q2⟩ := Option.bind_eq_some_iff.mp q
    exact ⟨b, tru_sound q2 a1.ok.ex (vw_rq hz.kd a1.ok r1 q1), k _ _ _ _ (Aft.refl a1.ok) rfl⟩
  | .and a b, pn, hz, W, σ, ε, G, H, A, Q, o, h => by
    unfold T.run at h
    refine T.sound a hz o (Post.bd0 oPost h fun x ε1 v G1 H1 A1 a1 r1 h1 => ?_)
    cases (show x = v from r1)
    cases x with
    | true => rw [if_pos rfl] at h1 ⊢; exact T.sound b hz a1.ok h1
    | false => rw [if_neg Bool.false_ne_true] at h1 ⊢; exact h1 _ _ _ _ (Aft.refl a1.ok) rfl
  | .or a b, pn, hz, W, σ, ε, G, H, A, Q, o, h => by
    unfold T.run at h
    refine T.sound a hz o (Post.bd0 oPost h fun x ε1 v G1 H1 A1 a1 r1 h1 => ?_)
    cases (show x = v from r1)
    cases x with
    | true => rw [if_pos rfl] at h1 ⊢; exact h1 _ _ _ _ (Aft.refl a1.ok) rfl
    | false => rw [if_neg Bool.false_ne_true] at h1 ⊢; exact T.sound b hz a1.ok h1
  | .not a, pn, hz, W, σ, ε, G, H, A, Q, o, h => by
    unfold T.run at h
    refine T.sound a hz o (Post.bd0 oPost h fun x ε1 v G1 H1 A1 a1 r1 h1 => ?_)
    cases (show x = v from r1)
    exact h1 _ _ _ _ (Aft.refl a1.ok) rfl
theorem Ts.sound {c : Cn} : ∀ (e : Ts) {pn : Pin} (hz : Z.Fine c pn) {W : WX} {σ : L2.St} {ε : En} {G H : Hp} {A : List Addr} {Q : Bool → Hp → Prop}, Ok Z.K pn σ ε G H A → Post Z W pn σ ε G H A IdP Q (e.run c pn.io ε) → e.rd Z W σ H Q
  | .nil, pn, hz, W, σ, ε, G, H, A, Q, o, h => by
    unfold Ts.run at h
    exact h _ _ _ _ (Aft.refl o) rfl
  | .one t, pn, hz, W, σ, ε, G, H, A, Q, o, h => by
    unfold Ts.run at h
    exact T.sound t hz o h
theorem It.sound {c : Cn} : ∀ (e : It) {pn : Pin} (hz : Z.Fine c pn) {W : WX} {σ : L2.St} {ε : En} {G H : Hp} {A : List Addr} {Q : L2.It → Hp → Prop}, Ok Z.K pn σ ε G H A → Post Z W pn σ ε G H A (fun (a : Itm) J G H => Wk Z.K a.2.isSome a.1 J G H) Q (e.run c pn.io ε) → e.rd Z W σ H Q
  | .lst e, pn, hz, W, σ, ε, G, H, A, Q, o, h => by
    unfold It.run at h
    refine E.sound e hz o (Post.bd0 oPost h fun x ε1 v G1 H1 A1 a1 r1 h1 => ?_)
    split at h1
    · obtain ⟨p, vs, rfl, p1, p2⟩ := r1
      exact ⟨p, rfl, ⟨vs, SqL.of (a1.ok.ex _ _ p1)⟩, h1 _ _ _ _ (Aft.refl a1.ok) (wk_list (SqL.of p1) p2)⟩
    · obtain ⟨p, vs, rfl, p1, p2⟩ := r1
      exact ⟨p, rfl, ⟨vs, ex_l a1.ok.ex p1⟩, h1 _ _ _ _ (Aft.refl a1.ok) (wk_list p1 p2)⟩
    · exact h1.elim
  | .tup e, pn, hz, W, σ, ε, G, H, A, Q, o, h => by
    unfold It.run at h
    refine E.sound e hz o (Post.bd0 oPost h fun x ε1 v G1 H1 A1 a1 r1 h1 => ?_)
    split at h1
    · obtain ⟨p, vs, rfl, p1, p2⟩ := r1
      exact ⟨p, rfl, ⟨vs, (p1.mono a1.ok.ex).sq⟩, h1 _ _ _ _ (Aft.refl a1.ok) (wk_tup p1.sq p2)⟩
    · exact h1.elim
  | .str e, pn, hz, W, σ, ε, G, H, A, Q, o, h => by
    unfold It.run at h
    refine E.sound e hz o (Post.bd0 oPost h fun x ε1 v G1 H1 A1 a1 r1 h1 => ?_)
    split at h1
    · cases (show v = V.str _ from r1)
      exact ⟨_, rfl, h1 _ _ _ _ (Aft.refl a1.ok) wk_str⟩
    · exact h1.elim
  | .r1 a, pn, hz, W, σ, ε, G, H, A, Q, o, h => by
    unfold It.run at h
    refine E.sound a hz o (Post.bd0 oPost h fun x ε1 v G1 H1 A1 a1 r1 h1 => ?_)
    split at h1
    · rename_i i
      split at h1
      · rename_i hs
        unfold small at hs
        rw [Bool.and_eq_true] at hs
        cases (show v = V.int _ from r1)
        refine ⟨i, rfl, of_decide_eq_true hs.1, of_decide_eq_true hs.2, h1 _ _ _ _ (Aft.refl a1.ok) ?_⟩
        have := wk_rng (K := Z.K) (pl := false) (G := G1) (H := H1) (a := 0) (b := i)
        rw [Int.sub_zero] at this
        exact this
      · exact h1.elim
    · exact h1.elim
  | .r2 a b, pn, hz, W, σ, ε, G, H, A, Q, o, h => by
    unfold It.run at h
    refine E.sound a hz o (Post.bd0 oPost h fun x ε1 v G1 H1 A1 a1 r1 h1 => ?_)
    refine E.sound b hz a1.ok (Post.bd0 oPost h1 fun y ε2 u G2 H2 A2 a2 r2 h2 => ?_)
    split at h2
    · rename_i i j
      split at h2
      · rename_i hs
        unfold small at hs
        rw [Bool.and_eq_true, Bool.and_eq_true, Bool.and_eq_true] at hs
        cases (show v = V.int _ from r1)
        cases (show u = V.int _ from r2)
        exact ⟨i, j, rfl, ⟨of_decide_eq_true hs.1.1, of_decide_eq_true hs.1.2, of_decide_eq_true hs.2.1, of_decide_eq_true hs.2.2⟩, h2 _ _ _ _ (Aft.refl a2.ok) wk_rng⟩
      · exact h2.elim
    · exact h2.elim
  | .any e, pn, hz, W, σ, ε, G, H, A, Q, o, h => by
    unfold It.run at h
    refine E.sound e hz o (Post.bd0 oPost h fun x ε1 v G1 H1 A1 a1 r1 h1 => ?_)
    split at h1
    · obtain ⟨p, vs, rfl, p1, p2⟩ := r1
      exact ⟨p, rfl, .inl ⟨⟨vs, SqL.of (a1.ok.ex _ _ p1)⟩, h1 _ _ _ _ (Aft.refl a1.ok) (wk_list (SqL.of p1) p2)⟩⟩
    · obtain ⟨p, vs, rfl, p1, p2⟩ := r1
      exact ⟨p, rfl, .inr ⟨⟨vs, (p1.mono a1.ok.ex).sq⟩, h1 _ _ _ _ (Aft.refl a1.ok) (wk_tup p1.sq p2)⟩⟩
    · exact h1.elim
  | .rev e, pn, hz, W, σ, ε, G, H, A, Q, o, h => by
    unfold It.run at h
    refine E.sound e hz o (Post.bd0 oPost h fun x ε1 v G1 H1 A1 a1 r1 h1 => ?_)
    split at h1
    · obtain ⟨p, vs, rfl, p1, p2⟩ := r1
      exact ⟨p, vs, rfl, .inl ⟨SqL.of (a1.ok.ex _ _ p1), h1 _ _ _ _ (Aft.refl a1.ok) (wk_rev (SqL.of p1) p2)⟩⟩
    · obtain ⟨p, vs, rfl, p1, p2⟩ := r1
      exact ⟨p, vs, rfl, .inr ⟨(p1.mono a1.ok.ex).sq, h1 _ _ _ _ (Aft.refl a1.ok) (wk_revT p1.sq p2)⟩⟩
    · exact h1.elim
  | .keys m, pn, hz, W, σ, ε, G, H, A, Q, o, h => by
    unfold It.run at h
    refine M.sound m hz o (FPost.bd oPost h fun s ε1 v G1 H1 A1 B a1 hv ho hn hb h1 => ?_)
    split at h1
    · split at h1
      · rename_i hc
        rw [Bool.and_eq_true, Bool.not_eq_true'] at hc
        obtain ⟨p, kr, vs, rfl, rfl, hD, hk, hr⟩ := hv
        obtain ⟨kv, d1, d2, d3, d4⟩ := dictF hD hc.1
        have gp := (hb p (by simp)).1
        have np : p ∉ A1 := fun z => (List.nodup_append.mp hn).2.2 p z p (by simp) rfl
        refine ⟨p, .dK kv, rfl, d1, trivial, fun od => ⟨p, od, rfl, .inl ⟨kv, upd_same, ?_⟩⟩⟩
        have ah : ∀ a u, a ∉ A → H a = some u → (upd H1 p (.frz od (.dK kv))) a = some u := fun a u n e => by
          rw [upd_ne fun z => ?_]
          · exact a1.h a u n e
          · rcases (hb p (by simp)).2 with y | y
            · exact n (z ▸ y)
            · rw [z, y] at e
              cases e
        have az : pn.fz = true → Ex H (upd H1 p (.frz od (.dK kv))) := fun z => by
          have hf : pn.fz = false := hc.2
          rw [hf] at z
          cases z
        have a2 : Aft Z.K pn σ ε G H A σ ε1 G1 (upd H1 p (.frz od (.dK kv))) A1 := ⟨a1.ok.upd gp np, a1.g, ah, a1.f, a1.w, az⟩
        exact h1 _ _ _ _ (a2.freeze hn hb) (wk_keys (by rw [frzG_in (by simp)]; exact upd_same) d2)
      · exact h1.elim
    · exact h1.elim
  | .own P, pn, hz, W, σ, ε, G, H, A, Q, o, h => by
    unfold It.run at h
    cases e : P.res ε with
    | none => rw [e] at h; exact h.elim
    | some rp =>
      rw [e] at h
      dsimp only at h
      split at h
      · rename_i ds e2
        obtain ⟨v0, p, vs, f1, f2, f3, f4, _⟩ := put_ls hz.kd o e2
        exact pa_read hz o e f1 f2 ⟨p, rfl, ⟨vs, SqL.of f3⟩, h _ G H A (Aft.refl o) (wk_own f3 f4)⟩
      · rename_i ds e2
        obtain ⟨v0, u, B, R, f1, f2, f3, _⟩ := o.focus hz.kd e2 ⟨(fun z => nomatch z), fun z => nomatch z⟩
        obtain ⟨_, p, vs, rfl, p1, p2⟩ := f3
        exact pa_read hz o e f1 f2 ⟨p, rfl, ⟨vs, SqL.of (o.ex _ _ p1)⟩, h _ G H A (Aft.refl o) (wk_list (SqL.of p1) p2)⟩
      · exact h.elim
theorem M.sound {c : Cn} : ∀ (e : M) {pn : Pin} (hz : Z.Fine c pn) {W : WX} {σ : L2.St} {ε : En} {G H : Hp} {A : List Addr} {Q : VK}, Ok Z.K pn σ ε G H A → FPost Z W pn σ ε G H A Q (e.run c pn.io ε) → e.rd Z W σ H Q
  | .lst es, pn, hz, W, σ, ε, G, H, A, Q, o, h => by
    unfold M.run at h
    refine Es.sound es hz o (Post.bd0 oFPost h fun xs ε1 vs G1 H1 A1 a1 r1 h1 => ?_)
    split at h1
    · rename_i hl
      exact ⟨by rw [Rps.length _ _ r1]; exact sz_line hl, fun p hp => FPost.new a1.ok h1 hp ⟨p, vs, rfl, rfl, upd_same, r1⟩ rfl⟩
    · exact h1.elim
  | .dct ps, pn, hz, W, σ, ε, G, H, A, Q, o, h => by
    unfold M.run at h
    cases ps with
    | nil =>
      intro p hp
      refine FPost.new o (show FPost Z W pn σ ε G H A Q (.ok (.dk [] []) ε) from ?_) hp ⟨p, [], [], rfl, rfl, dcAt_nil upd_same, rfl, rfl⟩ rfl
      unfold Ps.run at h
      have h2 : FPost Z W pn σ ε G H A Q (if ([] : List (D × D)).length ≤ 15 ∧ (([] : List (D × D)).all fun q => isF q.1) = true then R.ok (.dk [] []) ε else .no) := h
      rw [if_pos ⟨by decide, rfl⟩] at h2
      exact h2
    | cons k e r =>
      intro p hp
      obtain ⟨a0, gp, np⟩ := Aft.new o (u := .dK []) hp
      refine Ps.sound (.cons k e r) hz a0.ok (Post.bdS oFPost a0 h fun kvs ε1 ws G1 H1 A1 a1 r1 h1 => ?_)
      split at h1
      · rename_i hc
        have hD : H1 p = some (.dK []) := a1.h _ _ np upd_same
        have np1 : p ∉ A1 := fun z => by
          rcases a1.w p z with y | y
          · exact np y
          · rw [upd_same] at y; cases y
        have gp1 : G1 p = none := a1.f p np gp (by rw [upd_same]; exact ⟨(fun z => nomatch z), fun _ z => nomatch z⟩)
        obtain ⟨kw, w1, ks', ds', w2, w3⟩ := DkR.fold (H := H1) kvs ws [] [] [] ⟨List.nodup_nil, rfl, rfl, rfl⟩ r1
        refine ⟨hD, kw, w1, ?_, ?_⟩
        · have := r1.1
          rw [w1, List.length_map] at this
          omega
        · have h1 : FPost Z W pn σ ε G H A Q (.ok (kvs.foldl dkFold (.dk [] [])) ε1) := h1
          rw [w2] at h1
          have a01 := a0.trans a1
          refine h1 (.ref p) G1 _ A1 [p] ⟨a01.ok.upd gp1 np1, a01.g, fun a q n e => by rw [upd_ne (ne_of_none e hp)]; exact a01.h a q n e, a01.f, a01.w, fun z a q e => by rw [upd_ne (ne_of_none e hp)]; exact a01.z z a q e⟩ ⟨p, _, _, rfl, rfl, DkR.at w3 upd_same, w3.2.2.1, w3.2.2.2⟩ rfl (List.nodup_append.mpr ⟨a1.ok.nd, by simp, fun x hx y hy z => ?_⟩) fun b hb => ?_
          · rw [List.mem_singleton.mp hy] at z
            exact np1 (z ▸ hx)
          · rw [List.mem_singleton.mp hb]
            exact ⟨gp1, .inr hp⟩
      · exact h1.elim
  | .cat a b, pn, hz, W, σ, ε, G, H, A, Q, o, h => by
    unfold M.run at h
    refine Od.sound a hz o (Post.bd0 oFPost h fun x ε1 v G1 H1 A1 a1 r1 h1 => ?_)
    rw [← fzd_io] at h1
    refine Od.sound b hz.fzd a1.ok.fzd (Post.bd oFPost h1 fun y ε2 u G2 H2 A2 a2 r2 h2 => ?_)
    cases q : ((x.vw ε2).bind fun u => (y.vw ε2).bind fun v => Op2.add.run u v) with
    | none => rw [q] at h2; exact h2.elim
    | some d =>
      rw [q] at h2
      cases d with
      | lst ds =>
        obtain ⟨d1, e1, e⟩ := Option.bind_eq_some_iff.mp q
        obtain ⟨d2, e2, e⟩ := Option.bind_eq_some_iff.mp e
        exact cat_new e a2.ok.ex (vw_rq hz.kd a2.ok (r1.aft a2) e1) (vw_rq hz.kd a2.ok r2 e2) fun p us hp r => FPost.new a2.unfz.ok h2 hp ⟨p, us, rfl, rfl, upd_same, r⟩ rfl
      | _ => exact h2.elim
  | .slc a lo hi, pn, hz, W, σ, ε, G, H, A, Q, o, h => by
    unfold M.run at h
    refine E.sound a hz o (Post.bd0 oFPost h fun x ε1 v G1 H1 A1 a1 r1 h1 => ?_)
    refine OE.sound lo hz a1.ok (Post.bd0 oFPost h1 fun l ε2 l' G2 H2 A2 a2 r2 h2 => ?_)
    refine OE.sound hi hz a2.ok (Post.bd0 oFPost h2 fun u ε3 u' G3 H3 A3 a3 r3 h3 => ?_)
    cases (show l = l' from r2)
    cases (show u = u' from r3)
    cases q : sliceD x l u with
    | none => rw [q] at h3; exact h3.elim
    | some d =>
      rw [q] at h3
      cases d with
      | lst ds => exact slc_new q a3.ok.ex (.inl (Rp.mono (a2.g.trans a3.g) _ _ r1)) fun p us hp r => FPost.new a3.ok h3 hp ⟨p, us, rfl, rfl, upd_same, r⟩ rfl
      | _ => exact h3.elim
  | .bif b es, pn, hz, W, σ, ε, G, H, A, Q, o, h => by
    unfold M.run at h
    refine Es.sound es hz o (Post.bd0 oFPost h fun xs ε1 vs G1 H1 A1 a1 r1 h1 => ?_)
    cases q : b.run xs with
    | none => rw [q] at h1; exact h1.elim
    | some d =>
      rw [q] at h1
      cases d with
      | lst ds => exact bif_new q a1.ok.ex (Rqs.of _ _ r1) fun p us hp r => FPost.new a1.ok h1 hp ⟨p, us, rfl, rfl, upd_same, r⟩ rfl
      | _ => exact h1.elim
  | .bifo b as, pn, hz, W, σ, ε, G, H, A, Q, o, h => by
    unfold M.run at h
    refine As.sound as hz o (APost.bd0 oFPost h fun xs ε1 vs G1 H1 A1 T a1 r1 hn hT h1 => ?_)
    cases q : ((xs.mapM (Ar.vw ε1)).bind fun ys => b.run ys) with
    | none => rw [q] at h1; exact h1.elim
    | some d =>
      rw [q] at h1
      cases d with
      | lst ds =>
        obtain ⟨ys, e1, e⟩ := Option.bind_eq_some_iff.mp q
        exact bif_new e a1.ok.ex (args_rqs hz.kd a1.ok xs r1 e1) fun p us hp r => FPost.new a1.ok (FPost.shift a1 h1) hp ⟨p, us, rfl, rfl, upd_same, r⟩ rfl
      | _ => exact h1.elim
  | .call f as, pn, hz, W, σ, ε, G, H, A, Q, o, h => by
    unfold M.run at h
    refine As.sound as hz o (APost.bd0 oFPost h fun xs ε1 vs G1 H1 A1 T a1 r1 hn hT h1 => ?_)
    rw [List.append_nil]
    refine call_sound hz a1 r1 hn hT (CPost.bd oFPost h1 fun r ε2 v G2 H2 A2 a2 ro h2 => ?_)
    split at h2
    · rename_i hs
      obtain ⟨B, b1, b2, b3⟩ := ret_ow ro hs
      exact h2 v G2 H2 A2 B a2 b1 hs b2 b3
    · exact h2.elim
  | .meth P m as, pn, hz, W, σ, ε, G, H, A, Q, o, h => by
    unfold M.run at h
    cases e : P.res ε with
    | none => rw [e] at h; exact h.elim
    | some rp =>
      rw [e] at h
      dsimp only at h
      split at h
      · rename_i cl fn fv e2
        rw [hz.mt] at h
        cases q : Z.mt cl m with
        | none => rw [q] at h; exact h.elim
        | some f =>
          rw [q] at h
          dsimp only at h
          obtain ⟨v0, u, B, R, f1, f2, f3, _⟩ := o.focus hz.kd e2 ⟨(fun z => nomatch z), fun z => nomatch z⟩
          obtain ⟨p, dx, fs, C, rfl, rfl, g1, g2, g3, g4, g5⟩ := f3
          refine pa_read hz o e f1 f2 ⟨p, cl, dx, fs, f, rfl, g1, q, mf_none hz q g3 g4, ?_⟩
          rw [← fzd_io] at h
          refine As.sound as hz.fzd o.fzd (APost.bd oFPost h fun xs ε1 vs G1 H1 A1 T a1 r1 hn hT h1 => ?_)
          have rr : ArP Z.K σ (.p rp) (.ref p) G1 H1 := ArP.aft (x := .p rp) (G1 := G) (H1 := H) ⟨v0, f1, f2⟩ a1
          refine call_sound hz a1.unfz (args_cons rr r1) hn hT (CPost.bd oFPost h1 fun r ε2 v G2 H2 A2 a2 ro h2 => ?_)
          split at h2
          · rename_i hs
            obtain ⟨B, b1, b2, b3⟩ := ret_ow ro hs
            exact h2 v G2 H2 A2 B a2 b1 hs b2 b3
          · exact h2.elim
      · exact h.elim
  | .metht km m as, pn, hz, W, σ, ε, G, H, A, Q, o, h => by
    unfold M.run at h
    refine M.sound km hz o (FPost.bd oFPost h fun s ε1 v G1 H1 A1 B a1 hv ho hn hb h1 => ?_)
    split at h1
    · rename_i cl fn fv
      rw [hz.mt] at h1
      cases q : Z.mt cl m with
      | none => rw [q] at h1; exact h1.elim
      | some f =>
        rw [q] at h1
        dsimp only at h1
        have hv0 := hv
        obtain ⟨p, dx, fs, C, rfl, _, g1, g2, g3, g4, g5⟩ := hv0
        refine ⟨p, cl, dx, fs, f, rfl, g1, q, mf_none hz q g3 g4, ?_⟩
        refine As.sound as hz a1.ok (APost.bdS oFPost a1 h1 fun xs ε2 vs G2 H2 A2 T a2 r2 hn2 hT2 h2 => ?_)
        obtain ⟨j1, j2, j3⟩ := tmp_join a1 hv hn hb a2 hn2 hT2
        refine call_sound hz (a1.trans a2) (as := .t (.ob cl fn fv) :: xs) ⟨_, vs, B, T, rfl, rfl, j1, r2⟩ j2 j3 (CPost.bd oFPost h2 fun r ε3 v G3 H3 A3 a3 ro h3 => ?_)
        split at h3
        · rename_i hs
          obtain ⟨B, b1, b2, b3⟩ := ret_ow ro hs
          exact h3 v G3 H3 A3 B a3 b1 hs b2 b3
        · exact h3.elim
    · exact h1.elim
  | .new cl as, pn, hz, W, σ, ε, G, H, A, Q, o, h => by
    unfold M.run at h
    rw [hz.ini] at h
    cases q : Z.ini cl with
    | none => rw [q] at h; exact h.elim
    | some f =>
      rw [q] at h
      dsimp only at h
      refine As.sound as hz o (APost.bd0 oFPost h fun xs ε1 vs G1 H1 A1 T a1 r1 hn hT h1 => ⟨f, q, fun x dx hx hdx hne => ?_⟩)
      split at h1
      · rename_i hap
        rw [Bool.and_eq_true] at hap
        cases ht : takeOut ε1 xs with
        | none => rw [ht] at h1; exact h1.elim
        | some z =>
          obtain ⟨εh, ss⟩ := z
          rw [ht] at h1
          dsimp only at h1
          rw [hz.mkc] at h1
          obtain ⟨b1, gdx, ndx⟩ := Aft.new a1.ok (u := HO.own x) hdx
          have hx2 : upd H1 dx (.own x) x = none := by rw [upd_ne (Ne.symm hne)]; exact hx
          obtain ⟨b2, gx, nx⟩ := Aft.new b1.ok (u := HO.ins (Z.K.ca cl) dx []) hx2
          have a2 := (a1.trans b1).trans b2
          have up : ∀ a u, H1 a = some u → upd (upd H1 dx (.own x)) x (.ins (Z.K.ca cl) dx []) a = some u := fun a u e => by
            rw [upd_ne (ne_of_none e hx), upd_ne (ne_of_none e hdx)]; exact e
          have lvT := ArgsP.lv r1
          have nT : ∀ b, H1 b = none → b ∉ T := fun b h z => (lvT b z).1 h
          obtain ⟨n1, n2, n3⟩ := List.nodup_append.mp hn
          have htk : takeOut ε1 (.t (.ob cl [] []) :: xs) = some (εh, .ob cl [] [] :: ss) := by
            show (if isOwS (.ob cl [] []) = true then (takeOut ε1 xs).map fun q => (q.1, Sl.ob cl [] [] :: q.2) else none) = _
            rw [if_pos (show isOwS (.ob cl [] []) = true from rfl), ht]
            rfl
          obtain ⟨B, hin, hout⟩ := call_frame hz.kd a2 (as := .t (.ob cl [] []) :: xs) (vs := .ref x :: vs) (T := [x, dx] ++ T) ⟨.ref x, vs, [x, dx], T, rfl, rfl, ⟨x, dx, [], [], rfl, rfl, upd_same, by rw [upd_ne hne]; exact upd_same, rfl, (fun _ z => nomatch z), rfl, rfl⟩, ArgsP.mono (Ex.refl _) up _ _ _ r1⟩ (by
            refine List.nodup_append.mpr ⟨n1, List.nodup_append.mpr ⟨by simp [Ne.symm hne], n2, fun a ha b hb z => ?_⟩, fun a ha b hb z => ?_⟩
            · subst z
              rcases List.mem_cons.mp ha with z | ha
              · exact nT a (z ▸ hx) hb
              · exact nT a ((List.mem_singleton.mp ha) ▸ hdx) hb
            · subst z
              rcases List.mem_append.mp hb with hb | hb
              · rcases List.mem_cons.mp hb with z | hb
                · exact nx (z ▸ ha)
                · exact ndx ((List.mem_singleton.mp hb) ▸ ha)
              · exact n3 a ha a hb rfl) (fun b hb => by
            rcases List.mem_append.mp hb with hb | hb
            · rcases List.mem_cons.mp hb with z | hb
              · subst z; exact ⟨gx, old_sub a1 (.inr hx)⟩
              · rw [List.mem_singleton.mp hb]; exact ⟨gdx, old_sub a1 (.inr hdx)⟩
            · exact hT b hb) hap.1 (fun z => by
            have h2 := hap.2
            rw [show pn.io.fz = true from z] at h2
            obtain ⟨w1, w2⟩ := allD_T (as := xs) h2 r1
            refine ⟨w2, fun b hb => ?_⟩
            have hb1 : H1 b = none := by
              rw [w1, List.append_nil] at hb
              rcases List.mem_cons.mp hb with z | hb
              · rw [z]; exact hx
              · rw [List.mem_singleton.mp hb]; exact hdx
            cases w : H b with
            | none => rfl
            | some u => rw [a1.z z b u w] at hb1; cases hb1) htk
          refine ⟨?_, G1, _, B, hin, ?_⟩
          · have hl := hin.len
            rw [List.length_map] at hl
            rw [← hl]
            refine hz.arm f _ fun z => ?_
            rw [z] at h1
            exact h1
          · split at h1
            · rename_i s as' w
              rw [show Z.lo.call f (Sl.ob cl [] [] :: ss) = _ from w]
              intro v G' H' A' a ro
              cases (show v = V.non from ro)
              refine ⟨rfl, ?_⟩
              split at h1
              · rename_i hk
                rw [Bool.and_eq_true] at hk
                obtain ⟨A2, o1, _, o3⟩ := hout (s :: as') G' H' A' a (by
                  show ((!isOwS (.ob cl [] []) || isOwS s) && keepOw ss as') = true
                  rw [hk.1, hk.2]
                  rfl)
                obtain ⟨s', ss', v', us, B1, e1, e2, hv, hn2, hb⟩ := o3 _ _ rfl
                cases e1
                cases e2
                exact h1 (.ref x) G' H' A2 B1 o1 hv hk.2 hn2 hb
              · exact h1.elim
            · rename_i y s as' w
              rw [show Z.lo.call f (Sl.ob cl [] [] :: ss) = _ from w]
              intro cls d G' H' A' a xo
              split at h1
              · rename_i hk
                rw [Bool.and_eq_true] at hk
                obtain ⟨A2, o1, _, _⟩ := hout (s :: as') G' H' A' a (by
                  show ((!isOwS (.ob cl [] []) || isOwS s) && keepOw ss as') = true
                  rw [hk.1, hk.2]
                  rfl)
                exact h1 cls d G' H' A2 o1 xo
              · exact h1.elim
            · exact h1.elim
      · exact h1.elim
  | .mov i, pn, hz, W, σ, ε, G, H, A, Q, o, h => by
    unfold M.run at h
    split at h
    · rename_i s e
      split at h
      · rename_i hc
        obtain ⟨v, B, A', t1, t2, t3, t4, t5⟩ := o.take e hc.1 hc.2
        exact ⟨v, t1, h v G H A' B (Aft.sub o t3 fun a ha => t5 a (.inl ha)) t2 hc.1 t4 fun b hb => ⟨o.gn b (t5 b (.inr hb)), .inl (t5 b (.inr hb))⟩⟩
      · exact h.elim
    · exact h.elim
  | .cpd a, pn, hz, W, σ, ε, G, H, A, Q, o, h => by
    unfold M.run at h
    refine Od.sound a hz o (Post.bd0 oFPost h fun x ε1 v G1 H1 A1 a1 r1 h1 => ?_)
    obtain ⟨s, e, k⟩ := FPost.ofA h1
    obtain ⟨d, e1, e2⟩ := Option.bind_eq_some_iff.mp e
    have q := vw_rq hz.kd a1.ok r1 e1
    cases d with
    | dct ks ds =>
      dsimp only at e2
      split at e2
      · rename_i hF
        cases e2
        obtain ⟨p, kr, us, rfl, p1, p2, p3⟩ := q.dct a1.ok.ex
        obtain ⟨kv, d1, d2, d3, d4⟩ := dictV p1 hF
        refine ⟨p, kv, rfl, d1, fun l hl => FPost.new (W := W) a1.ok k hl ⟨l, kr, us, rfl, rfl, .inl ⟨kv, upd_same, d2, d3, d4⟩, p2, p3⟩ rfl⟩
      · cases e2
    | _ => cases e2
  | .srtk f e, pn, hz, W, σ, ε, G, H, A, Q, o, h => by
    unfold M.run at h
    refine E.sound e hz o (Post.bd0 oFPost h fun x ε1 v G1 H1 A1 a1 r1 h1 => ?_)
    exact srtk_sound hz a1.ok r1 h1
  | .lc own p it t e, pn, hz, W, σ, ε, G, H, A, Q, o, h => by
    unfold M.run at h
    refine It.sound it hz o (Post.bd0 oFPost h fun ds ε1 J G1 H1 A1 a1 r1 h1 => ?_)
    split at h1
    · rename_i hc
      cases q : lcRun (pn.fzd ds.2.isSome).io p (t.run c (pn.fzd ds.2.isSome).io) (e.run c (pn.fzd ds.2.isSome).io) own ds.1 (wipeE ε1 own) [] with
      | no => exact (show False from by
          have h2 : FPost Z W pn σ ε1 G1 H1 A1 Q ((lcRun (pn.fzd ds.2.isSome).io p (t.run c (pn.fzd ds.2.isSome).io) (e.run c (pn.fzd ds.2.isSome).io) own ds.1 (wipeE ε1 own) []).noEr.bind fun ys ε2 => .ok (.ls ys) (backE ε1 ε2 own)) := h1
          rw [q] at h2; exact h2).elim
      | er x ε2 => exact (show False from by
          have h2 : FPost Z W pn σ ε1 G1 H1 A1 Q ((lcRun (pn.fzd ds.2.isSome).io p (t.run c (pn.fzd ds.2.isSome).io) (e.run c (pn.fzd ds.2.isSome).io) own ds.1 (wipeE ε1 own) []).noEr.bind fun ys ε2 => .ok (.ls ys) (backE ε1 ε2 own)) := h1
          rw [q] at h2; exact h2).elim
      | ok ys ε2 =>
        have h2 : FPost Z W pn σ ε1 G1 H1 A1 Q ((lcRun (pn.fzd ds.2.isSome).io p (t.run c (pn.fzd ds.2.isSome).io) (e.run c (pn.fzd ds.2.isSome).io) own ds.1 (wipeE ε1 own) []).noEr.bind fun ys ε2 => .ok (.ls ys) (backE ε1 ε2 own)) := h1
        rw [q] at h2
        have h2 : FPost Z W pn σ ε1 G1 H1 A1 Q (.ok (.ls ys) (backE ε1 ε2 own)) := h2
        refine lc_sound (t := t.run c (pn.fzd ds.2.isSome).io) (e := e.run c (pn.fzd ds.2.isSome).io) (fun o h => Ts.sound t hz.fzd o h) (fun o h => E.sound e hz.fzd o h) a1.ok r1 (clear_of hc.1) (fun j hj => List.all_eq_true.mp hc.2.2 j hj) (fun j hj => by
          have := List.all_eq_true.mp hc.2.1 j hj
          simpa using this) q fun Da G' H' A' vs a hD0 hD hr gD nD => ?_
        refine h2 (.ref Da) G' H' A' [Da] a ⟨Da, vs, rfl, rfl, hD, hr⟩ rfl (List.nodup_append.mpr ⟨a.ok.nd, by simp, fun x hx y hy z => ?_⟩) fun b hb => ?_
        · rw [List.mem_singleton.mp hy] at z
          exact nD (z ▸ hx)
        · rw [List.mem_singleton.mp hb]
          exact ⟨gD, .inr hD0⟩
    · exact h1.elim
  | .lcD own p i t e, pn, hz, W, σ, ε, G, H, A, Q, o, h => by
    unfold M.run at h
    split at h
    · rename_i ks ek
      split at h
      · rename_i hc
        have h2 : FPost Z W pn σ ε G H A Q ((lcRun (pn.fzd false).io p (t.run c (pn.fzd false).io) (e.run c (pn.fzd false).io) own ks (wipeE ε own) []).noEr.bind fun ys ε2 => .ok (.ls ys) (backE ε ε2 own)) := h
        cases q : lcRun (pn.fzd false).io p (t.run c (pn.fzd false).io) (e.run c (pn.fzd false).io) own ks (wipeE ε own) [] with
        | no => rw [q] at h2; exact h2.elim
        | er x ε2 => rw [q] at h2; exact h2.elim
        | ok ys ε2 =>
          rw [q] at h2
          have h2 : FPost Z W pn σ ε G H A Q (.ok (.ls ys) (backE ε ε2 own)) := h2
          obtain ⟨p', f1, hh⟩ := dk_data o ek
          rcases hh with ⟨od, kv, g1, g2⟩ | ⟨kv, g1, g2⟩
          · refine .inl ⟨_, f1, p', od, rfl, .inl ⟨kv, o.ex _ _ g1, ?_⟩⟩
            refine lc_sound (pl := false) (t := t.run c (pn.fzd false).io) (e := e.run c (pn.fzd false).io) (fun o h => Ts.sound t hz.fzd o h) (fun o h => E.sound e hz.fzd o h) o (wk_keys g1 g2) (clear_of hc.1) (fun j hj => List.all_eq_true.mp hc.2.2 j hj) (fun j hj => by
            have := List.all_eq_true.mp hc.2.1 j hj
            simpa using this) q fun Da G' H' A' vs a hD0 hD hr gD nD => ?_
            refine h2 (.ref Da) G' H' A' [Da] a ⟨Da, vs, rfl, rfl, hD, hr⟩ rfl (List.nodup_append.mpr ⟨a.ok.nd, by simp, fun x hx y hy z => ?_⟩) fun b hb => ?_
            · rw [List.mem_singleton.mp hy] at z
              exact nD (z ▸ hx)
            · rw [List.mem_singleton.mp hb]
              exact ⟨gD, .inr hD0⟩
          · refine .inr ⟨p', _, o.ex _ _ g1, trivial, fun od => ⟨_, f1, p', od, rfl, .inl ⟨kv, upd_same, ?_⟩⟩⟩
            have hz' : Z.Fine c (pn.lk p' (.frz od (.dK kv))) := fine_lk hz o g1
            refine lc_sound (pl := false) (t := t.run c (pn.fzd false).io) (e := e.run c (pn.fzd false).io) (pn := pn.lk p' (.frz od (.dK kv))) (Q := fun v H' => H' p' = some (.frz od (.dK kv)) ∧ Q v (upd H' p' (.dK kv))) (fun o h => Ts.sound t hz'.fzd o h) (fun o h => E.sound e hz'.fzd o h) (ok_lock o g1) (wk_keys upd_same g2) (clear_of hc.1) (fun j hj => List.all_eq_true.mp hc.2.2 j hj) (fun j hj => by
            have := List.all_eq_true.mp hc.2.1 j hj
            simpa using this) q fun Da G' H' A' vs a hD0 hD hr gD nD => ?_
            obtain ⟨b1, b2, b3⟩ := aft_unlock o g1 a
            have nP : Da ≠ p' := fun z => by rw [z, upd_same] at hD0; cases hD0
            refine ⟨b2, h2 (.ref Da) _ _ A' [Da] b3 ⟨Da, vs, rfl, rfl, by rw [upd_ne nP]; exact hD, Rps.monoV (exV_unlock b1) _ _ hr⟩ rfl (List.nodup_append.mpr ⟨a.ok.nd, by simp, fun x hx y hy z => ?_⟩) fun b hb => ?_⟩
            · rw [List.mem_singleton.mp hy] at z
              exact nD (z ▸ hx)
            · rw [List.mem_singleton.mp hb]
              exact ⟨by rw [upd_ne nP]; exact gD, .inr (by rw [upd_ne nP] at hD0; exact hD0)⟩
      · exact h.elim
    · exact h.elim
  | .dcD own p i t k e, pn, hz, W, σ, ε, G, H, A, Q, o, h => by
    unfold M.run at h
    split at h
    · rename_i ks ek
      split at h
      · rename_i hc
        have h2 : FPost Z W pn σ ε G H A Q ((dcRun (pn.fzd false).io p (t.run c (pn.fzd false).io) (k.run c (pn.fzd false).io) (e.run c (pn.fzd false).io) own ks (wipeE ε own) [] []).noEr.bind fun ys ε2 => .ok (.dk ys.1 ys.2) (backE ε ε2 own)) := h
        cases q : dcRun (pn.fzd false).io p (t.run c (pn.fzd false).io) (k.run c (pn.fzd false).io) (e.run c (pn.fzd false).io) own ks (wipeE ε own) [] [] with
        | no => rw [q] at h2; exact h2.elim
        | er x ε2 => rw [q] at h2; exact h2.elim
        | ok ys ε2 =>
          rw [q] at h2
          have h2 : FPost Z W pn σ ε G H A Q (.ok (.dk ys.1 ys.2) (backE ε ε2 own)) := h2
          obtain ⟨p', f1, hh⟩ := dk_data o ek
          rcases hh with ⟨od, kv, g1, g2⟩ | ⟨kv, g1, g2⟩
          · refine .inl ⟨_, f1, p', od, rfl, .inl ⟨kv, o.ex _ _ g1, ?_⟩⟩
            refine dc_sound (pl := false) (t := t.run c (pn.fzd false).io) (kk := k.run c (pn.fzd false).io) (e := e.run c (pn.fzd false).io) (fun o h => Ts.sound t hz.fzd o h) (fun o h => E.sound k hz.fzd o h) (fun o h => E.sound e hz.fzd o h) o (wk_keys g1 g2) (clear_of hc.1) (fun j hj => List.all_eq_true.mp hc.2.2 j hj) (fun j hj => by
            have := List.all_eq_true.mp hc.2.1 j hj
            simpa using this) q fun Da G' H' A' kr vs a hD0 hD hk hr gD nD => ?_
            refine h2 (.ref Da) G' H' A' [Da] a ⟨Da, kr, vs, rfl, rfl, hD, hk, hr⟩ rfl (List.nodup_append.mpr ⟨a.ok.nd, by simp, fun x hx y hy z => ?_⟩) fun b hb => ?_
            · rw [List.mem_singleton.mp hy] at z
              exact nD (z ▸ hx)
            · rw [List.mem_singleton.mp hb]
              exact ⟨gD, .inr hD0⟩
          · refine .inr ⟨p', _, o.ex _ _ g1, trivial, fun od => ⟨_, f1, p', od, rfl, .inl ⟨kv, upd_same, ?_⟩⟩⟩
            have hz' : Z.Fine c (pn.lk p' (.frz od (.dK kv))) := fine_lk hz o g1
            refine dc_sound (pl := false) (t := t.run c (pn.fzd false).io) (kk := k.run c (pn.fzd false).io) (e := e.run c (pn.fzd false).io) (pn := pn.lk p' (.frz od (.dK kv))) (Q := fun v H' => H' p' = some (.frz od (.dK kv)) ∧ Q v (upd H' p' (.dK kv))) (fun o h => Ts.sound t hz'.fzd o h) (fun o h => E.sound k hz'.fzd o h) (fun o h => E.sound e hz'.fzd o h) (ok_lock o g1) (wk_keys upd_same g2) (clear_of hc.1) (fun j hj => List.all_eq_true.mp hc.2.2 j hj) (fun j hj => by
            have := List.all_eq_true.mp hc.2.1 j hj
            simpa using this) q fun Da G' H' A' kr vs a hD0 hD hk hr gD nD => ?_
            obtain ⟨b1, b2, b3⟩ := aft_unlock o g1 a
            have nP : Da ≠ p' := fun z => by rw [z, upd_same] at hD0; cases hD0
            refine ⟨b2, h2 (.ref Da) _ _ A' [Da] b3 ⟨Da, kr, vs, rfl, rfl, hD.at fun o q => by rw [upd_ne nP]; exact q, Rps.monoV (exV_unlock b1) _ _ hk, Rps.monoV (exV_unlock b1) _ _ hr⟩ rfl (List.nodup_append.mpr ⟨a.ok.nd, by simp, fun x hx y hy z => ?_⟩) fun b hb => ?_⟩
            · rw [List.mem_singleton.mp hy] at z
              exact nD (z ▸ hx)
            · rw [List.mem_singleton.mp hb]
              exact ⟨by rw [upd_ne nP]; exact gD, .inr (by rw [upd_ne nP] at hD0; exact hD0)⟩
      · exact h.elim
    · exact h.elim
  | .dc own p it t k e, pn, hz, W, σ, ε, G, H, A, Q, o, h => by
    unfold M.run at h
    refine It.sound it hz o (Post.bd0 oFPost h fun ds ε1 J G1 H1 A1 a1 r1 h1 => ?_)
    split at h1
    · rename_i hc
      have h2 : FPost Z W pn σ ε1 G1 H1 A1 Q ((dcRun (pn.fzd ds.2.isSome).io p (t.run c (pn.fzd ds.2.isSome).io) (k.run c (pn.fzd ds.2.isSome).io) (e.run c (pn.fzd ds.2.isSome).io) own ds.1 (wipeE ε1 own) [] []).noEr.bind fun ys ε2 => .ok (.dk ys.1 ys.2) (backE ε1 ε2 own)) := h1
      cases q : dcRun (pn.fzd ds.2.isSome).io p (t.run c (pn.fzd ds.2.isSome).io) (k.run c (pn.fzd ds.2.isSome).io) (e.run c (pn.fzd ds.2.isSome).io) own ds.1 (wipeE ε1 own) [] [] with
      | no => rw [q] at h2; exact h2.elim
      | er x ε2 => rw [q] at h2; exact h2.elim
      | ok ys ε2 =>
        rw [q] at h2
        have h2 : FPost Z W pn σ ε1 G1 H1 A1 Q (.ok (.dk ys.1 ys.2) (backE ε1 ε2 own)) := h2
        refine dc_sound (t := t.run c (pn.fzd ds.2.isSome).io) (kk := k.run c (pn.fzd ds.2.isSome).io) (e := e.run c (pn.fzd ds.2.isSome).io) (fun o h => Ts.sound t hz.fzd o h) (fun o h => E.sound k hz.fzd o h) (fun o h => E.sound e hz.fzd o h) a1.ok r1 (clear_of hc.1) (fun j hj => List.all_eq_true.mp hc.2.2 j hj) (fun j hj => by
          have := List.all_eq_true.mp hc.2.1 j hj
          simpa using this) q fun Da G' H' A' kr vs a hD0 hD hk hr gD nD => ?_
        refine h2 (.ref Da) G' H' A' [Da] a ⟨Da, kr, vs, rfl, rfl, hD, hk, hr⟩ rfl (List.nodup_append.mpr ⟨a.ok.nd, by simp, fun x hx y hy z => ?_⟩) fun b hb => ?_
        · rw [List.mem_singleton.mp hy] at z
          exact nD (z ▸ hx)
        · rw [List.mem_singleton.mp hb]
          exact ⟨gD, .inr hD0⟩
    · exact h1.elim
theorem Ps.sound {c : Cn} : ∀ (e : Ps) {pn : Pin} (hz : Z.Fine c pn) {W : WX} {σ : L2.St} {ε : En} {G H : Hp} {A : List Addr} {Q : List (V × V) → Hp → Prop}, Ok Z.K pn σ ε G H A → Post Z W pn σ ε G H A (PsP Z.K) Q (e.run c pn.io ε) → tPairs (e.rd Z W) σ H Q
  | .nil, pn, hz, W, σ, ε, G, H, A, Q, o, h => by
    unfold Ps.run at h
    exact h [] G H A (Aft.refl o) ⟨rfl, fun i q e => by simp at e⟩
  | .cons k e r, pn, hz, W, σ, ε, G, H, A, Q, o, h => by
    unfold Ps.run at h
    split at h
    · rename_i hF
      refine E.sound e hz o (Post.bd0 oPost h fun x ε1 v G1 H1 A1 a1 r1 h1 => ?_)
      refine Ps.sound r hz a1.ok (Post.bd0 oPost h1 fun xs ε2 vs G2 H2 A2 a2 r2 h2 => ?_)
      refine h2 _ _ _ _ (Aft.refl a2.ok) ⟨by rw [List.length_cons, List.length_cons, r2.1], fun i q hi => ?_⟩
      cases i with
      | zero => cases hi; exact ⟨hF, v, rfl, Rp.mono a2.g _ _ r1⟩
      | succ i => exact r2.2 i q hi
    · exact h.elim
end
end
end Mq
/-! A mini language over HandS, 15: rules for errors of the program's own. -/
namespace Mq
open PySem L2 PyProof.Rows
section
variable {X : Cx}
/-- B.__init__(self, ..), B a class of the program that has its base's maker -/
theorem pe_binit {pl : Sem Bool} {b : Str} {B : Addr} {e1 : Expr} {es1 : List Expr} {ta1 : TA} {q1 q2 q3 : Pos} (hg : Gl X b) (hm : X.mg b = some (.ref B)) (rd : PySem.W.readsIn X.K B (.type "type") = true)
    (ga : PySem.W.specialIn X.K (.ref B) "__getattribute__" = some (some (.builtin "type.__getattribute__"))) (vV : PySem.W.findCls X.K (.ref B) (.type "type") "__init__" = some (.val (.builtin "ValueError.__init__"))) (ha1 : PA X (e1 :: es1) ta1)
    (hdb : (b == ("__debug__" : Str)) = false := by decide)
    (hc1 : eval (.Call (.Attribute (.Name b q1) "__init__" q2) (e1 :: es1) [] q3) X.env = (do
      let base ← eval (.Name b q1) X.env
      standAt q2.atName
      let (g, fst) ← holding [base] (getMethod base "__init__" pl)
      callWith q3 g fst (backTo q3 (starEach (e1 :: es1) X.env)) (backToKw q3 (keywordEach [] X.env))) := by rfl)
    (he1 : starEach (e1 :: es1) X.env = (false, eval e1 X.env) :: starEach es1 X.env := by rfl) (hpl1 : (backTo q3 (starEach es1 X.env)).any (·.1) = false := by rfl) :
    PE X (.Call (.Attribute (.Name b q1) "__init__" q2) (e1 :: es1) [] q3) (tVeI X.K ta1) := by
  refine ⟨fun pns st τ Hh Qq J hh => ?_⟩
  refine PySem.W.methodCall_KW (ld_glob J hg hm ?_ hdb) hc1
  refine PySem.W.method_cls J.kIn ga (PySem.W.cls_value J.kIn rd vV (by decide +kernel) ?_)
  refine PyProof.Rows.callWith_method1 (thn (ha1.run q3 pns _ τ Hh _ (J.tok _) hh) fun ws st1 ⟨vs, Hh1, J1, rr, a, Cc, zs, ev, hl, Tt, ea, qq⟩ => ?_) he1 hpl1
  subst ev
  cases rr with
  | @cons _ w0 _ wr ra1 rw1 =>
    obtain rfl : w0 = Value.ref a := ra1
    have hlen : wr.length ≤ sizeLine := by
      rw [← Paired.length rw1, sizeLine_eq]
      omega
    exact oinit_ok Tt J1 ea hlen fun st2 J2 => ⟨.non, Hh1, J2, rfl, qq⟩
end
/-! ### try with several clauses, each with a name -/
abbrev TSX := Addr → Value → Option Addr → TS
def endsNo (D : Ends) (i : Nat) : Ends := { nx := fun τ Hh => D.nx (τ.set i none) Hh, rt := D.rt, bk := fun τ Hh => D.bk (τ.set i none) Hh, ct := fun τ Hh => D.ct (τ.set i none) Hh }
def wAll (K : PySem.W.Frag) (Wo : WX) (D : Ends) : List (Value × Nat × TSX) → WX
  | [] => Wo
  | (c, i, ts) :: r => fun cls d τ Hh => ∃ b, PySem.W.exmOne K cls c = some b ∧ (b = true → ∀ a, Hh a = none → ts a cls d (endsNo D i) (τ.set i (some (.ref a))) Hh) ∧ (b = false → wAll K Wo D r cls d τ Hh)
inductive HdA (X : Cx) : List ExceptHandler → List (Value × Nat × TSX) → Prop
  | nil : HdA X [] []
  | cons {x n : Str} {c : Value} {i : Nat} {ts : TSX} {st0 : Stmt} {sts : List Stmt} {q1 q2 : Pos} {hh : List ExceptHandler} {l : List (Value × Nat × TSX)} (hi : X.N[i]? = some n) (hln : X.env.kindOf n = some .local) (hc : Names X x c)
      (hsu : ∀ (a : Addr) (oe : Obj) (cls : Value) (d : Option Addr) (pl : List (Addr × Obj)), Zc cls d oe → (∃ fv, oe.data = .fields fv) → PSs (X.suite a ((a, oe) :: pl)) (st0 :: sts) (ts a cls d)) (r : HdA X hh l) :
      HdA X (.ExceptHandler (some (.Name x q1)) (some n) (st0 :: sts) q2 :: hh) ((c, i, ts) :: l)
section
variable {X : Cx} {bd : List Stmt} {h1 : ExceptHandler} {hh : List ExceptHandler} {l : List (Value × Nat × TSX)} {pos : Pos} {tb : WX → TS} {Wo : WX}
theorem ps_tryA (hs : X.stack = X.env :: X.outer) (hf : X.env.frame = some X.env.locals) (hN : X.N.Nodup) (tk : Takes X Wo)
    (hb : ∀ (W : WX) (pl : List (Addr × Obj)) (xe : Value → Shared → Prop), Takes (X.tr pl xe) W → PassesOwn (model X.prog X.w) X.A X.env xe → PSs (X.tr pl xe) bd (tb W))
    (hk : HdA X (h1 :: hh) l) : PS X (.Try bd (h1 :: hh) [] [] pos) (fun D τ Hh => tb (wAll X.K Wo D l) D τ Hh) := by
  refine ⟨fun pns st τ Hh D I0 hw => ?_⟩
  have okk := I0.ok
  have frm : X.A.frames = some (X.env :: X.outer) := by rw [okk.frames, hs]
  refine wpAny_Try_except ?_
  refine wpAny_mono ((hb (wAll X.K Wo D l) (X.pn ++ pns) (fun ev t1 => wpAny (model X.prog X.w) X.A (noteFrame ev X.env) (fun _ t2 => wpAny (model X.prog X.w) X.A (setFlight ev none) (fun _ t3 =>
    wpAny (model X.prog X.w) X.A (handleBy ev X.env (h1 :: hh)) (SP X pns D) X.xe t3) X.xe t2) X.xe t1) (fun u t xx => ?_) PassesOwn.looking).run [] st τ Hh D (I0.toTry _) hw) (fun fl t hsp => ?_) (fun ev t he => he)
  · obtain ⟨a, B, sI, pns', τ', Hh', cls, d, rfl, I1, nb, up, sky, na, os, ag, w⟩ := xx
    have J : Inv X pns τ' Hh' sI := I1.ofTry okk
    have sk2 : Sky B (X.env :: X.outer) a (Zc cls d) X.env.locals t.heap := by rw [← hs]; exact sky
    show wpAny (model X.prog X.w) X.A (noteFrame (.ref a) X.env) _ _ _
    refine Sky.land Zc.steady frm hf sk2 fun g3 f3 u3 => ?_
    have J3 : Inv X pns τ' Hh' { t with heap := g3 } := J.landed nb f3.1 (up.trans u3) os ag
    obtain ⟨o3, fv3, hx3, hz3, hd3⟩ := f3.there
    have nofr : a ∉ frs (X.env :: X.outer) := fun hm => by
      obtain ⟨_, o', e', hnf⟩ := f3.2.2.1.mem hm
      rw [hx3] at e'; cases e'
      exact hnf _ hd3
    have nL : a ≠ X.env.locals := fun z => nofr (List.mem_filterMap.mpr ⟨X.env, List.mem_cons_self, by rw [hf, z]⟩)
    have nF : a ∉ X.fs := fun hm => by
      obtain ⟨ev, he, q⟩ := List.mem_filterMap.mp hm
      exact nofr (List.mem_filterMap.mpr ⟨ev, List.mem_cons_of_mem _ he, q⟩)
    have S3 := J3.suite hx3 hd3 na nL nF
    have go : ∀ {hq : List ExceptHandler} {lq : List (Value × Nat × TSX)}, HdA X hq lq → wAll X.K Wo D lq cls d τ' Hh' →
        wpAny (model X.prog X.w) X.A (handleBy (.ref a) X.env hq) (SP X pns D) X.xe { t with heap := g3 } := by
      intro hq lq hk
      induction hk with
      | nil =>
        intro w
        refine wpAny_handleBy_nil ?_
        obtain ⟨k1, k2, k3, o0, fv, Tr, oT, tsx, he, hz, hd, hv1, hr⟩ := id f3
        unfold PySem.passOn
        refine wpAny_bind (wpAny_field he hd hv1 ?_)
        rw [if_neg (show ¬ ((Value.ref Tr == Value.none) = true) from by simp)]
        have fin : wpAny (model X.prog X.w) X.A (setFlight (.ref a) X.env.frame) (fun _ t4 => wpAny (model X.prog X.w) X.A (throw (.ref a) : Sem Flow) (SP X pns D) X.xe t4) X.xe { t with heap := g3 } := by
          rw [hf]
          refine HandSPX.setFlight_upZ f3 fun g4 hg4 u4 => wpAny_throw (tk _ _ ?_)
          exact ⟨a, B, sI, pns, τ', Hh', cls, d, rfl, J, nb, (up.trans u3).trans u4, .inr (.inr (by rw [hs]; exact hg4)), na, os, ag, w⟩
        first
          | exact wpAny_bind (wpAny_pure (wpAny_bind fin))
          | exact wpAny_bind fin
      | @cons x n c i ts st0 sts q1 q2 hh2 l2 hi hln hc hsu r ih =>
        intro w
        obtain ⟨b, hb1, yes, no⟩ := w
        refine wpAny_handleBy_cons (codeAny_handlers_test ?_) (by intro q; cases q)
        have LT : PySem.W.Looks (model X.prog X.w) g3 (typeOf (.ref a)) cls := fun A Q E s0 k q => wpAny_typeOf_ref (k _ _ hx3) (by rw [hz3.1]; exact q)
        have LM := PySem.W.exm_one (M := model X.prog X.w) (J3.kIn) LT hb1
        have test : ∀ {Q : Value → Shared → Prop} {E : Value → Shared → Prop}, Q c { t with heap := g3 } → wpAny (model X.prog X.w) (X.A.mark (some (.ref a))) (eval (.Name x q1) X.env) Q E { t with heap := g3 } := fun {Q E} q => by
          obtain ⟨n1, n2, n3 | ⟨n3, n4, n5⟩⟩ := hc
          · exact ld_glob (X := X.suite a ((a, o3) :: (X.pn ++ pns))) S3 n1 n3 q n2
          · exact ld_blt (X := X.suite a ((a, o3) :: (X.pn ++ pns))) S3 n1 n3 n4 q n5 n2
        refine test (LM.here ?_)
        cases b with
        | true =>
          refine codeAny_handlers_suite_as ?_
          refine HandSPX.lands_againZ f3 fun g4 f4 u4 => ?_
          have J4 : Inv X pns τ' Hh' { t with heap := g4 } := J.landed nb f4.1 ((up.trans u3).trans u4) os ag
          obtain ⟨o4, fv4, hx4, hz4, hd4⟩ := f4.there
          have S4 := J4.suite hx4 hd4 na nL nF
          refine store_ok (X := X.suite a ((a, o4) :: (X.pn ++ pns))) (v := .ref a) S4 hN hi (.inl hln) rfl (fun t5 S5 => ?_) (.inr hln)
          refine wpAny_mono ((hsu a o4 cls d (X.pn ++ pns) hz4 ⟨_, hd4⟩).run [] t5 _ Hh' _ S5 (yes rfl a na)) (fun fl t6 hsp => ?_) (fun _ _ z => False.elim z)
          have end_ : ∀ {τ6 : L2.St} {H6 : Hp} {Q : Shared → Prop}, Inv (X.suite a ((a, o4) :: (X.pn ++ pns))) [] τ6 H6 t6 → (∀ t7, Inv X pns (τ6.set i none) H6 t7 → Q t7) →
              wpAny (model X.prog X.w) X.A (do bindName X.env n .none; unbindBehindTheSuite X.env n q2) (fun _ t7 => Q t7) X.xe t6 := fun {τ6 H6 Q} S6 hq => gone_ok (S6.unsuite okk) hN hi hln hq
          cases fl with
          | next =>
            obtain ⟨τ6, H6, S6, q6⟩ := hsp
            exact end_ S6 fun t7 J7 => ⟨_, _, J7, q6⟩
          | brk =>
            obtain ⟨τ6, H6, S6, q6⟩ := hsp
            exact end_ S6 fun t7 J7 => ⟨_, _, J7, q6⟩
          | cont =>
            obtain ⟨τ6, H6, S6, q6⟩ := hsp
            exact end_ S6 fun t7 J7 => ⟨_, _, J7, q6⟩
          | ret u =>
            obtain ⟨v6, τ6, H6, S6, r6, q6⟩ := hsp
            exact end_ S6 fun t7 J7 => ⟨_, _, _, J7, r6, q6⟩
        | false =>
          show wpAny _ X.A (handleBy (.ref a) X.env hh2) _ _ _
          exact ih (no rfl)
    exact go hk w
  · cases fl with
    | next =>
      obtain ⟨τ', Hh', J', q⟩ := hsp
      exact wpAny_execs_nil ⟨τ', Hh', J'.ofTry okk, q⟩
    | brk =>
      obtain ⟨τ', Hh', J', q⟩ := hsp
      exact ⟨τ', Hh', J'.ofTry okk, q⟩
    | cont =>
      obtain ⟨τ', Hh', J', q⟩ := hsp
      exact ⟨τ', Hh', J'.ofTry okk, q⟩
    | ret u =>
      obtain ⟨v, τ', Hh', J', r, q⟩ := hsp
      exact ⟨v, τ', Hh', J'.ofTry okk, r, q⟩
end
end Mq
/-! A small language over HandS, 16: statements, readings and helpers. -/
namespace Mq
open PySem L2 Evl
open SX (S S_len S_cat S_inj)
def augF : Op2 → Int → Int → Int
  | .sub => fun i j => i - j
  | _ => fun i j => i + j
def rAugF (o : Op2) : V → V → Hp → VK → Prop := fun x y H Q => ∃ i j, x = .int i ∧ y = .int j ∧ Q (.int (augF o i j)) H
/-- raise C(..): the error's dict holds the fields, the last one first -/
def tRsX (Z : Rc) (W : WX) (y : Nat) (t : TA) : TS := fun _ σ H => t σ H fun vs H1 => ∃ ns, Z.mkn y = some ns ∧ ns.length = vs.length ∧ (ns = [] → W (.ref (Z.K.ca y)) none σ H1) ∧ (ns ≠ [] → ∀ d, H1 d = none → W (.ref (Z.K.ca y)) (some d) σ (upd H1 d (.xd ((ns.map Z.K.fl).zip vs).reverse)))
/-- these texts of a dict -/
def gDks (Z : Rc) (P : Pa) : List (List Nat) → TGs
  | [] => gNil
  | k :: r => gCons (gSub (P.rd Z.K) (tC (.str (S k))) (fun o i v H Q => DSto Z.K H o i v Q)) (gDks Z P r)
mutual
def S_.rd (Z : Rc) (W : WX) : S_ → TS
  | .asg p e => tAsg (e.rd Z W) (p.rd Z.K.K)
  | .own i m => tAsg (m.rd Z W) (gName i)
  | .aug i o e => tAug i (e.rd Z W) (ipI (augF o))
  | .app P e => tDrop (tBMX Z.K "list" rAppend (P.rd Z.K) (tCons (e.rd Z W) tNil))
  | .dset P k v => sDPutX Z.K (P.rd Z.K) (k.rd Z W) (v.rd Z W)
  | .lset P k v => sLPut (P.rd Z.K) (k.rd Z W) (v.rd Z W)
  | .upd P e => tDrop (tBMX Z.K "dict" (rUpd Z.K) (P.rd Z.K) (tCons (e.rd Z W) tNil))
  | .fset P f e => sFld Z.K.K (P.rd Z.K) (e.rd Z W) (Z.K.fl f)
  | .fown P f m => sFld Z.K.K (P.rd Z.K) (m.rd Z W) (Z.K.fl f)
  | .faug P f o e => sFldAug Z.K.K (P.rd Z.K) (e.rd Z W) (rAugF o) (Z.K.fl f)
  | .sdapp i k e => tDrop (tBMX Z.K "list" rAppend (tBMX Z.K "dict" (rSd Z.K) (tVar i) (tCons (k.rd Z W) (tCons (tLst tNil) tNil))) (tCons (e.rd Z W) tNil))
  | .sdset i k k2 v => sDPutX Z.K (tBMX Z.K "dict" (rSd Z.K) (tVar i) (tCons (k.rd Z W) (tCons tDNewK tNil))) (k2.rd Z W) (v.rd Z W)
  | .drop e => tDrop (e.rd Z W)
  | .ite t a b => tIfS (t.rd Z W) (a.rd Z W) (b.rd Z W)
  | .for_ p it b => tFor (it.rd Z W) (p.rd Z.K.K) (b.rd Z W)
  | .asgs P ks e => tAsg (e.rd Z W) (gTup Z.K.K ks.length (gDks Z P ks))
  | .forD p i b => tLkS (tFor (iKeys (tVar i)) (p.rd Z.K.K) (b.rd Z W))
  | .whl t b => tWhile (t.rd Z W) (b.rd Z W)
  | .ret e => tRet (e.rd Z W)
  | .retn => tRetN
  | .retm m => tRet (m.rd Z W)
  | .reto i => tRet (tVar i)
  | .brk => tBreak
  | .cnt => tCont
  | .pass => tNext
  | .nev => tNever
  | .rs y es => tRsX Z W y (es.rd Z W)
  | .try_ b hs => fun D σ H => b.rd Z (wAll Z.K.K W D (hs.rl Z)) D σ H
def Ss.rd (Z : Rc) (W : WX) : Ss → TS
  | .nil => tNext
  | .cons s r => tSeq (s.rd Z W) (r.rd Z W)
def Hs.rl (Z : Rc) : Hs → List (Value × Nat × TSX)
  | .nil => []
  | .cons y i b r => (.ref (Z.K.ca y), i, fun a cls d => b.rd (Z.at_ a cls d) W0) :: r.rl Z
end
/-! ### what is to be shown behind a statement -/
def SPost (Z : Rc) (W : WX) (pn : Pin) (σ : L2.St) (ε : En) (G H : Hp) (A : List Addr) (D : Ends) : R Fl → Prop
  | .no => False
  | .ok fl ε' => ∀ σ' G' H' A', Aft Z.K pn σ ε G H A σ' ε' G' H' A' → match fl with
    | .nxt => D.nx σ' H'
    | .brk => D.bk σ' H'
    | .cnt => D.ct σ' H'
    | .ret r => ∀ v, RetOk Z.K H G' H' A A' r v → D.rt v H'
  | .er x ε' => ∀ cls d σ' G' H' A', Aft Z.K pn σ ε G H A σ' ε' G' H' A' → Z.xr x cls d H' → W cls d σ' H'
section
variable {Z : Rc} {W : WX} {G G' H H' G1 G2 H1 H2 : Hp} {pn : Pin} {σ σ1 σ2 : L2.St} {ε ε1 ε2 : En} {A A1 A2 A' : List Addr}
theorem old_subS {K : Kx} (a : Aft K pn σ ε G H A σ1 ε1 G1 H1 A1) {b : Addr} (h : b ∈ A1 ∨ H1 b = none) : b ∈ A ∨ H b = none := by
  rcases h with h | h
  · exact a.w b h
  · by_cases n : b ∈ A
    · exact .inl n
    · refine .inr ?_
      cases q : H b with
      | none => rfl
      | some o => rw [a.h b o n q] at h; cases h
theorem RetOk.back {K : Kx} (a : Aft K pn σ ε G H A σ1 ε1 G1 H1 A1) {r : Sl} {v : V} (h : RetOk K H1 G2 H2 A1 A2 r v) : RetOk K H G2 H2 A A2 r v := by
  cases r <;> first | exact h | (obtain ⟨B, b1, b2, b3⟩ := h; exact ⟨B, b1, b2, fun b hb => ⟨(b3 b hb).1, old_subS a (b3 b hb).2⟩⟩)
theorem SPost.shift (a : Aft Z.K pn σ ε G H A σ1 ε1 G1 H1 A1) {D : Ends} {r : R Fl} (h : SPost Z W pn σ ε G H A D r) : SPost Z W pn σ1 ε1 G1 H1 A1 D r := by
  cases r with
  | no => exact h
  | er x ε' => exact fun cls d σ' G' H' A' z p => h cls d σ' G' H' A' (a.trans z) p
  | ok fl ε' =>
    intro σ' G' H' A' z
    have := h σ' G' H' A' (a.trans z)
    cases fl with
    | nxt => exact this
    | brk => exact this
    | cnt => exact this
    | ret r => exact fun v w => this v (w.back a)
theorem SPost.fz {b : Bool} {D : Ends} {r : R Fl} (h : SPost Z W pn σ ε G H A D r) : SPost Z W (pn.fzd b) σ ε G H A D r := by
  cases r with
  | no => exact h
  | er x ε' => exact fun cls d σ' G' H' A' z p => h cls d σ' G' H' A' z.unfz p
  | ok fl ε' => exact fun σ' G' H' A' z => h σ' G' H' A' z.unfz
theorem RetOk.unlock {K : Kx} {p : Addr} {kv : List (Key × V)} {od : Obj} (g : G' p = some (.frz od (.dK kv))) {r : Sl} {v : V} (h : RetOk K (L2.upd H p (.frz od (.dK kv))) G' H' A A' r v) : RetOk K H (L2.upd G' p (.dK kv)) (L2.upd H' p (.dK kv)) A A' r v := by
  cases r <;> first | exact h | exact rp_unlock g h | skip
  all_goals
    obtain ⟨B, b1, b2, b3⟩ := h
    have ne : ∀ b ∈ B, b ≠ p := fun b hb z => by have w := (b3 b hb).1; rw [z, g] at w; cases w
    exact ⟨B, HV.monoV (exV_unlock g) _ _ _ (fun b hb => L2.upd_ne (ne b hb)) b1, b2, fun b hb => ⟨by rw [L2.upd_ne (ne b hb)]; exact (b3 b hb).1, by have w := (b3 b hb).2; rw [L2.upd_ne (ne b hb)] at w; exact w⟩⟩
theorem spost_lock {p : Addr} {kv : List (Key × V)} {od : Obj} {D : Ends} {r : R Fl} (o : Ok Z.K pn σ ε G H A) (g : G p = some (.dK kv)) (h : SPost Z W pn σ ε G H A D r.noEr) :
    SPost Z W (pn.lk p (.frz od (.dK kv))) σ ε (upd G p (.frz od (.dK kv))) (upd H p (.frz od (.dK kv))) A
      ⟨fun σ' H' => H' p = some (.frz od (.dK kv)) ∧ D.nx σ' (upd H' p (.dK kv)), fun v H' => H' p = some (.frz od (.dK kv)) ∧ D.rt v (upd H' p (.dK kv)), fun σ' H' => H' p = some (.frz od (.dK kv)) ∧ D.bk σ' (upd H' p (.dK kv)), fun σ' H' => H' p = some (.frz od (.dK kv)) ∧ D.ct σ' (upd H' p (.dK kv))⟩ r := by
  cases r with
  | no => exact h
  | er x ε' => exact h.elim
  | ok fl ε' =>
    intro σ' G' H' A' a
    obtain ⟨b1, b2, b3⟩ := aft_unlock o g a
    have q := h σ' _ _ A' b3
    cases fl with
    | nxt => exact ⟨b2, q⟩
    | brk => exact ⟨b2, q⟩
    | cnt => exact ⟨b2, q⟩
    | ret r => exact fun v w => ⟨b2, q v (w.unlock b1)⟩
theorem spost_noEr {D : Ends} {r : R Fl} (h : SPost Z W pn σ ε G H A D r.noEr) : SPost Z W pn σ ε G H A D r := by
  cases r with
  | no => exact h
  | er x ε' => exact h.elim
  | ok fl ε' => exact h
theorem oSPost {D : Ends} : Outer Z W pn σ fun ε G H A r => SPost Z W pn σ ε G H A D r := ⟨(fun h => h), (fun h cls d G' H' A' a x => h cls d _ G' H' A' a x), fun a h => SPost.shift a h⟩
theorem Pt.not_er {io : Io} {p : Pt} {d : D} {x : Er} (h : p.run io d ε = .er x ε1) : False := by
  cases p with
  | nm j =>
    unfold Pt.run at h
    dsimp only at h
    split at h <;> cases h
  | tp js =>
    unfold Pt.run at h
    dsimp only at h
    split at h
    · split at h <;> cases h
    · cases h
  | ls js =>
    unfold Pt.run at h
    dsimp only at h
    split at h
    · split at h <;> cases h
    · cases h
theorem SPost.fl {D D' : Ends} {r : R Fl} {f : Fl → En → R Fl} (h : SPost Z W pn σ ε G H A D (r.bind f))
    (nx : ∀ ε1 σ1 G1 H1 A1, Aft Z.K pn σ ε G H A σ1 ε1 G1 H1 A1 → SPost Z W pn σ1 ε1 G1 H1 A1 D (f .nxt ε1) → D'.nx σ1 H1)
    (ct : ∀ ε1 σ1 G1 H1 A1, Aft Z.K pn σ ε G H A σ1 ε1 G1 H1 A1 → SPost Z W pn σ1 ε1 G1 H1 A1 D (f .cnt ε1) → D'.ct σ1 H1)
    (bk : ∀ ε1 σ1 G1 H1 A1, Aft Z.K pn σ ε G H A σ1 ε1 G1 H1 A1 → SPost Z W pn σ1 ε1 G1 H1 A1 D (f .brk ε1) → D'.bk σ1 H1)
    (rt : D'.rt = D.rt) (hr : ∀ r ε, f (.ret r) ε = .ok (.ret r) ε) : SPost Z W pn σ ε G H A D' r := by
  cases r with
  | no => exact h
  | er x ε1 => exact h
  | ok fl ε1 =>
    intro σ' G' H' A' a
    have h : SPost Z W pn σ ε G H A D (f fl ε1) := h
    cases fl with
    | nxt => exact nx ε1 σ' G' H' A' a (h.shift a)
    | cnt => exact ct ε1 σ' G' H' A' a (h.shift a)
    | brk => exact bk ε1 σ' G' H' A' a (h.shift a)
    | ret r =>
      rw [hr] at h
      have := h σ' G' H' A' a
      show ∀ v, _ → D'.rt v H'
      rw [rt]
      exact this
theorem for_sound {pl : Bool} {p : Pt} {b : En → R Fl} {tb : TS} {items : List D} {J : L2.It} {D : Ends}
    (hb : ∀ {σ : L2.St} {ε : En} {G H : Hp} {A : List Addr} {D : Ends}, Ok Z.K (pn.fzd pl) σ ε G H A → SPost Z W (pn.fzd pl) σ ε G H A D (b ε) → tb D σ H)
    (o : Ok Z.K pn σ ε G H A) (wk : Wk Z.K pl items J G H) (h : SPost Z W pn σ ε G H A D (forRun (pn.fzd pl).io p b items ε)) :
    ∃ W : Nat → Nat → L2.St → Hp → Prop, (∃ m, W 0 m σ H) ∧ ∀ i m σ H, W i m σ H →
      (J.stop i H ∧ D.nx σ H) ∨ (J.go i H ∧ ∃ N : L2.St → Hp → Prop, (∀ σ' H', N σ' H' → ∃ m', m' < m ∧ W (i + 1) m' σ' H') ∧ ∀ x H', J.yld i H x H' → p.rd Z.K.K x σ H' fun σ2 H2 => tb { D with nx := N, ct := N, bk := D.nx } σ2 H2) := by
  obtain ⟨Gw, Y, wlk, hgw, hy⟩ := wk
  have zz : pl = true → (pn.fzd pl).fz = true := fun z => by show (pn.fz || pl) = true; rw [z, Bool.or_true]
  refine for_it wlk (fun i σi Hi => ∃ εi Gi Ai, Ok Z.K (pn.fzd pl) σi εi Gi Hi Ai ∧ Ex G Gi ∧ (pl = true → Ex H Hi) ∧ SPost Z W (pn.fzd pl) σi εi Gi Hi Ai D (forRun (pn.fzd pl).io p b (items.drop i) εi)) ⟨ε, G, A, o.fzd, Ex.refl G, (fun _ => Ex.refl H), h.fz⟩ ?_ ?_ ?_
  · rintro i σi Hi _ ⟨εi, Gi, Ai, oi, gi, zi, _⟩
    exact hgw _ (gi.trans oi.ex) zi
  · rintro i x σi Hi Hi' hi ⟨εi, Gi, Ai, oi, gi, zi, hi2⟩ y
    obtain ⟨d, hd⟩ : ∃ d, items[i]? = some d := ⟨items[i], List.getElem?_eq_getElem hi⟩
    obtain ⟨Gc, pu, rx⟩ := hy i d Hi x Hi' hd y Gi gi oi.ex
    have a1 := Aft.pu oi pu
    rw [List.drop_eq_getElem_cons (by exact hi), show items[i] = d by rw [List.getElem?_eq_getElem hi] at hd; exact Option.some.inj hd] at hi2
    unfold forRun at hi2
    have hi2 := hi2.shift a1
    cases q : p.run (pn.fzd pl).io d εi with
    | no => rw [q] at hi2; exact hi2.elim
    | er x ε1 => exact (Pt.not_er q).elim
    | ok u ε1 =>
      rw [q] at hi2
      have hi2 : SPost Z W (pn.fzd pl) σi εi Gc Hi' Ai D ((b ε1).bind fun fl ε2 => match fl with
        | .nxt => forRun (pn.fzd pl).io p b (items.drop (i + 1)) ε2
        | .cnt => forRun (pn.fzd pl).io p b (items.drop (i + 1)) ε2
        | .brk => .ok .nxt ε2
        | .ret r => .ok (.ret r) ε2) := hi2
      refine Pt.sound a1.ok q rx fun σ2 A2 o2 w2 _ => ?_
      have a2 := Aft.sub a1.ok o2 w2
      refine hb o2 (SPost.fl (hi2.shift a2) (fun ε3 σ3 G3 H3 A3 a3 h3 => ?_) (fun ε3 σ3 G3 H3 A3 a3 h3 => ?_) (fun ε3 σ3 G3 H3 A3 a3 h3 => ?_) rfl fun _ _ => rfl)
      · exact ⟨ε3, G3, A3, a3.ok, gi.trans (pu.g.trans a3.g), (fun z => ((zi z).trans pu.h).trans (a3.z (zz z))), h3⟩
      · exact ⟨ε3, G3, A3, a3.ok, gi.trans (pu.g.trans a3.g), (fun z => ((zi z).trans pu.h).trans (a3.z (zz z))), h3⟩
      · exact h3 σ3 G3 H3 A3 (Aft.refl a3.ok)
  · rintro σi Hi ⟨εi, Gi, Ai, oi, gi, zi, hi2⟩
    rw [List.drop_length] at hi2
    exact hi2 σi Gi Hi Ai (Aft.refl oi)
theorem whl_sound {t : En → R Bool} {b : En → R Fl} {tt : TT} {tb : TS} {D : Ends} {n : Nat}
    (ht : ∀ {σ : L2.St} {ε : En} {G H : Hp} {A : List Addr} {Q : Bool → Hp → Prop}, Ok Z.K pn σ ε G H A → Post Z W pn σ ε G H A IdP Q (t ε) → tt σ H Q)
    (hb : ∀ {σ : L2.St} {ε : En} {G H : Hp} {A : List Addr} {D : Ends}, Ok Z.K pn σ ε G H A → SPost Z W pn σ ε G H A D (b ε) → tb D σ H)
    (o : Ok Z.K pn σ ε G H A) (h : SPost Z W pn σ ε G H A D (whlRun t b n ε)) : tWhile tt tb D σ H := by
  refine ⟨fun m σ H => ∃ ε G A, Ok Z.K pn σ ε G H A ∧ SPost Z W pn σ ε G H A D (whlRun t b m ε), ⟨n, ε, G, A, o, h⟩, ?_⟩
  rintro m σ H ⟨ε, G, A, o, h⟩
  cases m with
  | zero => exact h.elim
  | succ m =>
    unfold whlRun at h
    refine ht o (Post.bd0 oSPost h fun k ε1 k' G1 H1 A1 a1 r1 h1 => ?_)
    cases (show k = k' from r1)
    cases k with
    | false =>
      rw [if_neg Bool.false_ne_true] at h1 ⊢
      exact h1 σ G1 H1 A1 (Aft.refl a1.ok)
    | true =>
      rw [if_pos rfl] at h1 ⊢
      refine ⟨fun σ H => ∃ ε G A, Ok Z.K pn σ ε G H A ∧ SPost Z W pn σ ε G H A D (whlRun t b m ε), fun σ' H' w => ⟨m, Nat.lt_succ_self m, w⟩, ?_⟩
      refine hb a1.ok (SPost.fl h1 (fun ε3 σ3 G3 H3 A3 a3 h3 => ⟨ε3, G3, A3, a3.ok, h3⟩) (fun ε3 σ3 G3 H3 A3 a3 h3 => ⟨ε3, G3, A3, a3.ok, h3⟩) (fun ε3 σ3 G3 H3 A3 a3 h3 => h3 σ3 G3 H3 A3 (Aft.refl a3.ok)) rfl fun _ _ => rfl)
end
/-! ### a new tree is stored -/
section
variable {K : Kx} {G G' H H' G1 G2 H1 H2 : Hp} {pn : Pin} {σ σ1 σ2 : L2.St} {ε ε1 ε2 : En} {A A1 A2 A' B T : List Addr}
theorem Aft.own (a : Aft K pn σ ε G H A σ1 ε1 G1 H1 A1) {s : Sl} {v : V} (hv : HV K G1 H1 s v B) (hn : (A1 ++ B).Nodup) (hb : ∀ b ∈ B, G1 b = none ∧ (b ∈ A ∨ H b = none)) {i : Nat} (hp : pn.io.rep i = true) :
    ∃ A', Aft K pn σ ε G H A (σ1.set i (some v)) (ε1.set i s) G1 H1 A' := by
  obtain ⟨A', o, w⟩ := a.ok.set (j := i) hp (hv_ne hv) (hv_hs hv) hn fun b h => (hb b h).1
  refine ⟨A', o, a.g, a.h, a.f, fun b h => ?_, a.z⟩
  rcases w b h with z | z
  · exact a.w b z
  · exact (hb b z).2
theorem set_val {i : Nat} {v : V} (h : σ[i]? = some (some v)) : σ.set i (some v) = σ := set_same h
/-- an object of a new tree changes -/
theorem Aft.updT (a : Aft K pn σ ε G H A σ1 ε1 G1 H1 A1) {q : Addr} {u : HO} (g : G1 q = none) (n : q ∉ A1) (hb : q ∈ A ∨ H q = none) (hf : pn.fz = false) : Aft K pn σ ε G H A σ1 ε1 G1 (upd H1 q u) A1 := by
  refine ⟨a.ok.upd g n, a.g, fun x o h1 h2 => ?_, a.f, a.w, fun z => by rw [hf] at z; cases z⟩
  have z : x ≠ q := fun y => by
    subst y
    rcases hb with w | w
    · exact h1 w
    · rw [h2] at w; cases w
  rw [upd_ne z]
  exact a.h x o h1 h2
/-- a place's object changes, with new trees put in -/
theorem Aft.put (hd : KD K) (a1 : Aft K pn σ ε G H A σ ε1 G1 H1 A1) {rp : RP} {x : Sl} (e : getP ε1 rp = some x) (hx : x ≠ .no ∧ x ≠ .ex) (hn : (A1 ++ T).Nodup) (hT : ∀ b ∈ T, G1 b = none ∧ (b ∈ A ∨ H b = none)) :
    ∃ v u B, σ[rp.1]? = some (some v) ∧ AtH K H1 v rp.2 u ∧ HV K G1 H1 x u B ∧ (∀ a ∈ B, a ∈ A1) ∧ B.Nodup ∧
      ∀ (H' : Hp) (x' : Sl) (B' : List Addr), Ex G1 H' → (∀ a o, a ∉ B → H1 a = some o → H' a = some o) → HV K G1 H' x' u B' → (∀ a ∈ B', a ∈ B ∨ a ∈ T) → B'.Nodup →
        pn.fz = false → isOwS x' = true → ∃ A', Aft K pn σ ε G H A σ (setP ε1 rp x') G1 H' A' := by
  have o := a1.ok
  obtain ⟨v, u, B, R, h1, h2, h3, h4, h5⟩ := o.focus hd e hx
  have hAB : ∀ a, a ∈ A1 ↔ a ∈ B ∨ a ∈ R := fun a => by rw [h4.mem_iff, List.mem_append]
  have hnd : (B ++ R).Nodup := h4.nodup_iff.mp o.nd
  obtain ⟨nB, nR, dis⟩ := List.nodup_append.mp hnd
  obtain ⟨_, nT, disT⟩ := List.nodup_append.mp hn
  refine ⟨v, u, B, h1, h2, h3, fun a ha => (hAB a).mpr (.inl ha), nB, fun H' x' B' g' k h' w' n' z' ho => ?_⟩
  have kR : ∀ a ∈ R, H' a = H1 a := fun a ha => by
    obtain ⟨q, hq⟩ := lv_some (o.lv a ((hAB a).mpr (.inr ha)))
    rw [hq]
    exact k a q (fun y => dis a y a ha rfl) hq
  obtain ⟨A', p1, p2⟩ := h5 G1 H' x' B' (Ex.refl G1) kR h'
  have hA' : ∀ a, a ∈ A' ↔ a ∈ B' ∨ a ∈ R := fun a => by rw [p1.mem_iff, List.mem_append]
  obtain ⟨s, es1, es2⟩ := getP_slot e
  have hset : isOwS (setS s rp.2 x') = true := by
    cases q : rp.2 with
    | nil => unfold setS; exact ho
    | cons p r => rw [q] at es2; exact (set_ow (x := x') es2).2
  have gnB : ∀ a ∈ B', G1 a = none := fun a ha => by
    rcases w' a ha with z | z
    · exact o.gn a ((hAB a).mpr (.inl z))
    · exact (hT a z).1
  refine ⟨A', ⟨g', p2, ?_, fun a ha => ?_, fun q hq => ?_, fun i hi => ?_, o.g0⟩, a1.g, fun a q n e => k a q (fun y => ?_) (a1.h a q n e), a1.f, fun a ha => ?_, fun z => by rw [z'] at z; cases z⟩
  · refine p1.nodup_iff.mpr (List.nodup_append.mpr ⟨n', nR, fun a ha b hb y => ?_⟩)
    subst y
    rcases w' a ha with z | z
    · exact dis a z a hb rfl
    · exact disT a ((hAB a).mpr (.inr hb)) a z rfl
  · rcases (hA' a).mp ha with z | z
    · exact gnB a z
    · exact o.gn a ((hAB a).mpr (.inr z))
  · obtain ⟨q1, s', q2, q3⟩ := o.pin q hq
    refine ⟨q1, ?_⟩
    rw [setP_get es1]
    by_cases y : q.1 = rp.1
    · rw [if_pos y]
      exact ⟨_, rfl, hset⟩
    · rw [if_neg y]
      exact ⟨s', q2, q3⟩
  · rw [setP_get es1] at hi
    by_cases y : i = rp.1
    · rw [if_pos y] at hi
      rw [Option.some.inj hi] at hset
      cases hset
    · rw [if_neg y] at hi
      exact o.px i hi
  · rcases a1.w a ((hAB a).mpr (.inl y)) with w | w
    · exact n w
    · rw [e] at w; cases w
  · rcases (hA' a).mp ha with z | z
    · rcases w' a z with y | y
      · exact a1.w a ((hAB a).mpr (.inl y))
      · exact (hT a y).2
    · exact a1.w a ((hAB a).mpr (.inr z))
/-! fields -/
theorem putF_fix (hd : KD K) {c n : Nat} (hn : K.hf c n = true) {v : V} : ∀ {fn : List Nat} {fs : List (Str × V)}, fs.map (·.1) = fn.map K.fl → (∀ f ∈ fn, K.hf c f = true) →
    (∀ i, fix fn n = some i → (putF (K.fl n) v fs).map (·.1) = fn.map K.fl ∧ (putF (K.fl n) v fs).map (·.2) = (fs.map (·.2)).set i v) ∧ (fix fn n = none → putF (K.fl n) v fs = fs ++ [(K.fl n, v)])
  | [], [], _, _ => ⟨(fun i e => by cases e), fun _ => rfl⟩
  | [], _ :: _, h, _ => by cases h
  | _ :: _, [], h, _ => by cases h
  | x :: fn, q :: fs, h, hf => by
    rw [List.map_cons, List.map_cons] at h
    injection h with h1 h2
    obtain ⟨q1, q2⟩ := q
    have h1 : q1 = K.fl x := h1
    unfold fix
    by_cases z : x = n
    · subst z
      rw [if_pos rfl]
      have e : putF (K.fl x) v ((q1, q2) :: fs) = (q1, v) :: fs := by
        show (if q1 = K.fl x then (q1, v) :: fs else _) = _
        rw [if_pos h1]
      refine ⟨fun i ei => ?_, fun z => nomatch z⟩
      cases ei
      rw [e]
      exact ⟨by rw [List.map_cons, List.map_cons, h2, h1], rfl⟩
    · rw [if_neg z]
      have ne : ¬ q1 = K.fl n := fun y => z (hd.inj c x n (hf x List.mem_cons_self) hn (by rw [← h1, y]))
      have e : putF (K.fl n) v ((q1, q2) :: fs) = (q1, q2) :: putF (K.fl n) v fs := by
        show (if q1 = K.fl n then _ else _) = _
        rw [if_neg ne]
      obtain ⟨i1, i2⟩ := putF_fix hd hn (v := v) h2 fun f hm => hf f (List.mem_cons_of_mem _ hm)
      rw [e]
      refine ⟨fun i ei => ?_, fun ei => ?_⟩
      · obtain ⟨j, e1, e2⟩ := Option.map_eq_some_iff.mp ei
        subst e2
        obtain ⟨a, b⟩ := i1 j e1
        exact ⟨by rw [List.map_cons, List.map_cons, a, h1], by rw [List.map_cons, b]; rfl⟩
      · rw [i2 (Option.map_eq_none_iff.mp ei)]
        rfl
theorem HVs.app (h : HVs K G H ss vs A) (h' : HV K G H s v B) : HVs K G H (ss ++ [s]) (vs ++ [v]) (A ++ B) := HVs.snoc _ _ _ _ _ _ h h'
/-- a field is stored -/
theorem Aft.fput (hd : KD K) (a1 : Aft K pn σ ε G H A σ ε1 G1 H1 A1) {rp : RP} {c f : Nat} {s s' y : Sl} {v : V} (e : getP ε1 rp = some s) (hp : putFld K.hf s f y = some s') (hy : HV K G1 H1 y v T) (hn : (A1 ++ T).Nodup) (hT : ∀ b ∈ T, G1 b = none ∧ (b ∈ A ∨ H b = none)) (hf : pn.fz = false) :
    ∃ v0 a cc dx fs A', (∃ fn fv, s = .ob cc fn fv) ∧ σ[rp.1]? = some (some v0) ∧ AtH K H1 v0 rp.2 (.ref a) ∧ H1 a = some (.ins (K.ca cc) dx fs) ∧ K.hf cc f = true ∧ fs.length < 1000 ∧ Aft K pn σ ε G H A σ (setP ε1 rp s') G1 (upd H1 a (.ins (K.ca cc) dx (putF (K.fl f) v fs))) A' := by
  unfold putFld at hp
  split at hp
  · rename_i cc fn fv
    split at hp
    · rename_i hc
      obtain ⟨v0, u, B, h1, h2, h3, h4, h5, h6⟩ := a1.put hd e ⟨(fun z => nomatch z), fun z => nomatch z⟩ hn hT
      obtain ⟨a, dx, fs, C, rfl, rfl, g1, g2, g3, g4, g5⟩ := h3
      have hlen : fs.length < 1000 := by
        have := congrArg List.length g3
        rw [List.length_map, List.length_map] at this
        omega
      obtain ⟨n1, n2⟩ := List.nodup_cons.mp h5
      obtain ⟨n3, n4⟩ := List.nodup_cons.mp n2
      have ga := a1.ok.gn a (h4 a List.mem_cons_self)
      have neT : ∀ b ∈ T, b ∉ a :: dx :: C := fun b hb z => (List.nodup_append.mp hn).2.2 b (h4 b z) b hb rfl
      have nTd : T.Nodup := (List.nodup_append.mp hn).2.1
      obtain ⟨p1, p2⟩ := putF_fix hd hc.2 (v := v) g3 g4
      have ex' : Ex G1 (upd H1 a (.ins (K.ca cc) dx (putF (K.fl f) v fs))) := fun b q w => by
        have z : b ≠ a := fun y => by rw [y, ga] at w; cases w
        rw [upd_ne z]; exact a1.ok.ex b q w
      have keep : ∀ b o, b ∉ a :: dx :: C → H1 b = some o → upd H1 a (.ins (K.ca cc) dx (putF (K.fl f) v fs)) b = some o := fun b o n w => by
        rw [upd_ne fun y => n (by rw [y]; exact List.mem_cons_self)]; exact w
      have mC : ∀ b ∈ C, upd H1 a (.ins (K.ca cc) dx (putF (K.fl f) v fs)) b = H1 b := fun b hb => upd_ne fun y => n1 (y ▸ List.mem_cons_of_mem _ hb)
      have mT : ∀ b ∈ T, upd H1 a (.ins (K.ca cc) dx (putF (K.fl f) v fs)) b = H1 b := fun b hb => upd_ne fun y => neT b hb (y ▸ List.mem_cons_self)
      have md : upd H1 a (.ins (K.ca cc) dx (putF (K.fl f) v fs)) dx = some (.own a) := by
        rw [upd_ne fun y => n1 (by rw [← y]; exact List.mem_cons_self)]; exact g2
      split at hp
      · rename_i i ei
        cases hp
        obtain ⟨k1, k2⟩ := p1 i ei
        have hi : i < fv.length := by
          have := (List.getElem?_eq_some_iff.mp (fix_mem ei)).1
          have l1 := g5.len
          have l2 := congrArg List.length g3
          rw [List.length_map] at l1
          rw [List.length_map, List.length_map] at l2
          omega
        obtain ⟨w, D, R, w1, w2, w3, w4⟩ := HVs.at_ fv _ C i fv[i] g5 (List.getElem?_eq_getElem hi)
        obtain ⟨C', c1, c2⟩ := w4 G1 (upd H1 a (.ins (K.ca cc) dx (putF (K.fl f) v fs))) y v T (Ex.refl G1) (fun b hb => mC b (w3.mem_iff.mpr (List.mem_append_right _ hb))) (HV.mono (Ex.refl G1) _ _ _ mT hy)
        have sub : ∀ b ∈ C', b ∈ C ∨ b ∈ T := fun b hb => by
          rcases List.mem_append.mp (c1.mem_iff.mp hb) with z | z
          · exact .inr z
          · exact .inl (w3.mem_iff.mpr (List.mem_append_right _ z))
        have nC' : C'.Nodup := by
          refine c1.nodup_iff.mpr (List.nodup_append.mpr ⟨nTd, (List.nodup_append.mp (w3.nodup_iff.mp n4)).2.1, fun x hx b hb z => ?_⟩)
          subst z
          exact neT x hx (List.mem_cons_of_mem _ (List.mem_cons_of_mem _ (w3.mem_iff.mpr (List.mem_append_right _ hb))))
        obtain ⟨A', fin⟩ := h6 _ (.ob cc fn (fv.set i y)) (a :: dx :: C') ex' keep ⟨a, dx, _, C', rfl, rfl, upd_same, md, k1, g4, by rw [k2]; exact c2⟩ (fun b hb => by
          rcases List.mem_cons.mp hb with z | hb
          · exact .inl (z ▸ List.mem_cons_self)
          · rcases List.mem_cons.mp hb with z | hb
            · exact .inl (z ▸ List.mem_cons_of_mem _ List.mem_cons_self)
            · rcases sub b hb with z | z
              · exact .inl (List.mem_cons_of_mem _ (List.mem_cons_of_mem _ z))
              · exact .inr z) (by
          refine List.nodup_cons.mpr ⟨fun z => ?_, List.nodup_cons.mpr ⟨fun z => ?_, nC'⟩⟩
          · rcases List.mem_cons.mp z with z | z
            · exact n1 (z ▸ List.mem_cons_self)
            · rcases sub a z with z | z
              · exact n1 (List.mem_cons_of_mem _ z)
              · exact neT a z List.mem_cons_self
          · rcases sub dx z with z | z
            · exact n3 z
            · exact neT dx z (List.mem_cons_of_mem _ List.mem_cons_self)) hf rfl
        exact ⟨v0, a, cc, dx, fs, A', ⟨_, _, rfl⟩, h1, h2, g1, hc.2, hlen, fin⟩
      · rename_i ei
        cases hp
        have k := p2 ei
        have c2 : HVs K G1 (upd H1 a (.ins (K.ca cc) dx (putF (K.fl f) v fs))) (fv ++ [y]) ((putF (K.fl f) v fs).map (·.2)) (C ++ T) := by
          have := HVs.app (HVs.mono (Ex.refl G1) _ _ _ mC g5) (HV.mono (Ex.refl G1) _ _ _ mT hy)
          rw [show (putF (K.fl f) v fs).map (·.2) = fs.map (·.2) ++ [v] by rw [k, List.map_append]; rfl]
          exact this
        obtain ⟨A', fin⟩ := h6 _ (.ob cc (fn ++ [f]) (fv ++ [y])) (a :: dx :: (C ++ T)) ex' keep ⟨a, dx, _, C ++ T, rfl, rfl, upd_same, md, by rw [k, List.map_append, List.map_append, g3]; rfl, (fun n hn => by
          rcases List.mem_append.mp hn with z | z
          · exact g4 n z
          · rw [List.mem_singleton.mp z]; exact hc.2), c2⟩ (fun b hb => by
          rcases List.mem_cons.mp hb with z | hb
          · exact .inl (z ▸ List.mem_cons_self)
          · rcases List.mem_cons.mp hb with z | hb
            · exact .inl (z ▸ List.mem_cons_of_mem _ List.mem_cons_self)
            · rcases List.mem_append.mp hb with z | z
              · exact .inl (List.mem_cons_of_mem _ (List.mem_cons_of_mem _ z))
              · exact .inr z) (by
          refine List.nodup_cons.mpr ⟨fun z => ?_, List.nodup_cons.mpr ⟨fun z => ?_, List.nodup_append.mpr ⟨n4, nTd, fun x hx b hb z => neT b hb (z ▸ List.mem_cons_of_mem _ (List.mem_cons_of_mem _ hx))⟩⟩⟩
          · rcases List.mem_cons.mp z with z | z
            · exact n1 (z ▸ List.mem_cons_self)
            · rcases List.mem_append.mp z with z | z
              · exact n1 (List.mem_cons_of_mem _ z)
              · exact neT a z List.mem_cons_self
          · rcases List.mem_append.mp z with z | z
            · exact n3 z
            · exact neT dx z (List.mem_cons_of_mem _ List.mem_cons_self)) hf rfl
        exact ⟨v0, a, cc, dx, fs, A', ⟨_, _, rfl⟩, h1, h2, g1, hc.2, hlen, fin⟩
    · cases hp
  · cases hp
theorem fz_f (h : (!pn.io.fz) = true) : pn.fz = false := by
  have h : (!pn.fz) = true := h
  cases q : pn.fz
  · rfl
  · rw [q] at h; cases h
end
end Mq
/-! A small language over HandS, 17: what is run is told (statements, the theorem). -/
namespace Mq
open PySem L2 Evl
open SX (S S_len S_cat S_inj)
section
variable {K : Kx} {G G' H H' G1 G2 H1 H2 : Hp} {pn : Pin} {σ σ1 σ2 : L2.St} {ε ε1 ε2 : En} {A A1 A2 A' B T : List Addr} {Z : Rc} {W : WX}
/-! ### into a clause and out of it -/
def pinX (pn : Pin) (i : Nat) (a : Addr) (d : Option Addr) (fs : List (Str × V)) : Pin := { l := pn.l, fz := pn.fz, xi := i, xa := some a, g0 := fun b => if some b = d then some (.xd fs) else none }
theorem Ok.errz (o : Ok K pn σ ε G H A) {d : Option Addr} {fs : List (Str × V)} (hd : ∀ dd, d = some dd → H dd = some (.xd fs)) : ∃ G2, Ok K pn σ ε G2 H A ∧ Ex G G2 ∧ (∀ dd, d = some dd → G2 dd = some (.xd fs)) ∧ ∀ a, G a = none → Lv (H a) → G2 a = none := by
  cases d with
  | none => exact ⟨G, o, Ex.refl G, (fun _ z => nomatch z), fun _ g _ => g⟩
  | some dd =>
    have hh := hd dd rfl
    have n : dd ∉ A := fun z => (o.lv dd z).2 fs hh
    cases hg : G dd with
    | none =>
      have e1 := frzG_ex (G := G) (H := H) (B := [dd]) fun b hb => by rw [List.mem_singleton.mp hb]; exact hg
      refine ⟨frzG G H [dd], o.freeze (fun b hb => by rw [List.mem_singleton.mp hb]; exact hg) (fun b hb => by rw [List.mem_singleton.mp hb]; exact n), e1, fun dd' z => ?_, fun a ga lv => ?_⟩
      · cases z; rw [frzG_in List.mem_cons_self]; exact hh
      · rw [frzG_out fun z => lv.2 fs (by rw [List.mem_singleton.mp z]; exact hh)]
        exact ga
    | some u =>
      have e := o.ex _ _ hg
      rw [hh] at e
      cases e
      exact ⟨G, o, Ex.refl G, (fun dd' z => by cases z; exact hg), fun _ g _ => g⟩
theorem Ok.enter (o : Ok K pn σ ε G H A) {i : Nat} {a : Addr} {d : Option Addr} {fs : List (Str × V)} (hx : pn.xa = none) (hi : i < ε.length) (hio : pn.io.rep i = true) (hd : ∀ dd, d = some dd → G dd = some (.xd fs)) :
    ∃ A', Ok K (pinX pn i a d fs) (σ.set i (some (.ref a))) (ε.set i .ex) G H A' ∧ ∀ b ∈ A', b ∈ A := by
  obtain ⟨A', n', sub, st⟩ := o.st.set (j := i) (s := .ex) (ov := some (.ref a)) (B := []) rfl (by rw [List.append_nil]; exact o.nd)
  have sub : ∀ b ∈ A', b ∈ A := fun b hb => by
    rcases sub b hb with z | z
    · exact z
    · cases z
  have hσ : i < σ.length := by rw [← o.len]; exact hi
  refine ⟨A', ⟨o.ex, st, n', fun b hb => o.gn b (sub b hb), fun q hq => ?_, fun j hj => ?_, fun b u q => ?_⟩, sub⟩
  · have z := rep_pin hio q hq
    obtain ⟨q1, t, q2, q3⟩ := o.pin q hq
    exact ⟨by rw [List.getElem?_set_ne (Ne.symm z)]; exact q1, t, by rw [List.getElem?_set_ne (Ne.symm z)]; exact q2, q3⟩
  · by_cases z : j = i
    · subst z
      exact ⟨rfl, a, rfl, List.getElem?_set_self hσ⟩
    · rw [List.getElem?_set_ne (Ne.symm z)] at hj
      obtain ⟨_, a', h, _⟩ := o.px j hj
      rw [hx] at h
      cases h
  · have q : (if some b = d then some (HO.xd fs) else none) = some u := q
    split at q
    · rename_i z
      rw [hd b z.symm]
      exact q
    · cases q
/-- behind a clause -/
theorem Aft.exit {G2 G3 H3 : Hp} {σ3 : L2.St} {ε3 : En} {A3 A2 : List Addr} (o : Ok K pn σ ε G H A) {i : Nat} {a : Addr} {d : Option Addr} {fs : List (Str × V)} (hio : pn.io.rep i = true) (gx : Ex G G2) (hf : ∀ a, G a = none → Lv (H a) → G2 a = none) (sub : ∀ b ∈ A2, b ∈ A)
    (q : Aft K (pinX pn i a d fs) (σ.set i (some (.ref a))) (ε.set i .ex) G2 H A2 σ3 ε3 G3 H3 A3) : ∃ A', Aft K pn σ ε G H A (σ3.set i none) (ε3.set i .no) G3 H3 A' ∧ ∀ b ∈ A', b ∈ A3 := by
  obtain ⟨A', n', sub', st⟩ := q.ok.st.set (j := i) (s := .no) (ov := none) (B := []) rfl (by rw [List.append_nil]; exact q.ok.nd)
  have sub' : ∀ b ∈ A', b ∈ A3 := fun b hb => by
    rcases sub' b hb with z | z
    · exact z
    · cases z
  refine ⟨A', ⟨⟨q.ok.ex, st, n', fun b hb => q.ok.gn b (sub' b hb), fun r hr => ?_, fun j hj => ?_, (o.g0.trans gx).trans q.g⟩, gx.trans q.g, fun x u n y => q.h x u (fun z => n (sub x z)) y, fun x n g lv => q.f x (fun z => n (sub x z)) (hf x g lv) lv, fun x w => ?_, fun z => q.z z⟩, sub'⟩
  · have z := rep_pin hio r hr
    obtain ⟨q1, t, q2, q3⟩ := q.ok.pin r hr
    exact ⟨by rw [List.getElem?_set_ne (Ne.symm z)]; exact q1, t, by rw [List.getElem?_set_ne (Ne.symm z)]; exact q2, q3⟩
  · obtain ⟨w, z⟩ := ex_set (s := .no) (fun z => nomatch z) hj
    exact absurd (q.ok.px j w).1 z
  · rcases q.w x (sub' x w) with z | z
    · exact .inl (sub x z)
    · exact .inr z
/-! ### a dict of containers: setdefault -/
theorem ds_hv {s : Sl} {v : V} {A : List Addr} {x : D} {new : Sl} {ks : List D} {cs : List Sl} {n : Nat} (h : HV K G H s v A) (e : sdIns (some s) x new = some (ks, cs, n)) :
    ∃ P ks0 cs0 kr vs C, v = .ref P ∧ A = P :: C ∧ DcAt K H P ks0 kr vs ∧ Rps K G ks0 kr ∧ HVs K G H cs0 vs C ∧ ks0.length < 16777216 ∧ dkOk ks0 x = true ∧
      ((ixk ks0 x = some n ∧ ks = ks0 ∧ cs = cs0) ∨ (ixk ks0 x = none ∧ ks = ks0 ++ [x] ∧ cs = cs0 ++ [new] ∧ n = ks0.length)) := by
  unfold sdIns at e
  split at e
  · rename_i ks0 cs0 es
    cases es
    split at e
    · rename_i hc
      obtain ⟨P, kr, vs, C, h1, h2, h3, h4, h5⟩ := h
      refine ⟨P, ks0, cs0, kr, vs, C, h1, h2, h3, h4, h5, hc.1, hc.2, ?_⟩
      split at e
      · rename_i m em
        cases e
        exact .inl ⟨em, rfl, rfl⟩
      · rename_i em
        cases e
        exact .inr ⟨em, rfl, rfl, rfl⟩
    · cases e
  · rename_i es
    cases es
    split at e
    · rename_i hc
      cases e
      obtain ⟨P, kr, vs, h1, h2, h3, h4, h5⟩ := h
      cases (show kr = [] from h4)
      cases (show vs = [] from h5)
      exact ⟨P, [], [], [], [], [], h1, h2, h3, rfl, ⟨rfl, rfl⟩, by decide, hc, .inr ⟨rfl, rfl, rfl, rfl⟩⟩
    · cases e
  · cases e
theorem dc_lens {P : Addr} {ks : List D} {kr vs : List V} (h : DcAt K H P ks kr vs) : vs.length = ks.length := by
  rcases h with ⟨kv, _, c2, _, c4⟩ | ⟨_, xs, _, c2, _, _, c5, _⟩
  · have := congrArg List.length c2
    rw [List.length_map, List.length_map] at this
    rw [this, c4, List.length_map]
  · have := congrArg List.length c2
    rw [List.length_map, List.length_map] at this
    have e5 := c5.length
    rw [List.length_map] at e5
    omega
theorem dls_ty (hd : KD K) (o : Ok K pn σ ε G H A) {i : Nat} {s : Sl} (e : ε[i]? = some s) (h : dlS s = true) : ∃ v, σ[i]? = some (some v) ∧ tyX K "dict" v H := by
  have hs : isOwS s = true := by
    cases s <;> first | rfl | cases h
  obtain ⟨w, B, R, h1, h2, h3, _⟩ := HSs.at_ _ _ _ _ _ o.st e
  obtain ⟨v, rfl, h4⟩ := hs_ow h2 (isOw_ne hs)
  refine ⟨v, h1, ?_⟩
  cases s <;> first | (cases h; done) | skip
  · obtain ⟨P, kr, vs, rfl, _, h3, _⟩ := h4
    exact .inr (.inr ⟨rfl, P, _, kr, vs, rfl, h3.v⟩)
  · obtain ⟨P, kr, vs, C, rfl, _, h3, _⟩ := h4
    exact .inr (.inr ⟨rfl, P, _, kr, vs, rfl, h3.v⟩)
/-- setdefault at a slot of ours, which is taken out: the dict as a new tree, the found one's place -/
theorem sd_sound (a1 : Aft K pn σ ε G H A σ ε1 G1 H1 A1) {i : Nat} {s1 : Sl} {x : D} {y1 : V} {new : Sl} {u : HO} {ks : List D} {cs : List Sl} {n : Nat} (e : ε1[i]? = some s1) (hs : isOwS s1 = true) (hp : pn.io.rep i = true) (hf : pn.fz = false)
    (ei : sdIns (some s1) x new = some (ks, cs, n)) (r : Rp K G1 x y1) (hnew : ∀ p, HV K G1 (upd H1 p u) new (.ref p) [p]) {v : V} (hv : σ[i]? = some (some v)) {p : Addr} (hp0 : H1 p = none) {Q : VK}
    (k : ∀ w Hx R B, Aft K pn σ ε G H A σ (ε1.set i .no) G1 Hx R → HV K G1 Hx (.dl ks cs) v B → (R ++ B).Nodup → (∀ b ∈ B, G1 b = none ∧ (b ∈ A ∨ H b = none)) → (∃ P kr vs C, v = .ref P ∧ B = P :: C ∧ DcAt K Hx P ks kr vs ∧ Rps K G1 ks kr ∧ HVs K G1 Hx cs vs C ∧ vs[n]? = some w) → Q w Hx) :
    rSd K v [y1, .ref p] (upd H1 p u) Q := by
  obtain ⟨v', B, R, t1, t2, t3, t4, t5⟩ := a1.ok.take e hs hp
  rw [hv] at t1
  cases t1
  obtain ⟨b1, gp, np⟩ := Aft.new a1.ok (u := u) hp0
  obtain ⟨P, ks0, cs0, kr, vs, C, rfl, rfl, d1, d2, d3, d4, d5, d6⟩ := ds_hv t2 ei
  have hPA : P ∈ A1 := t5 P (.inr List.mem_cons_self)
  have nPp : P ≠ p := fun z => np (z ▸ hPA)
  have pC : ∀ b ∈ C, b ≠ p := fun b hb z => np (z ▸ t5 b (.inr (List.mem_cons_of_mem _ hb)))
  obtain ⟨n1, n2, n3⟩ := List.nodup_append.mp t4
  obtain ⟨n4, n5⟩ := List.nodup_cons.mp n2
  have d1' : DcAt K (upd H1 p u) P ks0 kr vs := d1.at fun o q => by rw [upd_ne nPp]; exact q
  have d3' : HVs K G1 (upd H1 p u) cs0 vs C := HVs.mono (Ex.refl G1) _ _ _ (fun b hb => upd_ne (pC b hb)) d3
  have o2 : Ok K pn σ (ε1.set i .no) G1 (upd H1 p u) R := t3.upd gp fun z => np (t5 p (.inl z))
  have old : ∀ b, b ∈ A1 → b ∈ A ∨ H b = none := fun b hb => a1.w b hb
  have aft : Aft K pn σ ε G H A σ (ε1.set i .no) G1 (upd H1 p u) R := ⟨o2, a1.g, fun b o h1 h2 => by
    have h3 := a1.h b o h1 h2
    rw [upd_ne (ne_of_none h3 hp0)]; exact h3, a1.f, fun b hb => old b (t5 b (.inl hb)), fun z => by rw [hf] at z; cases z⟩
  have ex2 : Ex G1 (upd H1 p u) := o2.ex
  have rk : Rps K (upd H1 p u) ks0 kr := Rps.mono ex2 _ _ d2
  have ry : Rp K (upd H1 p u) x y1 := Rp.mono ex2 _ _ r
  refine ⟨y1, .ref p, rfl, ?_⟩
  rcases d6 with ⟨e1, rfl, rfl⟩ | ⟨e1, rfl, rfl, rfl⟩
  · have hn : n < vs.length := by rw [dc_lens d1]; exact ixk_lt e1
    refine .inl ⟨vs[n], ⟨P, ks, kr, vs, x, rfl, d1'.v, rk, ry, d5, by rw [e1, Option.bind_some, List.getElem?_eq_getElem hn]⟩, ?_⟩
    exact k _ _ R (P :: C) aft ⟨P, kr, vs, C, rfl, rfl, d1', d2, d3'⟩ t4 (fun b hb => ⟨a1.ok.gn b (t5 b (.inr hb)), old b (t5 b (.inr hb))⟩) ⟨P, kr, vs, C, rfl, rfl, d1', d2, d3', List.getElem?_eq_getElem hn⟩
  · refine .inr ⟨P, ks0, kr, vs, x, rfl, d1', rk, ry, d5, e1, Nat.lt_of_lt_of_le d4 (by decide), fun o ho => ?_⟩
    unfold putKs putR putV at ho
    rw [e1] at ho
    have ho : DcAt K (upd (upd H1 p u) P o) P (ks0 ++ [x]) (kr ++ [y1]) (vs ++ [.ref p]) := ho
    have hHx : ∀ b, b ≠ P → upd (upd H1 p u) P o b = upd H1 p u b := fun b hb => upd_ne hb
    have hC : HVs K G1 (upd (upd H1 p u) P o) (cs0 ++ [new]) (vs ++ [.ref p]) (C ++ [p]) := by
      refine HVs.app (HVs.mono (Ex.refl G1) _ _ _ (fun b hb => hHx b fun z => n4 (z ▸ hb)) d3') (HV.mono (Ex.refl G1) _ _ _ (fun b hb => ?_) (hnew p))
      rw [List.mem_singleton.mp hb]
      exact hHx p (Ne.symm nPp)
    have nB : (R ++ (P :: (C ++ [p]))).Nodup := by
      refine List.nodup_append.mpr ⟨n1, List.nodup_cons.mpr ⟨fun z => ?_, List.nodup_append.mpr ⟨n5, by simp, fun b hb c hc z => ?_⟩⟩, fun b hb c hc z => ?_⟩
      · rcases List.mem_append.mp z with z | z
        · exact n4 z
        · exact nPp (List.mem_singleton.mp z)
      · rw [List.mem_singleton.mp hc] at z
        exact pC b hb z
      · subst z
        rcases List.mem_cons.mp hc with z | hc
        · exact n3 b hb P List.mem_cons_self z
        · rcases List.mem_append.mp hc with hc | hc
          · exact n3 b hb b (List.mem_cons_of_mem _ hc) rfl
          · exact np (List.mem_singleton.mp hc ▸ t5 b (.inl hb))
    have rk2 : Rps K G1 (ks0 ++ [x]) (kr ++ [y1]) := Rps.snoc d2 r
    have gP : G1 P = none := a1.ok.gn P hPA
    have aft2 : Aft K pn σ ε G H A σ (ε1.set i .no) G1 (upd (upd H1 p u) P o) R := aft.updT gP (fun z => n3 P z P List.mem_cons_self rfl) (old P hPA) hf
    refine k _ _ R (P :: (C ++ [p])) aft2 ⟨P, _, _, _, rfl, rfl, ho, rk2, hC⟩ nB (fun b hb => ?_) ⟨P, _, _, _, rfl, rfl, ho, rk2, hC, ?_⟩
    · rcases List.mem_cons.mp hb with z | hb
      · rw [z]; exact ⟨gP, old P hPA⟩
      · rcases List.mem_append.mp hb with hb | hb
        · have := t5 b (.inr (List.mem_cons_of_mem _ hb))
          exact ⟨a1.ok.gn b this, old b this⟩
        · rw [List.mem_singleton.mp hb]
          exact ⟨gp, old_subS a1 (.inr hp0)⟩
    · rw [← dc_lens d1, List.getElem?_append_right (Nat.le_refl _), Nat.sub_self]
      rfl
/-- .. and back again, with another content of the found one -/
theorem sd_fin {εm : En} {R C : List Addr} {P q : Addr} {ks : List D} {cs : List Sl} {kr vs : List V} {Hx : Hp} {n i : Nat} {cn : Sl} (af : Aft K pn σ ε G H A σ εm G1 Hx R) (d1 : DcAt K Hx P ks kr vs) (d2 : Rps K G1 ks kr) (d3 : HVs K G1 Hx cs vs C) (hn : (R ++ (P :: C)).Nodup)
    (hb : ∀ b ∈ P :: C, G1 b = none ∧ (b ∈ A ∨ H b = none)) (d4 : vs[n]? = some (.ref q)) (q3 : cs[n]? = some cn) (hB : ∀ B1, HV K G1 Hx cn (.ref q) B1 → B1 = [q]) (a2 : Aft K pn σ εm G1 Hx R σ ε2 G2 H2 A2) (hf : pn.fz = false) (hp : pn.io.rep i = true) (v1 : σ[i]? = some (some (.ref P))) :
    H2 q = Hx q ∧ ∀ u cn', HV K G2 (upd H2 q u) cn' (.ref q) [q] → ∃ A', Aft K pn σ ε G H A σ (ε2.set i (.dl ks (cs.set n cn'))) G2 (upd H2 q u) A' := by
  obtain ⟨n1, n2, n3⟩ := List.nodup_append.mp hn
  obtain ⟨n4, n5⟩ := List.nodup_cons.mp n2
  have hv : HV K G1 Hx (.dl ks cs) (.ref P) (P :: C) := ⟨P, kr, vs, C, rfl, rfl, d1, d2, d3⟩
  have lvB := HV.lv _ _ _ hv
  have kB : ∀ b ∈ P :: C, H2 b = Hx b := fun b hb => by
    obtain ⟨u, hu⟩ := lv_some (lvB b hb)
    rw [hu]
    exact a2.h b u (fun z => n3 b z b hb rfl) hu
  obtain ⟨w', B1, R1, x1, x2, x3, x4⟩ := HVs.at_ cs vs C n cn d3 q3
  rw [d4] at x1
  cases x1
  cases hB B1 x2
  have qC : q ∈ C := x3.mem_iff.mpr (List.mem_append_left _ List.mem_cons_self)
  have qB : q ∈ P :: C := List.mem_cons_of_mem _ qC
  have nq := x3.nodup_iff.mp n5
  obtain ⟨j1, j2, j3⟩ := tmp_join af hv hn hb a2 (T := []) (by rw [List.append_nil]; exact a2.ok.nd) (fun _ z => nomatch z)
  refine ⟨kB q qB, fun u cn' hc => ?_⟩
  have qR1 : q ∉ R1 := fun z => (List.nodup_append.mp nq).2.2 q List.mem_cons_self q z rfl
  obtain ⟨C', c1, c2⟩ := x4 G2 (upd H2 q u) cn' (.ref q) [q] a2.g (fun b hb => by
    rw [upd_ne fun y => qR1 (by rw [← y]; exact hb)]
    exact kB b (List.mem_cons_of_mem _ (x3.mem_iff.mpr (List.mem_append_right _ hb)))) hc
  rw [set_same d4] at c2
  have pC : C'.Perm C := c1.trans x3.symm
  have nA2 : ∀ b ∈ P :: C, b ∉ A2 := fun b hb z => (List.nodup_append.mp j2).2.2 b z b (List.mem_append_left _ hb) rfl
  have gq : G2 q = none := (j3 q (List.mem_append_left _ qB)).1
  have a3 : Aft K pn σ ε G H A σ ε2 G2 (upd H2 q u) A2 := (af.trans a2).updT gq (nA2 q qB) (hb q qB).2 hf
  have hP : upd H2 q u P = Hx P := by
    rw [upd_ne fun z => n4 (by rw [z]; exact qC)]
    exact kB P List.mem_cons_self
  have tree : HV K G2 (upd H2 q u) (.dl ks (cs.set n cn')) (.ref P) (P :: C') := ⟨P, kr, vs, C', rfl, rfl, d1.at fun o e => by rw [hP]; exact e, Rps.mono a2.g _ _ d2, c2⟩
  have mm : ∀ b ∈ P :: C', b ∈ P :: C := fun b hb => by
    rcases List.mem_cons.mp hb with z | hb
    · rw [z]; exact List.mem_cons_self
    · exact List.mem_cons_of_mem _ (pC.mem_iff.mp hb)
  obtain ⟨A', a4⟩ := a3.own tree (List.nodup_append.mpr ⟨a2.ok.nd, List.nodup_cons.mpr ⟨fun z => n4 (pC.mem_iff.mp z), pC.nodup_iff.mpr n5⟩, fun b hb c hc z => nA2 c (mm c hc) (z ▸ hb)⟩) (fun b hb => j3 b (List.mem_append_left _ (mm b hb))) hp
  rw [set_val v1] at a4
  exact ⟨A', a4⟩
end
end Mq
/-! A small language over HandS, 18: statements, the theorem. -/
namespace Mq
open PySem L2 Evl
open SX (S S_len S_cat S_inj)
section
variable {K : Kx} {G G' H H' G1 G2 H1 H2 : Hp} {pn : Pin} {σ σ1 σ2 : L2.St} {ε ε1 ε2 : En} {A A1 A2 A' B T : List Addr} {Z : Rc} {W : WX}
theorem at_same {rp : RP} {v0 v0' : V} {u u' : V} (h1 : σ[rp.1]? = some (some v0)) (h2 : AtH K H v0 rp.2 u) (h3 : σ[rp.1]? = some (some v0')) (h4 : AtH K H v0' rp.2 u') : u = u' := by
  rw [h1] at h3
  cases h3
  exact AtH.det _ _ _ _ h2 h4
theorem arP_same {rp : RP} {v0' u u' : V} (h : ArP K σ (.p rp) u G H) (h3 : σ[rp.1]? = some (some v0')) (h4 : AtH K H v0' rp.2 u') : u = u' := by
  obtain ⟨v0, h1, h2⟩ := h
  exact at_same h1 h2 h3 h4
theorem setS_nil (s y : Sl) : setS s [] y = y := by unfold setS; rfl
theorem getS_snoc : ∀ (ps : List Stp) (s x : Sl) (p : Stp), getS s (ps ++ [p]) = some x → ∃ t, getS s ps = some t ∧ getS t [p] = some x ∧ ∀ y, setS s (ps ++ [p]) y = setS s ps (setS t [p] y)
  | [], s, x, p, e => ⟨s, by unfold getS; rfl, e, fun y => (setS_nil _ _).symm⟩
  | a :: ps, s, x, p, e => by
    have e : getS s (a :: (ps ++ [p])) = some x := e
    unfold getS at e
    obtain ⟨i, e1, e'⟩ := Option.bind_eq_some_iff.mp e
    obtain ⟨k, e2, ee⟩ := Option.bind_eq_some_iff.mp e'
    obtain ⟨t, t1, t2, t3⟩ := getS_snoc ps k x p ee
    refine ⟨t, by unfold getS; rw [e1, Option.bind_some, e2, Option.bind_some]; exact t1, t2, fun y => ?_⟩
    show setS s (a :: (ps ++ [p])) y = setS s (a :: ps) (setS t [p] y)
    have hset : ∀ (q : List Stp) x', setS s (a :: q) x' = withKid s i (setS k q x') := fun q x' => by
      conv => lhs; unfold setS
      rw [e1]
      simp only [e2]
    rw [hset, hset, t3]
theorem getP_f {rp : RP} {f : Nat} {x : Sl} (e : getP ε (rp.1, rp.2 ++ [.f f]) = some x) : ∃ c fn fv i, getP ε rp = some (.ob c fn fv) ∧ fix fn f = some i ∧ fv[i]? = some x ∧ ∀ y, setP ε (rp.1, rp.2 ++ [.f f]) y = setP ε rp (.ob c fn (fv.set i y)) := by
  obtain ⟨s, e1, e2⟩ := getP_slot e
  obtain ⟨t, t1, t2, t3⟩ := getS_snoc _ _ _ _ e2
  have t2' := t2
  unfold getS at t2
  obtain ⟨i, q1, q2⟩ := Option.bind_eq_some_iff.mp t2
  obtain ⟨k, q3, q4⟩ := Option.bind_eq_some_iff.mp q2
  have q4 : some k = some x := by unfold getS at q4; exact q4
  obtain rfl : x = k := (Option.some.inj q4).symm
  cases t with
  | ob c fn fv =>
    have q1 : fix fn f = some i := q1
    have q3 : fv[i]? = some x := q3
    refine ⟨c, fn, fv, i, by unfold getP; rw [show ε[rp.1]? = some s from e1]; exact t1, q1, q3, fun y => ?_⟩
    have e1 : ε[rp.1]? = some s := e1
    unfold setP
    rw [e1]
    show ε.set rp.1 (setS s (rp.2 ++ [.f f]) y) = _
    rw [t3 y]
    congr 2
    conv => lhs; unfold setS
    rw [show stepIx (Sl.ob c fn fv) (.f f) = some i from q1]
    simp only [show (kids (Sl.ob c fn fv))[i]? = some x from q3]
    show withKid _ i (setS x [] y) = _
    unfold setS
    rfl
  | no => cases q1
  | ex => cases q1
  | da _ => cases q1
  | ls _ => cases q1
  | dk _ _ => cases q1
  | lo _ => cases q1
  | dl _ _ => cases q1
end
theorem dstK_len {P : Pa} {ε' : En} : ∀ (ks : List (List Nat)) (xs : List D) (ε : En), dstK P ks xs ε = some ε' → ks.length = xs.length
  | [], [], _, _ => rfl
  | [], _ :: _, _, e => by cases e
  | _ :: _, [], _, e => by cases e
  | k :: r, x :: xs, ε, e => by
    unfold dstK at e
    split at e
    · cases e
    · split at e
      · split at e
        · rw [List.length_cons, List.length_cons, dstK_len r xs _ e]
        · cases e
      · cases e
theorem dstK_sound {Z : Rc} {c : Cn} {pn : Pin} {σ : L2.St} {P : Pa} {ε' : En} {Q : L2.St → Hp → Prop} (hz : Z.Fine c pn) (hf : pn.fz = false) : ∀ (ks : List (List Nat)) (xs : List D) (vs : List V) {ε : En} {G H : Hp} {A : List Addr}, Ok Z.K pn σ ε G H A → dstK P ks xs ε = some ε' → Rps Z.K G xs vs →
    (∀ G' H' A', Aft Z.K pn σ ε G H A σ ε' G' H' A' → Q σ H') → gDks Z P ks vs σ H Q
  | [], [], vs, ε, G, H, A, o, e, r, k => by
    cases r
    cases e
    exact ⟨rfl, k G H A (Aft.refl o)⟩
  | [], _ :: _, _, _, _, _, _, _, e, _, _ => by cases e
  | _ :: _, [], _, _, _, _, _, _, e, _, _ => by cases e
  | kk :: r, x :: xs, vs, ε, G, H, A, o, e, rr, k => by
    obtain ⟨v, us, rfl, rx, rr⟩ := rr
    unfold dstK at e
    split at e
    · cases e
    · rename_i rp q
      split at e
      · rename_i ks0 ds0 e0
        split at e
        · rename_i hc
          obtain ⟨v1, p', kr, ws, g1, g2, g3, g4, g5, g6⟩ := put_dk hz.kd o e0
          refine ⟨v, us, rfl, pa_read hz o q g1 g2 ⟨p', ks0, kr, ws, .str kk, rfl, g3, Rps.mono o.ex _ _ g4, rfl, hc.2, Nat.lt_of_lt_of_le hc.1 (by decide), fun w hw => ?_⟩⟩
          obtain ⟨A', a3⟩ := g6 hf w _ _ _ _ hw (putKs_rps g4 (show Rp Z.K G (.str kk) (.str (S kk)) from rfl)) (putV_rps g5 rx)
          exact dstK_sound hz hf r xs us a3.ok e (Rps.mono a3.g _ _ rr) fun G' H' A' a => k G' H' A' (a3.trans a)
        · cases e
      · cases e
mutual
theorem S_.sound : ∀ (s : S_) {Z : Rc} {W : WX} {c : Cn} {pn : Pin} (hz : Z.Fine c pn) {σ : L2.St} {ε : En} {G H : Hp} {A : List Addr} {D : Ends}, Ok Z.K pn σ ε G H A → SPost Z W pn σ ε G H A D (s.run c pn.io ε) → s.rd Z W D σ H
  | .asg p e, Z, W, c, pn, hz, σ, ε, G, H, A, D, o, h => by
    unfold S_.run at h
    refine E.sound e hz o (Post.bd0 oSPost h fun x ε1 v G1 H1 A1 a1 r1 h1 => ?_)
    cases q : p.run pn.io x ε1 with
    | no => rw [q] at h1; exact h1.elim
    | er x ε1 => exact (Pt.not_er q).elim
    | ok u ε2 =>
      rw [q] at h1
      exact Pt.sound a1.ok q r1 fun σ2 A2 o2 w2 _ => h1 σ2 G1 H1 A2 (Aft.sub a1.ok o2 w2)
  | .own i m, Z, W, c, pn, hz, σ, ε, G, H, A, D, o, h => by
    unfold S_.run at h
    refine M.sound m hz o (FPost.bd oSPost h fun s ε1 v G1 H1 A1 B a1 hv ho hn hb h1 => ?_)
    split at h1
    · rename_i hi
      obtain ⟨A', a2⟩ := a1.own hv hn hb hi.2
      exact h1 _ G1 H1 A' a2
    · exact h1.elim
  | .aug i p e, Z, W, c, pn, hz, σ, ε, G, H, A, D, o, h => by
    unfold S_.run at h
    split at h
    · rename_i a e0
      obtain ⟨va, w1, w2⟩ := o.da e0
      cases (show va = V.int a from w2)
      refine ⟨_, w1, E.sound e hz o (Post.bd0 oSPost h fun y ε1 v G1 H1 A1 a1 r1 h1 => ?_)⟩
      split at h1
      · rename_i d b e1
        cases (show v = V.int b from r1)
        have fin : ∀ z, ∃ A', Aft Z.K pn σ ε1 G1 H1 A1 (σ.set i (some (V.int z))) (ε1.set i (.da (.int z))) G1 H1 A' := fun z => by
          by_cases hp : pn.io.rep i = true
          · obtain ⟨A', o', s'⟩ := a1.ok.setD (j := i) (d := .int z) (v := V.int z) hp rfl
            exact ⟨A', Aft.sub a1.ok o' s'⟩
          · exfalso
            have hm : i ∈ pn.l.map (·.1) := by
              have hp : ¬ (!(pn.l.map (·.1)).contains i) = true := hp
              cases q : (pn.l.map (·.1)).contains i
              · rw [q] at hp; exact absurd rfl hp
              · exact List.contains_iff_mem.mp q
            obtain ⟨q, hq, eq⟩ := List.mem_map.mp hm
            obtain ⟨_, s, q2, q3⟩ := a1.ok.pin q hq
            rw [eq, e1] at q2
            cases q2
            cases q3
        split at h1
        · obtain ⟨A', a2⟩ := fin (a + b)
          exact ⟨a, b, rfl, rfl, h1 _ G1 H1 A' a2⟩
        · obtain ⟨A', a2⟩ := fin (a - b)
          exact ⟨a, b, rfl, rfl, h1 _ G1 H1 A' a2⟩
        · exact h1.elim
      · exact h1.elim
    · exact h.elim
  | .app P e, Z, W, c, pn, hz, σ, ε, G, H, A, D, o, h => by
    unfold S_.run at h
    cases q : P.res ε with
    | none => rw [q] at h; exact h.elim
    | some rp =>
      rw [q] at h
      dsimp only at h
      split at h
      · rename_i ds0 e0
        obtain ⟨v0, p, vs0, f1, f2, f3, f4, _⟩ := put_ls hz.kd o e0
        refine pa_read hz o q f1 f2 ⟨.inl (.inl ⟨rfl, vs0, SqL.of f3⟩), ?_⟩
        rw [← fzd_io] at h
        refine E.sound e hz.fzd o.fzd (Post.bd oSPost h fun y ε1 v G1 H1 A1 a1 r1 h1 => ?_)
        split at h1
        · rename_i hf
          split at h1
          · rename_i ds e1
            split at h1
            · rename_i hl
              obtain ⟨v1, p', vs, g1, g2, g3, g4, g5⟩ := put_ls hz.kd a1.unfz.ok e1
              cases arP_same (ArP.aft (x := .p rp) (G1 := G) (H1 := H) ⟨v0, f1, f2⟩ a1) g1 g2
              obtain ⟨A', a2⟩ := g5 (fz_f hf) (ds ++ [y]) (vs ++ [v]) (Rps.snoc g4 r1)
              exact ⟨p, vs, v, rfl, rfl, g3, by rw [Rps.length _ _ g4]; exact Nat.lt_of_lt_of_le hl (by decide), h1 σ G1 _ A' a2⟩
            · exact h1.elim
          · exact h1.elim
        · exact h1.elim
      · exact h.elim
  | .dset P k v, Z, W, c, pn, hz, σ, ε, G, H, A, D, o, h => by
    unfold S_.run at h
    refine E.sound v hz o (Post.bd0 oSPost h fun x ε1 u G1 H1 A1 a1 r1 h1 => ?_)
    cases q : P.res ε1 with
    | none => rw [q] at h1; exact h1.elim
    | some rp =>
      rw [q] at h1
      dsimp only at h1
      split at h1
      · rename_i ks0 ds0 e0
        obtain ⟨v0, p, kr0, vs0, f1, f2, f3, f4, f5, _⟩ := put_dk hz.kd a1.ok e0
        refine pa_read hz a1.ok q f1 f2 ?_
        rw [← fzd_io] at h1
        refine E.sound k hz.fzd a1.ok.fzd (Post.bd oSPost h1 fun y ε2 t G2 H2 A2 a2 r2 h2 => ?_)
        split at h2
        · rename_i hf
          split at h2
          · rename_i ks ds e2
            split at h2
            · rename_i hc
              obtain ⟨v1, p', kr, vs, g1, g2, g3, g4, g5, g6⟩ := put_dk hz.kd a2.unfz.ok e2
              cases arP_same (ArP.aft (x := .p rp) (G1 := G1) (H1 := H1) ⟨v0, f1, f2⟩ a2) g1 g2
              refine ⟨p, ks, kr, vs, y, rfl, g3, Rps.mono a2.ok.ex _ _ g4, Rp.mono a2.ok.ex _ _ r2, hc.2, Nat.lt_of_lt_of_le hc.1 (by decide), fun w hw => ?_⟩
              obtain ⟨A', a3⟩ := g6 (fz_f hf) w _ _ _ _ hw (putKs_rps g4 r2) (putV_rps g5 (Rp.mono a2.g _ _ r1))
              exact h2 σ G2 _ A' a3
            · exact h2.elim
          · exact h2.elim
        · exact h2.elim
      · exact h1.elim
  | .lset P k v, Z, W, c, pn, hz, σ, ε, G, H, A, D, o, h => by
    unfold S_.run at h
    refine E.sound v hz o (Post.bd0 oSPost h fun x ε1 u G1 H1 A1 a1 r1 h1 => ?_)
    cases q : P.res ε1 with
    | none => rw [q] at h1; exact h1.elim
    | some rp =>
      rw [q] at h1
      dsimp only at h1
      split at h1
      · rename_i ds0 e0
        obtain ⟨v0, p, vs0, f1, f2, f3, f4, _⟩ := put_ls hz.kd a1.ok e0
        refine pa_read hz a1.ok q f1 f2 ?_
        rw [← fzd_io] at h1
        refine E.sound k hz.fzd a1.ok.fzd (Post.bd oSPost h1 fun y ε2 t G2 H2 A2 a2 r2 h2 => ?_)
        split at h2
        · rename_i hf
          split at h2
          · rename_i ds n e2
            split at h2
            · rename_i j hj
              obtain ⟨v1, p', vs, g1, g2, g3, g4, g5⟩ := put_ls hz.kd a2.unfz.ok e2
              cases arP_same (ArP.aft (x := .p rp) (G1 := G1) (H1 := H1) ⟨v0, f1, f2⟩ a2) g1 g2
              cases (show t = V.int n from r2)
              obtain ⟨A', a3⟩ := g5 (fz_f hf) (ds.set j x) (vs.set j u) (Rps.set _ _ _ _ _ g4 (Rp.mono a2.g _ _ r1))
              exact ⟨p, vs, n, j, rfl, rfl, g3, by { rw [Rps.length _ _ g4]; by_cases h0 : 0 ≤ n; { rw [if_pos h0] at hj; exact ⟨h0, hj⟩ }; { rw [if_neg h0] at hj; cases hj } }, h2 σ G2 _ A' a3⟩
            · exact h2.elim
          · exact h2.elim
        · exact h2.elim
      · exact h1.elim
  | .upd P e, Z, W, c, pn, hz, σ, ε, G, H, A, D, o, h => by
    unfold S_.run at h
    cases q : P.res ε with
    | none => rw [q] at h; exact h.elim
    | some rp =>
      rw [q] at h
      dsimp only at h
      split at h
      · rename_i ks0 ds0 e0
        obtain ⟨v0, p, kr0, vs0, f1, f2, f3, f4, f5, _⟩ := put_dk hz.kd o e0
        refine pa_read hz o q f1 f2 ⟨.inr (.inr ⟨rfl, p, _, kr0, vs0, rfl, f3.v⟩), ?_⟩
        rw [← fzd_io] at h
        refine E.sound e hz.fzd o.fzd (Post.bd oSPost h fun y ε1 v G1 H1 A1 a1 r1 h1 => ?_)
        split at h1
        · rename_i hf
          split at h1
          · rename_i ks ds ks2 ds2 e1
            split at h1
            · rename_i hc
              obtain ⟨v1, p', kr, vs, g1, g2, g3, g4, g5, g6⟩ := put_dk hz.kd a1.unfz.ok e1
              cases arP_same (ArP.aft (x := .p rp) (G1 := G) (H1 := H) ⟨v0, f1, f2⟩ a1) g1 g2
              obtain ⟨p2, kr2, vs2, rfl, q1, q2, q3⟩ := r1
              obtain ⟨kv, d1, d2, d3, d4⟩ := dictF g3 hc.2.1
              obtain ⟨lw, b1, b2, b3, b4⟩ := dictV q1 hc.2.2
              have hpA : p ∈ A1 := by
                obtain ⟨v3, u3, B3, R3, z1, z2, z3, z4, _⟩ := a1.ok.focus hz.kd e1 ⟨(fun z => nomatch z), fun z => nomatch z⟩
                obtain ⟨p3, _, _, rfl, rfl, _⟩ := z3
                cases at_same g1 g2 z1 z2
                exact z4.mem_iff.mpr (List.mem_append_left _ List.mem_cons_self)
              have ne : p ≠ p2 := fun z => by
                subst z
                rcases b1 with b1 | ⟨_, b1⟩ <;> rw [a1.ok.gn p hpA] at b1 <;> cases b1
              have l1 : kv.length = ks.length := by
                have := congrArg List.length d2
                rw [List.length_map, List.length_map] at this
                exact this.symm
              have l2 : lw.length = ks2.length := by
                have := congrArg List.length b2
                rw [List.length_map, List.length_map] at this
                exact this.symm
              refine ⟨p, p2, kv, lw, rfl, rfl, ne, d1, b1.imp (a1.ok.ex _ _) (fun ⟨o, b1⟩ => ⟨o, a1.ok.ex _ _ b1⟩), by rw [l1, l2]; exact Nat.le_trans (Nat.le_of_lt hc.1) (by decide), fun nd => ?_⟩
              have ps : PsP Z.K (ks2.zip ds2) (lw.map fun q => (kV q.1, q.2)) G1 H1 := by
                have l3 := Rps.length _ _ q3
                rw [b4, List.length_map] at l3
                refine ⟨by rw [List.length_map, List.length_zip]; omega, fun i q hq => ?_⟩
                obtain ⟨x1, x2⟩ := List.getElem?_zip_eq_some.mp hq
                have hF := List.all_eq_true.mp hc.2.2 q.1 (List.mem_of_getElem? x1)
                refine ⟨hF, ?_⟩
                obtain ⟨w, w1, w2⟩ := Rps.get _ _ _ _ q3 x2
                rw [b4, List.getElem?_map] at w1
                obtain ⟨kw, w3, w4⟩ := Option.map_eq_some_iff.mp w1
                refine ⟨w, ?_, w2⟩
                rw [List.getElem?_map, w3]
                obtain ⟨ky, hk⟩ := isF_ky hF
                have := congrArg (fun l => l[i]?) b2
                have this : (ks2.map kyF)[i]? = (lw.map fun q => some q.1)[i]? := this
                rw [List.getElem?_map, List.getElem?_map, x1, w3] at this
                have this : some (kyF q.1) = some (some kw.1) := this
                rw [hk] at this
                cases this
                show some (kV kw.1, kw.2) = _
                rw [w4]
                obtain ⟨qq, _⟩ := q
                cases qq <;> first | (cases hk; done) | (have hk := Option.some.inj hk; rw [← hk]; rfl)
              obtain ⟨kw, w1, ks', ds', w2, w3⟩ := DkR.fold (H := H1) _ _ ks ds kv ⟨nd, d2, d3 ▸ g4, d4 ▸ g5⟩ ps
              have hkw : lw = kw := by
                have inj : ∀ (a b : List (Key × V)), a.map (fun q => (kV q.1, q.2)) = b.map (fun q => (kV q.1, q.2)) → a = b := by
                  intro a
                  induction a with
                  | nil => intro b hb; cases b with
                    | nil => rfl
                    | cons _ _ => cases hb
                  | cons x xs ih =>
                    intro b hb
                    cases b with
                    | nil => cases hb
                    | cons y ys =>
                      rw [List.map_cons, List.map_cons] at hb
                      injection hb with h1 h2
                      injection h1 with h3 h4
                      obtain ⟨x1, x2⟩ := x
                      obtain ⟨y1, y2⟩ := y
                      have h4 : x2 = y2 := h4
                      subst h4
                      have h3 : kV x1 = kV y1 := h3
                      have h5 : x1 = y1 := by
                        cases x1 <;> cases y1 <;> first | (cases h3; rfl) | (cases h3; done)
                      rw [h5, ih ys h2]
                exact inj _ _ w1
              subst hkw
              have h1 : SPost Z W pn σ ε1 G1 H1 A1 D (.ok .nxt (setP ε1 rp ((ks2.zip ds2).foldl dkFold (.dk ks ds)))) := h1
              rw [w2] at h1
              obtain ⟨A', a2⟩ := g6 (fz_f hf) (.dK (mergeK kv lw)) ks' ds' _ _ (DkR.at w3 upd_same) w3.2.2.1 w3.2.2.2
              exact h1 σ G1 _ A' a2
            · exact h1.elim
          · exact h1.elim
        · exact h1.elim
      · exact h.elim
  | .fset P f e, Z, W, c, pn, hz, σ, ε, G, H, A, D, o, h => by
    unfold S_.run at h
    refine E.sound e hz o (Post.bd0 oSPost h fun x ε1 v G1 H1 A1 a1 r1 h1 => ?_)
    cases q : P.res ε1 with
    | none => rw [q] at h1; exact h1.elim
    | some rp =>
      rw [q] at h1
      dsimp only at h1
      split at h1
      · rename_i hf
        cases q2 : ((getP ε1 rp).bind fun s => putFld c.hf s f (.da x)) with
        | none => rw [q2] at h1; exact h1.elim
        | some s =>
          rw [q2] at h1
          obtain ⟨s0, e1, e2⟩ := Option.bind_eq_some_iff.mp q2
          rw [hz.hf] at e2
          obtain ⟨v0, a, cc, dx, fs, A', _, g1, g2, g3, g4, g5, g6⟩ := (Aft.refl a1.ok).fput (T := []) (y := .da x) (v := v) (c := 0) hz.kd e1 e2 ⟨rfl, r1⟩ (by rw [List.append_nil]; exact a1.ok.nd) (fun _ z => nomatch z) (fz_f hf)
          obtain ⟨c1, c2⟩ := hz.cf cc f g4
          exact pa_read hz a1.ok q g1 g2 ⟨a, _, dx, fs, rfl, g3, c1, c2, g5, h1 σ G1 _ A' g6⟩
      · exact h1.elim
  | .fown P f m, Z, W, c, pn, hz, σ, ε, G, H, A, D, o, h => by
    unfold S_.run at h
    refine M.sound m hz o (FPost.bd oSPost h fun x ε1 v G1 H1 A1 B a1 hv ho hn hb h1 => ?_)
    cases q : P.res ε1 with
    | none => rw [q] at h1; exact h1.elim
    | some rp =>
      rw [q] at h1
      dsimp only at h1
      split at h1
      · rename_i hf
        cases q2 : ((getP ε1 rp).bind fun s => putFld c.hf s f x) with
        | none => rw [q2] at h1; exact h1.elim
        | some s =>
          rw [q2] at h1
          obtain ⟨s0, e1, e2⟩ := Option.bind_eq_some_iff.mp q2
          rw [hz.hf] at e2
          obtain ⟨v0, a, cc, dx, fs, A', _, g1, g2, g3, g4, g5, g6⟩ := a1.fput (T := B) (y := x) (v := v) (c := 0) hz.kd e1 e2 hv hn hb (fz_f hf)
          obtain ⟨c1, c2⟩ := hz.cf cc f g4
          exact pa_read hz a1.ok q g1 g2 ⟨a, _, dx, fs, rfl, g3, c1, c2, g5, h1 σ G1 _ A' g6⟩
      · exact h1.elim
  | .faug P f p e, Z, W, c, pn, hz, σ, ε, G, H, A, D, o, h => by
    unfold S_.run at h
    cases q : P.res ε with
    | none => rw [q] at h; exact h.elim
    | some rp =>
      rw [q] at h
      dsimp only at h
      split at h
      · rename_i a e0
        obtain ⟨cc, fn, fv, i, o1, o2, o3, _⟩ := getP_f e0
        obtain ⟨v0, u, B, R, f1, f2, f3, _⟩ := o.focus hz.kd o1 ⟨(fun z => nomatch z), fun z => nomatch z⟩
        obtain ⟨ad, dx, fs, C, rfl, rfl, g1, g2, g3, g4, g5⟩ := f3
        have hn := g4 f (List.mem_of_getElem? (fix_mem o2))
        obtain ⟨c1, c2⟩ := hz.cf cc f hn
        obtain ⟨w, B2, R2, w1, w2, _⟩ := HVs.at_ fv _ C i _ g5 o3
        cases (show w = V.int a from w2.2)
        refine pa_read hz o q f1 f2 ⟨ad, _, dx, fs, _, rfl, g1, c1, c2, by rw [fix_lookup hz.kd hn g3 g4, o2]; exact w1, ?_⟩
        have h : SPost Z W pn σ ε G H A D ((e.run c (pn.fzd true).io ε).bind fun y ε1 => if (!pn.io.fz) = true then match y with
          | .int b => match augV p a b with
            | some z => match (getP ε1 rp).bind fun s => putFld c.hf s f (.da (.int z)) with
              | some s => .ok .nxt (setP ε1 rp s)
              | none => .no
            | none => .no
          | _ => .no
          else .no) := h
        refine E.sound e hz.fzd o.fzd (Post.bd oSPost h fun y ε1 v G1 H1 A1 a1 r1 h1 => ?_)
        split at h1
        · rename_i hf
          split at h1
          · rename_i b
            cases (show v = V.int b from r1)
            cases qz : augV p a b with
            | none => rw [qz] at h1; exact h1.elim
            | some z =>
              rw [qz] at h1
              dsimp only at h1
              cases q2 : ((getP ε1 rp).bind fun s => putFld c.hf s f (.da (.int z))) with
              | none => rw [q2] at h1; exact h1.elim
              | some s =>
                rw [q2] at h1
                obtain ⟨s0, e1, e2⟩ := Option.bind_eq_some_iff.mp q2
                rw [hz.hf] at e2
                have exH : Ex H H1 := a1.z (show (pn.fz || true) = true from Bool.or_true _)
                obtain ⟨v0', a', cc', dx', fs', A', _, k1, k2, k3, k4, k5, k6⟩ := (Aft.refl a1.ok.unfz).fput (T := []) (y := .da (.int z)) (v := .int z) (c := 0) hz.kd e1 e2 ⟨rfl, rfl⟩ (by rw [List.append_nil]; exact a1.ok.nd) (fun _ z => nomatch z) (fz_f hf)
                cases at_same f1 (AtH.ex exH _ _ _ f2) k1 k2
                have g1' := exH _ _ g1
                rw [k3] at g1'
                injection g1' with g1'
                injection g1' with c3 c4 c5
                rw [← c3]
                have hz' : augF p a b = z := by
                  cases p <;> first | (cases qz; done) | exact Option.some.inj qz
                exact ⟨a, b, rfl, rfl, dx', fs', k3, k5, by rw [hz']; exact h1 σ G1 _ A' k6⟩
          · exact h1.elim
        · exact h1.elim
      · exact h.elim
  | .sdapp i k e, Z, W, c, pn, hz, σ, ε, G, H, A, D, o, h => by
    unfold S_.run at h
    cases q0 : ε[i]? with
    | none => rw [q0] at h; exact h.elim
    | some s0 =>
      rw [q0] at h
      dsimp only at h
      split at h
      · rename_i hc
        rw [Bool.and_eq_true, Bool.and_eq_true] at hc
        obtain ⟨⟨hf, hp⟩, hd⟩ := hc
        obtain ⟨v, v1, v2⟩ := dls_ty hz.kd o q0 hd
        have key : tBMX Z.K "dict" (rSd Z.K) (tVar i) (tCons (k.rd Z W) (tCons (tLst tNil) tNil)) σ H fun x H1 => tyX Z.K "list" x H1 ∧ tCons (e.rd Z W) tNil σ H1 fun xs H2 => rAppend x xs H2 fun _ H' => D.nx σ H' := by
          refine ⟨v, v1, v2, ?_⟩
          refine E.sound k hz o (Post.bd0 oSPost h fun x ε1 y1 G1 H1 A1 a1 r1 h1 => ?_)
          cases q1 : sdIns (ε1[i]?) x (.ls []) with
          | none => rw [q1] at h1; exact h1.elim
          | some t =>
            obtain ⟨ks, cs, n⟩ := t
            rw [q1] at h1
            dsimp only at h1
            refine ⟨by decide, fun p hp0 => ?_⟩
            cases q2 : ε1[i]? with
            | none => rw [q2] at q1; cases q1
            | some s1 =>
              rw [q2] at q1
              have hs1 : isOwS s1 = true := by
                unfold sdIns at q1
                split at q1
                · rename_i es; cases es; rfl
                · rename_i es; cases es; rfl
                · cases q1
              split at h1
              · rename_i ds q3
                unfold tNil
                dsimp only
                refine sd_sound (Aft.refl a1.ok) q2 hs1 hp (fz_f hf) q1 r1 (fun p => ⟨p, [], rfl, rfl, upd_same, rfl⟩) v1 hp0 fun w Hx R B af hv hn hb hw => ?_
                obtain ⟨P, kr, vs, C, rfl, rfl, d1, d2, d3, d4⟩ := hw
                obtain ⟨w', B1, R1, x1, x2, x3, x4⟩ := HVs.at_ cs vs C n _ d3 q3
                rw [d4] at x1
                cases x1
                obtain ⟨ql, us, rfl, rfl, y3, y4⟩ := x2
                refine ⟨.inl (.inl ⟨rfl, us, SqL.of y3⟩), ?_⟩
                refine E.sound e hz af.ok (Post.bdS oSPost af h1 fun y ε2 t G2 H2 A2 a2 r2 h2 => ?_)
                split at h2
                · rename_i hl
                  obtain ⟨e1, fin⟩ := sd_fin af d1 d2 d3 hn hb d4 q3 (fun B1 hB => by obtain ⟨_, _, e, rfl, _⟩ := hB; cases e; rfl) a2 (fz_f hf) hp v1
                  obtain ⟨A', a5⟩ := fin (.lst (us ++ [t])) (.ls (ds ++ [y])) ⟨ql, _, rfl, rfl, upd_same, Rps.snoc (Rps.mono a2.g _ _ y4) r2⟩
                  exact ⟨ql, us, t, rfl, rfl, by rw [e1]; exact y3, by rw [Rps.length _ _ y4]; exact Nat.lt_of_lt_of_le hl (by decide), h2 σ G2 _ A' a5⟩
                · exact h2.elim
              · exact h1.elim
        exact key
      · exact h.elim
  | .sdset i k k2 v, Z, W, c, pn, hz, σ, ε, G, H, A, D, o, h => by
    unfold S_.run at h
    refine E.sound v hz o (Post.bd0 oSPost h fun z ε1 vz G1 H1 A1 a1 rz h1 => ?_)
    cases q0 : ε1[i]? with
    | none => rw [q0] at h1; exact h1.elim
    | some s0 =>
      rw [q0] at h1
      dsimp only at h1
      split at h1
      · rename_i hc
        rw [Bool.and_eq_true, Bool.and_eq_true] at hc
        obtain ⟨⟨hf, hp⟩, hd⟩ := hc
        obtain ⟨v, v1, v2⟩ := dls_ty hz.kd a1.ok q0 hd
        refine ⟨v, v1, v2, ?_⟩
        refine E.sound k hz a1.ok (Post.bd0 oSPost h1 fun x ε2 y1 G2 H2 A2 a2 r1 h2 => ?_)
        cases q1 : sdIns (ε2[i]?) x (.dk [] []) with
        | none => rw [q1] at h2; exact h2.elim
        | some t =>
          obtain ⟨ks, cs, n⟩ := t
          rw [q1] at h2
          dsimp only at h2
          intro p hp0
          cases q2 : ε2[i]? with
          | none => rw [q2] at q1; cases q1
          | some s1 =>
            rw [q2] at q1
            have hs1 : isOwS s1 = true := by
              unfold sdIns at q1
              split at q1
              · rename_i es; cases es; rfl
              · rename_i es; cases es; rfl
              · cases q1
            split at h2
            · rename_i kk dd q3
              unfold tNil
              dsimp only
              refine sd_sound (Aft.refl a2.ok) q2 hs1 hp (fz_f hf) q1 r1 (fun p => ⟨p, [], [], rfl, rfl, dcAt_nil upd_same, rfl, rfl⟩) v1 hp0 fun w Hx R B af hv hn hb hw => ?_
              obtain ⟨P, kr, vs, C, rfl, rfl, d1, d2, d3, d4⟩ := hw
              obtain ⟨w', B1, R1, x1, x2, x3, x4⟩ := HVs.at_ cs vs C n _ d3 q3
              rw [d4] at x1
              cases x1
              obtain ⟨ql, kr2, us, rfl, rfl, y3, y4, y5⟩ := x2
              refine E.sound k2 hz af.ok (Post.bdS oSPost af h2 fun y ε3 t G3 H3 A3 a3 r3 h3 => ?_)
              split at h3
              · rename_i hl
                obtain ⟨e1, fin⟩ := sd_fin af d1 d2 d3 hn hb d4 q3 (fun B1 hB => by obtain ⟨_, _, _, e, rfl, _⟩ := hB; cases e; rfl) a3 (fz_f hf) hp v1
                have y4' := Rps.mono a3.g _ _ y4
                have y5' := Rps.mono a3.g _ _ y5
                refine ⟨ql, kk, kr2, us, y, rfl, y3.at fun o q => by rw [e1]; exact q, Rps.mono a3.ok.ex _ _ y4', Rp.mono a3.ok.ex _ _ r3, hl.2, Nat.lt_of_lt_of_le hl.1 (by decide), fun u hu => ?_⟩
                obtain ⟨A', a5⟩ := fin u (.dk (putKs kk y) (putV kk y dd z)) ⟨ql, _, _, rfl, rfl, hu, putKs_rps y4' r3, putV_rps y5' (Rp.mono (a2.g.trans (af.g.trans a3.g)) _ _ rz)⟩
                exact h3 σ G3 _ A' a5
              · exact h3.elim
            · exact h2.elim
      · exact h1.elim
  | .drop e, Z, W, c, pn, hz, σ, ε, G, H, A, D, o, h => by
    unfold S_.run at h
    exact E.sound e hz o (Post.bd0 oSPost h fun y ε1 u G1 H1 A1 a1 r1 h1 => h1 σ G1 H1 A1 (Aft.refl a1.ok))
  | .ite t a b, Z, W, c, pn, hz, σ, ε, G, H, A, D, o, h => by
    unfold S_.run at h
    refine T.sound t hz o (Post.bd0 oSPost h fun k ε1 k' G1 H1 A1 a1 r1 h1 => ?_)
    cases (show k = k' from r1)
    cases k with
    | true =>
      rw [if_pos rfl] at h1 ⊢
      exact Ss.sound a hz a1.ok h1
    | false =>
      rw [if_neg Bool.false_ne_true] at h1 ⊢
      exact Ss.sound b hz a1.ok h1
  | .for_ p it b, Z, W, c, pn, hz, σ, ε, G, H, A, D, o, h => by
    unfold S_.run at h
    exact It.sound it hz o (Post.bd0 oSPost h fun ds ε1 J G1 H1 A1 a1 r1 h1 => for_sound (pl := ds.2.isSome) (fun o h => Ss.sound b hz.fzd o h) a1.ok r1 h1)
  | .asgs P ks e, Z, W, c, pn, hz, σ, ε, G, H, A, D, o, h => by
    unfold S_.run at h
    refine E.sound e hz o (Post.bd0 oSPost h fun x ε1 u G1 H1 A1 a1 r1 h1 => ?_)
    split at h1
    · rename_i xs
      split at h1
      · rename_i hf
        split at h1
        · rename_i ε2 e2
          obtain ⟨p, vs, rfl, p1, p2⟩ := r1
          have hl : vs.length = ks.length := by rw [Rps.length _ _ p2]; exact (dstK_len _ _ _ e2).symm
          exact ⟨p, vs, rfl, (p1.mono a1.ok.ex).sq, hl, dstK_sound hz (fz_f hf) ks xs vs a1.ok e2 p2 fun G' H' A' a => h1 _ _ _ _ a⟩
        · exact h1.elim
      · exact h1.elim
    · exact h1.elim
  | .forD p i b, Z, W, c, pn, hz, σ, ε, G, H, A, D, o, h => by
    unfold S_.run at h
    split at h
    · rename_i ks ek
      obtain ⟨p', f1, hh⟩ := dk_data o ek
      rcases hh with ⟨od, kv, g1, g2⟩ | ⟨kv, g1, g2⟩
      · exact .inl ⟨_, f1, p', od, rfl, .inl ⟨kv, o.ex _ _ g1, for_sound (pl := false) (fun o h => Ss.sound b hz.fzd o h) o (wk_keys g1 g2) (spost_noEr h)⟩⟩
      · refine .inr ⟨p', _, o.ex _ _ g1, trivial, fun od => ⟨_, f1, p', od, rfl, .inl ⟨kv, upd_same, ?_⟩⟩⟩
        have hz' : Z.Fine c (pn.lk p' (.frz od (.dK kv))) := fine_lk hz o g1
        exact for_sound (pl := false) (pn := pn.lk p' (.frz od (.dK kv))) (fun o h => Ss.sound b hz'.fzd o h) (ok_lock o g1) (wk_keys upd_same g2) (spost_lock o g1 h)
    · exact h.elim
  | .whl t b, Z, W, c, pn, hz, σ, ε, G, H, A, D, o, h => by
    unfold S_.run at h
    exact whl_sound (fun o h => T.sound t hz o h) (fun o h => Ss.sound b hz o h) o h
  | .ret e, Z, W, c, pn, hz, σ, ε, G, H, A, D, o, h => by
    unfold S_.run at h
    exact E.sound e hz o (Post.bd0 oSPost h fun y ε1 u G1 H1 A1 a1 r1 h1 => h1 σ G1 H1 A1 (Aft.refl a1.ok) u r1)
  | .retn, Z, W, c, pn, hz, σ, ε, G, H, A, D, o, h => by
    unfold S_.run at h
    exact h σ G H A (Aft.refl o) .non rfl
  | .retm m, Z, W, c, pn, hz, σ, ε, G, H, A, D, o, h => by
    unfold S_.run at h
    refine M.sound m hz o (FPost.bd oSPost h fun s ε1 v G1 H1 A1 B a1 hv ho hn hb h1 => ?_)
    refine h1 σ G1 H1 A1 a1 v ?_
    cases s <;> first | (cases ho; done) | exact ⟨B, hv, hn, hb⟩
  | .reto i, Z, W, c, pn, hz, σ, ε, G, H, A, D, o, h => by
    unfold S_.run at h
    split at h
    · rename_i s e
      split at h
      · rename_i hc
        obtain ⟨v, B, A', t1, t2, t3, t4, t5⟩ := o.take e hc.1 hc.2
        refine ⟨v, t1, h σ G H A' (Aft.sub o t3 fun a ha => t5 a (.inl ha)) v ?_⟩
        have hh : ∃ B, HV Z.K G H s v B ∧ (A' ++ B).Nodup ∧ ∀ b ∈ B, G b = none ∧ (b ∈ A ∨ H b = none) := ⟨B, t2, t4, fun b hb => ⟨o.gn b (t5 b (.inr hb)), .inl (t5 b (.inr hb))⟩⟩
        have ho := hc.1
        cases s <;> first | (cases ho; done) | exact hh
      · exact h.elim
    · exact h.elim
  | .brk, Z, W, c, pn, hz, σ, ε, G, H, A, D, o, h => by
    unfold S_.run at h
    exact h σ G H A (Aft.refl o)
  | .cnt, Z, W, c, pn, hz, σ, ε, G, H, A, D, o, h => by
    unfold S_.run at h
    exact h σ G H A (Aft.refl o)
  | .pass, Z, W, c, pn, hz, σ, ε, G, H, A, D, o, h => by
    unfold S_.run at h
    exact h σ G H A (Aft.refl o)
  | .nev, Z, W, c, pn, hz, σ, ε, G, H, A, D, o, h => by
    unfold S_.run at h
    exact h.elim
  | .rs y es, Z, W, c, pn, hz, σ, ε, G, H, A, D, o, h => by
    unfold S_.run at h
    refine Es.sound es hz o (Post.bd0 oSPost h fun xs ε1 vs G1 H1 A1 a1 r1 h1 => ?_)
    rw [hz.mkn] at h1
    cases q : Z.mkn y with
    | none => rw [q] at h1; exact h1.elim
    | some ns =>
      rw [q] at h1
      dsimp only at h1
      split at h1
      · rename_i hc
        have hvs : vs = xs.map vD := by
          have go : ∀ (xs : List Mq.D) (vs : List V), xs.all flat = true → Rps Z.K G1 xs vs → vs = xs.map vD := by
            intro xs
            induction xs with
            | nil => intro vs _ r; exact r
            | cons x xs ih =>
              intro vs hf r
              obtain ⟨v, us, rfl, r1, r2⟩ := r
              rw [List.all_cons, Bool.and_eq_true] at hf
              rw [List.map_cons, ih us hf.2 r2]
              congr 1
              have hx := hf.1
              cases x <;> first | (cases hx; done) | exact r1
          exact go xs vs hc.2 r1
        refine ⟨ns, rfl, by rw [hc.1, hvs, List.length_map], fun hn => ?_, fun hn d hd => ?_⟩
        · exact h1 _ none σ G1 H1 A1 (Aft.refl a1.ok) ⟨ns, q, hc.1, hc.2, rfl, fun _ => rfl, fun z => absurd hn z⟩
        · obtain ⟨b1, _, _⟩ := Aft.new a1.ok (u := .xd ((ns.map Z.K.fl).zip vs).reverse) hd
          exact h1 _ (some d) σ G1 _ A1 b1 ⟨ns, q, hc.1, hc.2, rfl, fun z => absurd z hn, fun _ => ⟨d, rfl, by rw [upd_same, hvs]⟩⟩
      · exact h1.elim
  | .try_ b hs, Z, W, c, pn, hz, σ, ε, G, H, A, D, o, h => by
    unfold S_.run at h
    refine Ss.sound b hz (W := wAll Z.K.K W D (hs.rl Z)) o ?_
    cases q : b.run c pn.io ε with
    | no => rw [q] at h; exact h.elim
    | ok fl ε1 => rw [q] at h; exact h
    | er x ε1 =>
      rw [q] at h
      exact fun cls d σ' G' H' A' a w => Hs.sound hs hz a.ok w (SPost.shift a h)
theorem Ss.sound : ∀ (s : Ss) {Z : Rc} {W : WX} {c : Cn} {pn : Pin} (hz : Z.Fine c pn) {σ : L2.St} {ε : En} {G H : Hp} {A : List Addr} {D : Ends}, Ok Z.K pn σ ε G H A → SPost Z W pn σ ε G H A D (s.run c pn.io ε) → s.rd Z W D σ H
  | .nil, Z, W, c, pn, hz, σ, ε, G, H, A, D, o, h => by
    unfold Ss.run at h
    exact h σ G H A (Aft.refl o)
  | .cons s r, Z, W, c, pn, hz, σ, ε, G, H, A, D, o, h => by
    unfold Ss.run at h
    refine S_.sound s hz o (SPost.fl h (fun ε3 σ3 G3 H3 A3 a3 h3 => Ss.sound r hz a3.ok h3) (fun ε3 σ3 G3 H3 A3 a3 h3 => h3 σ3 G3 H3 A3 (Aft.refl a3.ok)) (fun ε3 σ3 G3 H3 A3 a3 h3 => h3 σ3 G3 H3 A3 (Aft.refl a3.ok)) rfl fun _ _ => rfl)
theorem Hs.sound : ∀ (hs : Hs) {Z : Rc} {W : WX} {c : Cn} {pn : Pin} (hz : Z.Fine c pn) {σ : L2.St} {ε : En} {G H : Hp} {A : List Addr} {D : Ends} {x : Er} {cls : Value} {d : Option Addr}, Ok Z.K pn σ ε G H A → Z.xr x cls d H → SPost Z W pn σ ε G H A D (hs.run c pn.io x ε) → wAll Z.K.K W D (hs.rl Z) cls d σ H
  | .nil, Z, W, c, pn, hz, σ, ε, G, H, A, D, x, cls, d, o, w, h => by
    unfold Hs.run at h
    exact h cls d σ G H A (Aft.refl o) w
  | .cons y i b r, Z, W, c, pn, hz, σ, ε, G, H, A, D, x, cls, d, o, w, h => by
    unfold Hs.run at h
    obtain ⟨ns, m1, m2, m3, rfl, m5, m6⟩ := id w
    split at h
    · rename_i hx hsub
      split at h
      · rename_i hc
        refine ⟨true, (hz.sb _ _ _ hsub).1, fun _ a ha => ?_, fun z => nomatch z⟩
        have hdd : ∀ dd, d = some dd → H dd = some (.xd ((ns.map Z.K.fl).zip (x.fs.map vD)).reverse) := fun dd z => by
          by_cases nn : ns = []
          · rw [m5 nn] at z; cases z
          · obtain ⟨d', d1, d2⟩ := m6 nn
            rw [z] at d1
            cases d1
            exact d2
        obtain ⟨G2, o2, gx, g2, hf⟩ := o.errz hdd
        obtain ⟨A2, o3, sub⟩ := o2.enter (a := a) (hz.x0 hx) hc.1 hc.2 g2
        have hz2 : (Z.at_ a (.ref (Z.K.ca x.c)) d).Fine { c with ex := some x } (pinX pn i a d ((ns.map Z.K.fl).zip (x.fs.map vD)).reverse) :=
          ⟨hz.kd, hz.cl, hz.gl, hz.gd, hz.gf, hz.ar, hz.arm, hz.mt, hz.hf, hz.ini, hz.mkc, hz.mkn, hz.cf, hz.mf, hz.ox, hz.sb, (fun z => nomatch z), fun x' hx' => by
            cases hx'
            refine ⟨rfl, ns, m1, m2, m3, rfl, m5, fun nn => ?_⟩
            obtain ⟨d', d1, d2⟩ := m6 nn
            exact ⟨d', d1, if_pos d1.symm⟩⟩
        refine Ss.sound b hz2 (W := W0) o3 ?_
        show SPost _ W0 _ _ _ _ _ _ _ (b.run { c with ex := some x } pn.io (ε.set i .ex))
        cases q : b.run { c with ex := some x } pn.io (ε.set i .ex) with
        | no => rw [q] at h; exact h.elim
        | er _ _ => rw [q] at h; exact h.elim
        | ok fl ε3 =>
          rw [q] at h
          intro σ3 G3 H3 A3 a3
          obtain ⟨A', ax, sub'⟩ := Aft.exit o hc.2 gx hf sub a3
          have out := h _ _ _ _ ax
          cases fl with
          | nxt => exact out
          | brk => exact out
          | cnt => exact out
          | ret r =>
            intro v rv
            refine out v ?_
            have key : (∃ B, HV Z.K G3 H3 r v B ∧ (A3 ++ B).Nodup ∧ ∀ b ∈ B, G3 b = none ∧ (b ∈ A2 ∨ H b = none)) → ∃ B, HV Z.K G3 H3 r v B ∧ (A' ++ B).Nodup ∧ ∀ b ∈ B, G3 b = none ∧ (b ∈ A ∨ H b = none) := fun ⟨B, b1, b2, b3⟩ => by
              obtain ⟨n1, n2, n3⟩ := List.nodup_append.mp b2
              refine ⟨B, b1, List.nodup_append.mpr ⟨ax.ok.nd, n2, fun p hp q hq => n3 p (sub' p hp) q hq⟩, fun b hb => ⟨(b3 b hb).1, ?_⟩⟩
              rcases (b3 b hb).2 with z | z
              · exact .inl (sub b z)
              · exact .inr z
            cases r <;> first | exact rv | exact key rv
      · exact h.elim
    · rename_i hx hsub
      exact ⟨false, (hz.sb _ _ _ hsub).1, (fun z => nomatch z), fun _ => Hs.sound r hz o w h⟩
    · exact h.elim
end
end Mq
/-! A small language over HandS, 19: a def. -/
namespace Mq
open PySem L2 Evl PyProof.Rows
open SX (S S_len S_cat S_inj)
section
variable {K : Kx} {G G' H H' G1 G2 H1 H2 : Hp} {pn : Pin} {σ σ1 σ2 : L2.St} {ε ε1 ε2 : En} {A A1 A2 A' B : List Addr} {Z : Rc} {W : WX}
/-- some slots of a state, the others flat -/
theorem HSs.pick : ∀ (ε2 : En) (σ2 : L2.St) (ε : En) (σ : L2.St) (A : List Addr), HSs K G H ε σ A → A.Nodup → ε2.length = σ2.length → (∀ (i : Nat) (s : Sl) (o : Option V), ε2[i]? = some s → σ2[i]? = some o → (ε[i]? = some s ∧ σ[i]? = some o) ∨ HS K G H s o []) →
    ∃ A2, A2.Nodup ∧ (∀ a ∈ A2, a ∈ A) ∧ HSs K G H ε2 σ2 A2
  | [], [], _, _, _, _, _, _, _ => ⟨[], List.nodup_nil, (fun _ z => nomatch z), rfl, rfl⟩
  | [], _ :: _, _, _, _, _, _, hl, _ => by cases hl
  | _ :: _, [], _, _, _, _, _, hl, _ => by cases hl
  | s2 :: ε2, o2 :: σ2, [], σ, A, st, nd, hl, h => by
    obtain ⟨A2, n2, w2, st2⟩ := HSs.pick ε2 σ2 [] σ A st nd (by simpa using hl) fun i s o e1 e2 => by
      rcases h (i + 1) s o e1 e2 with ⟨z, _⟩ | z
      · simp at z
      · exact .inr z
    rcases h 0 s2 o2 rfl rfl with ⟨z, _⟩ | z
    · simp at z
    · exact ⟨A2, n2, w2, o2, σ2, [], A2, rfl, rfl, z, st2⟩
  | s2 :: ε2, o2 :: σ2, s :: ε, σ, A, st, nd, hl, h => by
    obtain ⟨o, τ, B, C, rfl, rfl, h3, h4⟩ := st
    obtain ⟨n1, n2, n3⟩ := List.nodup_append.mp nd
    obtain ⟨A2, m2, w2, st2⟩ := HSs.pick ε2 σ2 ε τ C h4 n2 (by simpa using hl) fun i s o e1 e2 => h (i + 1) s o e1 e2
    rcases h 0 s2 o2 rfl rfl with ⟨z1, z2⟩ | z
    · cases z1
      cases z2
      exact ⟨B ++ A2, List.nodup_append.mpr ⟨n1, m2, fun a ha b hb => n3 a ha b (w2 b hb)⟩, fun a ha => by
        rcases List.mem_append.mp ha with y | y
        · exact List.mem_append_left _ y
        · exact List.mem_append_right _ (w2 a y), _, σ2, B, A2, rfl, rfl, h3, st2⟩
    · exact ⟨A2, m2, (fun a ha => List.mem_append_right _ (w2 a ha)), o2, σ2, [], A2, rfl, rfl, z, st2⟩
def adr (vs : List V) (i : Nat) : Addr := match vs[i]? with
  | some (.ref p) => p
  | _ => default
def pinOf (vs : List V) (io : List Nat) : Pin := { l := io.map fun i => (i, adr vs i) }
theorem pinOf_l (vs : List V) (io : List Nat) : (pinOf vs io).l.map (·.1) = io := by
  show (io.map fun i => (i, adr vs i)).map (·.1) = io
  rw [List.map_map]
  exact List.map_id' io
theorem pinOf_io (vs : List V) (io : List Nat) : (pinOf vs io).io = { l := io } := by
  unfold Pin.io
  rw [pinOf_l]
  rfl
theorem hv_ref {s : Sl} {v : V} {B : List Addr} (h : HV K G H s v B) (hs : isOwS s = true) : ∃ p, v = .ref p := by
  cases s <;> first | (cases hs; done) | skip
  · obtain ⟨p, vs, h1, _⟩ := h; exact ⟨p, h1⟩
  · obtain ⟨p, kr, vs, h1, _⟩ := h; exact ⟨p, h1⟩
  · obtain ⟨p, dx, fs, B, h1, _⟩ := h; exact ⟨p, h1⟩
  · obtain ⟨p, vs, B, h1, _⟩ := h; exact ⟨p, h1⟩
  · obtain ⟨p, kr, vs, B, h1, _⟩ := h; exact ⟨p, h1⟩
def CrPost (Z : Rc) (vs : List V) (as : En) (G H : Hp) (A : List Addr) (Q : VK) (E : XK) : Cr → Prop
  | .no => False
  | .ok r as' => ∀ v G' H' A', Aft Z.K Pin.nil (vs.map some) as G H A (vs.map some) as' G' H' A' → RetOk Z.K H G' H' A A' r v → Q v H'
  | .er x as' => ∀ cls d G' H' A', Aft Z.K Pin.nil (vs.map some) as G H A (vs.map some) as' G' H' A' → Z.xr x cls d H' → E cls d H'
theorem runF_sound {c : Cn} (hz : ∀ pn : Pin, pn.xa = none → Z.Fine c pn) {fn : Fn} {N : List Str} {vs : List V} {as : En} {Q : VK} {E : XK} (hN : N.length = fn.n) (o : Ok Z.K Pin.nil (vs.map some) as G H A)
    (h : CrPost Z vs as G H A Q E (runF c fn as)) :
    fn.body.rd Z (fun cls d _ H => E cls d H) { nx := fun _ H' => Q .non H', rt := Q } (L2.start N vs) H := by
  unfold runF at h
  split at h
  · rename_i hc
    obtain ⟨hl, hio⟩ := hc
    unfold ioOk at hio
    rw [Bool.and_eq_true] at hio
    have io1 : ∀ i ∈ fn.io, ∃ s, as[i]? = some s ∧ isOwS s = true := fun i hi => by
      have := List.all_eq_true.mp hio.1 i hi
      cases q : as[i]? with
      | none => rw [q] at this; cases this
      | some s => rw [q] at this; exact ⟨s, rfl, this⟩
    have io2 : ∀ (i : Nat) (s : Sl), as[i]? = some s → isOwS s = true → i ∈ fn.io := fun i s e hs => by
      have hi : i < as.length := (List.getElem?_eq_some_iff.mp e).1
      have := List.all_eq_true.mp hio.2 i (List.mem_range.mpr hi)
      rw [e] at this
      have this : (!isOwS s || fn.io.contains i) = true := this
      rw [hs] at this
      simpa using this
    have len : as.length = vs.length := by rw [o.len, List.length_map]
    have hvs : vs.length = fn.ps := by rw [← len]; exact hl
    -- the slots
    have gE : ∀ (i : Nat) (s : Sl), s ≠ .no → (as ++ List.replicate (fn.n - fn.ps) Sl.no)[i]? = some s → as[i]? = some s := fun i s hs q => by
      by_cases hi : i < as.length
      · rw [List.getElem?_append_left hi] at q; exact q
      · rw [List.getElem?_append_right (by omega), List.getElem?_replicate] at q
        split at q
        · exact absurd (Option.some.inj q).symm hs
        · cases q
    have gE2 : ∀ (i : Nat) (s : Sl), as[i]? = some s → (as ++ List.replicate (fn.n - fn.ps) Sl.no)[i]? = some s := fun i s q => by
      rw [List.getElem?_append_left (List.getElem?_eq_some_iff.mp q).1]; exact q
    have gS : ∀ i : Nat, i < as.length → (L2.start N vs)[i]? = (vs.map some)[i]? := fun i hi => by
      unfold L2.start
      rw [List.getElem?_append_left (by rw [List.length_map]; omega)]
    have lt : ∀ {i : Nat} {s : Sl}, as[i]? = some s → i < as.length := fun q => (List.getElem?_eq_some_iff.mp q).1
    have pin0 : ∀ q ∈ (pinOf vs fn.io).l, (vs.map some)[q.1]? = some (some (.ref q.2)) ∧ ∃ s, as[q.1]? = some s ∧ isOwS s = true := fun q hq => by
      have hq : q ∈ fn.io.map fun i => (i, adr vs i) := hq
      obtain ⟨i, hi, rfl⟩ := List.mem_map.mp hq
      obtain ⟨s, e, hs⟩ := io1 i hi
      obtain ⟨ov, B, R, e1, e2, _⟩ := HSs.at_ _ _ _ _ _ o.st e
      obtain ⟨v, rfl, e3⟩ := hs_ow e2 (isOw_ne hs)
      obtain ⟨p, rfl⟩ := hv_ref e3 hs
      refine ⟨?_, s, e, hs⟩
      rw [e1]
      rw [List.getElem?_map] at e1
      cases q : vs[i]? with
      | none => rw [q] at e1; cases e1
      | some v =>
        rw [q] at e1
        have e1 : some (some v) = some (some (V.ref p)) := e1
        cases e1
        show _ = some (some (V.ref (adr vs i)))
        unfold adr
        rw [q]
    obtain ⟨A0, n0, w0, st0⟩ := HSs.pick (as ++ List.replicate (fn.n - fn.ps) Sl.no) (L2.start N vs) as (vs.map some) A o.st o.nd (by
        unfold L2.start
        rw [List.length_append, List.length_append, List.length_replicate, List.length_replicate, List.length_map]
        omega) fun i s ov e1 e2 => by
      by_cases hi : i < as.length
      · rw [List.getElem?_append_left hi] at e1
        rw [gS i hi] at e2
        exact .inl ⟨e1, e2⟩
      · rw [List.getElem?_append_right (by omega), List.getElem?_replicate] at e1
        split at e1
        · cases e1; exact .inr rfl
        · cases e1
    have o0 : Ok Z.K (pinOf vs fn.io) (L2.start N vs) (as ++ List.replicate (fn.n - fn.ps) Sl.no) G H A0 := by
      refine ⟨o.ex, st0, n0, fun a ha => o.gn a (w0 a ha), fun q hq => ?_, fun i q => ?_, fun _ _ z => nomatch z⟩
      · obtain ⟨a, s, b, hs⟩ := pin0 q hq
        rw [gS _ (lt b)]
        exact ⟨a, s, gE2 _ _ b, hs⟩
      · have q := gE i .ex (fun z => nomatch z) q
        obtain ⟨_, a, h, _⟩ := o.px i q
        cases h
    -- back at the call
    have back : ∀ {σ' : L2.St} {ε' : En} {G' H' : Hp} {A' : List Addr}, Aft Z.K (pinOf vs fn.io) (L2.start N vs) (as ++ List.replicate (fn.n - fn.ps) Sl.no) G H A0 σ' ε' G' H' A' → ∃ A2, Aft Z.K Pin.nil (vs.map some) as G H A (vs.map some) (outs fn.io as ε') G' H' A2 ∧ ∀ a ∈ A2, a ∈ A' := by
      intro σ' ε' G' H' A' a
      have gO : ∀ (i : Nat) (s : Sl), (outs fn.io as ε')[i]? = some s → i < as.length ∧ s = if i ∈ fn.io then ε'.getD i .no else as.getD i .no := fun i s q => by
        unfold outs at q
        rw [List.getElem?_map] at q
        by_cases hi : i < as.length
        · rw [List.getElem?_range hi] at q
          exact ⟨hi, (Option.some.inj q).symm⟩
        · rw [List.getElem?_eq_none (by simp; omega)] at q
          cases q
      have pin1 : ∀ i ∈ fn.io, ∃ p s, (vs.map some)[i]? = some (some (.ref p)) ∧ σ'[i]? = some (some (.ref p)) ∧ ε'[i]? = some s ∧ isOwS s = true := fun i hi => by
        obtain ⟨e1, s, e2, hs⟩ := a.ok.pin (i, adr vs i) (List.mem_map.mpr ⟨i, hi, rfl⟩)
        obtain ⟨e3, _⟩ := pin0 (i, adr vs i) (List.mem_map.mpr ⟨i, hi, rfl⟩)
        exact ⟨adr vs i, s, e3, e1, e2, hs⟩
      obtain ⟨A2, n2, w2, st2⟩ := HSs.pick (outs fn.io as ε') (vs.map some) ε' σ' A' a.ok.st a.ok.nd (by
        unfold outs
        rw [List.length_map, List.length_range, List.length_map]
        exact len) fun i s ov e1 e2 => by
        obtain ⟨hi, q⟩ := gO i s e1
        by_cases z : i ∈ fn.io
        · obtain ⟨p, t, k1, k2, k3, k4⟩ := pin1 i z
          rw [if_pos z, List.getD_eq_getElem?_getD, k3] at q
          have q : s = t := q
          rw [k1] at e2
          cases e2
          exact .inl ⟨q ▸ k3, k2⟩
        · rw [if_neg z, List.getD_eq_getElem?_getD] at q
          have ew : as[i]? = some as[i] := List.getElem?_eq_getElem hi
          rw [ew] at q
          have q : s = as[i] := q
          obtain ⟨ow, B, R, k1, k2, _⟩ := HSs.at_ _ _ _ _ _ o.st ew
          rw [e2] at k1
          cases k1
          have hns : isOwS s = false := by
            cases y : isOwS s
            · rfl
            · exact absurd (io2 i as[i] ew (q ▸ y)) z
          rw [← q] at k2
          exact .inr (HS.flat' k2 hns a.g)
      refine ⟨A2, ⟨⟨a.ok.ex, st2, n2, fun b hb => a.ok.gn b (w2 b hb), (fun q hq => nomatch hq), fun i q => ?_, fun _ _ z => nomatch z⟩, a.g, fun x u n e => a.h x u (fun w => n (w0 x w)) e, fun x n g e => a.f x (fun w => n (w0 x w)) g e, fun x w => ?_, fun z => nomatch z⟩, w2⟩
      · obtain ⟨hi, q⟩ := gO i _ q
        by_cases z : i ∈ fn.io
        · obtain ⟨p, t, k1, k2, k3, k4⟩ := pin1 i z
          rw [if_pos z, List.getD_eq_getElem?_getD, k3] at q
          have q : Sl.ex = t := q
          rw [← q] at k4
          cases k4
        · rw [if_neg z, List.getD_eq_getElem?_getD] at q
          cases w : as[i]? with
          | none => rw [w] at q; cases q
          | some s =>
            rw [w] at q
            have q : Sl.ex = s := q
            subst q
            obtain ⟨_, a', h, _⟩ := o.px i w
            cases h
      · rcases a.w x (w2 x w) with y | y
        · exact .inl (w0 x y)
        · exact .inr y
    refine Ss.sound fn.body (W := fun cls d _ H => E cls d H) (hz _ rfl) o0 ?_
    rw [pinOf_io]
    cases q : fn.body.run c { l := fn.io } (as ++ List.replicate (fn.n - fn.ps) .no) with
    | no => rw [q] at h; exact h.elim
    | er x ε' =>
      rw [q] at h
      intro cls d σ' G' H' A' a w
      obtain ⟨A2, a2, _⟩ := back a
      exact h cls d G' H' A2 a2 w
    | ok fl ε' =>
      rw [q] at h
      intro σ' G' H' A' a
      obtain ⟨A2, a2, w2⟩ := back a
      cases fl with
      | nxt => exact h .non G' H' A2 a2 rfl
      | brk => exact h.elim
      | cnt => exact h.elim
      | ret r =>
        intro v w
        refine h v G' H' A2 a2 ?_
        have key : (∃ B, HV Z.K G' H' r v B ∧ (A' ++ B).Nodup ∧ ∀ b ∈ B, G' b = none ∧ (b ∈ A0 ∨ H b = none)) → ∃ B, HV Z.K G' H' r v B ∧ (A2 ++ B).Nodup ∧ ∀ b ∈ B, G' b = none ∧ (b ∈ A ∨ H b = none) := fun ⟨B, b1, b2, b3⟩ => by
          obtain ⟨n1, n2, n3⟩ := List.nodup_append.mp b2
          refine ⟨B, b1, List.nodup_append.mpr ⟨a2.ok.nd, n2, fun p hp q hq => n3 p (w2 p hp) q hq⟩, fun b hb => ⟨(b3 b hb).1, ?_⟩⟩
          rcases (b3 b hb).2 with z | z
          · exact .inl (w0 b z)
          · exact .inr z
        cases r <;> first | exact w | exact key w
  · exact h.elim
theorem spC_post {f : Nat} {vs : List V} {Q : VK} {E : XK} (h : spC Z f vs H Q E) : vs.length = Z.ar f ∧ ∃ G as A, Ok Z.K Pin.nil (vs.map some) as G H A ∧ CrPost Z vs as G H A Q E (Z.call f as) := h
end
/-! ### a table of defs -/
structure Pg where
  K : Kx
  md : Modu
  gv : Nat → V
  mn : Nat → Str := fun _ => ""
def Pg.ar (p : Pg) (f : Nat) : Nat := match p.md.code[f]? with
  | some fn => fn.ps
  | none => 0
def Pg.rc (p : Pg) (n : Nat) : Rc := { K := p.K, call := callN p.md n, mkc := callL p.md n, gv := p.gv, gd := fun i => p.md.dvs[i]?, ar := p.ar, mt := p.md.mt, mn := p.mn, ini := p.md.ini, mkn := p.md.mk_ }
structure Pg.Good (p : Pg) : Prop where
  kd : KD p.K
  gl : ∀ x d, p.md.vals[x]? = some d → ∀ G, Rp p.K G d (p.gv x)
  gf : ∀ (x : Nat) (ks : List (List Nat)) (ds : List D), p.md.dvs[x]? = some (ks, ds) → ∀ d ∈ ds, flat d = true
  hf : p.md.hf = p.K.hf
  cf : ∀ c f, p.K.hf c f = true → Cls p.K.K (p.K.ca c) ∧ NoAttr p.K.K (p.K.ca c) (p.K.fl f)
  mf : ∀ c m f n, p.md.mt c m = some f → p.K.hf c n = true → p.K.fl n ≠ p.mn m
  ox : ∀ y ns, p.md.mk_ y = some ns → (ns.map p.K.fl).Nodup ∧ (∀ n ∈ ns, PySem.W.findIn p.K.K (.ref (p.K.ca y)) (p.K.fl n) = some none) ∧ ExcC p.K.K (p.K.ca y)
  sb : ∀ i j b, p.md.sub i j = some b → PySem.W.exmOne p.K.K (.ref (p.K.ca i)) (.ref (p.K.ca j)) = some b ∧ PySem.W.kitOne p.K.K (.ref (p.K.ca i)) (.ref (p.K.ca j)) = some b
theorem callN_s (m : Modu) (n f : Nat) (as : En) : callN m (n + 1) f as = match m.code[f]? with
    | none => .no
    | some fn => runF (m.cn (callN m n) (callL m n)) fn as := rfl
theorem callL_s (m : Modu) (n : Nat) : callL m (n + 1) = callN m n := rfl
theorem Pg.len (p : Pg) (n : Nat) : ∀ f ss, (callN p.md n f ss = .no → False) → ss.length = p.ar f := fun f ss h => by
  unfold Pg.ar
  cases n with
  | zero => exact (h rfl).elim
  | succ n =>
    rw [callN_s] at h
    cases q : p.md.code[f]? with
    | none => rw [q] at h; exact (h rfl).elim
    | some fn =>
      rw [q] at h
      have h : runF (p.md.cn (callN p.md n) (callL p.md n)) fn ss = .no → False := h
      unfold runF at h
      split at h
      · rename_i hc
        exact hc.1
      · exact (h rfl).elim
theorem Pg.lenL (p : Pg) (n : Nat) : ∀ f ss, (callL p.md n f ss = .no → False) → ss.length = p.ar f := fun f ss h => by
  cases n with
  | zero => exact (h rfl).elim
  | succ n => exact p.len n f ss h
theorem Pg.fine (p : Pg) (hg : p.Good) (n : Nat) (pn : Pin) (hx : pn.xa = none) : (p.rc n).Fine (p.md.cn (callN p.md n) (callL p.md n)) pn :=
  ⟨hg.kd, rfl, hg.gl, rfl, hg.gf, p.len n, p.lenL n, rfl, hg.hf, rfl, rfl, rfl, hg.cf, hg.mf, hg.ox, hg.sb, fun _ => hx, fun x z => nomatch z⟩
section
variable {P : Program} {w : World} {mg : Str → Option Value} {base : Heap}
/-- a def one level up (two levels are kept for the makers of errors) -/
theorem fn_up {p : Pg} (hg : p.Good) {x qual : Str} {st : Stmt} {f : Addr} {fd : FuncData} {N ps : List Str} {n i : Nat} {fn : Fn} {dvs : List V} {kws : List (Str × V)} (F : FunD p.K.K x qual (defArgs st) (defBody st) (defScope st) dvs kws f fd) (S : FnScope N ps (defScope st))
    (hi : p.md.code[i]? = some fn) (hN : N.length = fn.n) (hps : ps.length = fn.ps)
    (hbody : ∀ (cdv : Value) (A : Around) (outer : List Env) (s : Shared) (H : Hp) (E : XK), Room (n + 2) (A.deeper (envOfC qual (defScope st) s.heap.objs.size f cdv)) →
      PSs (cxOf (L2.CX P w) P w p.K.K mg base N qual (defScope st) f cdv A outer s H E) (defBody st) (fn.body.rd (p.rc n) (fun cls d _ H => E cls d H))) :
    FnOk P w p.K.K mg base (L2.CX P w) (n + 2 + 1) f fd ps (spC (p.rc (n + 1)) i) := by
  have har : (p.rc (n + 1)).ar i = fn.ps := by
    show p.ar i = fn.ps
    unfold Pg.ar
    rw [hi]
  refine F.ok (CX := L2.CX P w) S (fun vs H Q E h => ?_) fun cdv A outer s H vs Q E hr h => ⟨_, hbody cdv A outer s H E hr, ?_⟩
  · rw [(spC_post h).1, har, hps]
  · obtain ⟨_, G, as, AA, o, h⟩ := spC_post h
    have e : (p.rc (n + 1)).call i as = runF (p.md.cn (callN p.md n) (callL p.md n)) fn as := by
      show callN p.md (n + 1) i as = _
      rw [callN_s, hi]
    rw [e] at h
    exact runF_sound (Z := p.rc n) (c := p.md.cn (callN p.md n) (callL p.md n)) (fun pn hx => p.fine hg n pn hx) hN o h
/-- no call at level 0 -/
theorem fn_zero {p : Pg} {f : Addr} {fd : FuncData} {ps : List Str} {i k : Nat} : FnOk P w p.K.K mg base (L2.CX P w) k f fd ps (spC (p.rc 0) i) :=
  ⟨fun vs H Q E h => by
    obtain ⟨_, G, as, AA, o, h⟩ := spC_post h
    exact h.elim, fun A outer s H args us vs Q E _ _ _ _ h => by
    obtain ⟨_, G, as, AA, o, h⟩ := spC_post h
    exact h.elim⟩
end
end Mq
/-! A small language over HandS, 20: rules: errors, methods, objects. -/
namespace Mq
open PySem L2 PyProof.Rows
/-! ### C(e1, e2), whose maker tells its base's, then stores two fields -/
/-- what the maker does -/
def spXI (K : PySem.W.Frag) (f1 f2 : Str) : Sp := fun vs Hh Q _ => ∃ (a Cc : Addr) (v1 v2 : V), vs = [.ref a, v1, v2] ∧ OexC K Cc ∧ PySem.W.findIn K (.ref Cc) f1 = some none ∧ PySem.W.findIn K (.ref Cc) f2 = some none ∧ Hh a = some (exo a Cc none) ∧
  ∀ d, Hh d = none → d ≠ a → Q .non (upd (upd (upd Hh d (exd d [(f1, v1)])) a (exo a Cc (some d))) d (exd d [(f2, v2), (f1, v1)]))
def rdXI (K : PySem.W.Frag) (f1 f2 msg : Str) : TS :=
  tSeq (tDrop (tVeI K (tCons (tVar 0) (tCons (tC (.str msg)) tNil)))) (tSeq (tOst K f1 (tVar 0) (tVar 1)) (tSeq (tOst K f2 (tVar 0) (tVar 2)) tNext))
theorem rdXI_sound {K : PySem.W.Frag} {f1 f2 msg : Str} {N : List Str} (hN : N.length = 3) {vs : List V} {Hh : Hp} {Q : VK} {E : XK} (h : spXI K f1 f2 vs Hh Q E) : rdXI K f1 f2 msg { nx := fun _ H' => Q .non H', rt := Q } (L2.start N vs) Hh := by
  obtain ⟨a, Cc, v1, v2, rfl, T, n1, n2, ha, k⟩ := h
  have es : L2.start N [.ref a, v1, v2] = [some (.ref a), some v1, some v2] := by
    unfold L2.start
    rw [hN]
    rfl
  rw [es]
  refine ⟨.ref a, rfl, a, Cc, [.str msg], rfl, (by show 1 ≤ 1000; decide), T, ha, ?_⟩
  refine ⟨v1, rfl, .ref a, rfl, a, Cc, rfl, T, n1, .inl ⟨ha, fun d hd ne => ?_⟩⟩
  have e1 : (upd (upd Hh d (exd d [(f1, v1)])) a (exo a Cc (some d))) a = some (exo a Cc (some d)) := upd_same
  have e2 : (upd (upd Hh d (exd d [(f1, v1)])) a (exo a Cc (some d))) d = some (exd d [(f1, v1)]) := by rw [upd_ne ne]; exact upd_same
  exact ⟨v2, rfl, .ref a, rfl, a, Cc, rfl, T, n2, .inr ⟨d, [(f1, v1)], e1, e2, (by show 1 ≤ 900; decide), k d hd ne⟩⟩
section
variable {P : Program} {w : World} {K : PySem.W.Frag} {mg : Str → Option Value} {base : Heap}
theorem init_ok {q : Str} {st : Stmt} {f : Addr} {fd : FuncData} {N ps : List Str} {k : Nat} {f1 f2 msg : Str} (F : Fun K "__init__" q st f fd) (S : FnScope N ps (defScope st)) (hN : N.length = 3) (hps : ps.length = 3)
    (hbody : ∀ (cdv : Value) (A : Around) (outer : List Env) (s : Shared) (H : Hp) (E : XK), PSs (cxOf (L2.CX P w) P w K mg base N q (defScope st) f cdv A outer s H E) (defBody st) (rdXI K f1 f2 msg)) :
    FnOk P w K mg base (L2.CX P w) (k + 1) f fd ps (spXI K f1 f2) :=
  F.okX S (fun vs H Q E h => by obtain ⟨a, Cc, v1, v2, rfl, _⟩ := h; exact hps.symm) fun cdv A outer s H vs Q E hr h => ⟨_, hbody cdv A outer s H E, rdXI_sound hN h⟩
end
section
variable {X : Cx}
theorem ps_weak {st : Stmt} {t t' : TS} (h : PS X st t) (k : ∀ D σ H, t' D σ H → t D σ H) : PS X st t' := ⟨fun pins s σ H D I q => h.run pins s σ H D I (k D σ H q)⟩
theorem pe_weak {e : Expr} {t t' : TE} (h : PE X e t) (k : ∀ σ H Q, t' σ H Q → t σ H Q) : PE X e t' := ⟨fun pins s σ H Q I q => h.run pins s σ H Q I (k σ H Q q)⟩
theorem ps_rs {x : Str} {Cc fI : Addr} {k : Nat} {fd : FuncData} {ps : List Str} {sp : Sp} {W : WX} {e1 : Expr} {es1 : List Expr} {ta1 : TA} {q1 q2 q3 : Pos} (hc : X.calm = true) (tk : Takes X W) (T : OexC X.K Cc)
    (iC : PySem.W.findIn X.K (.ref Cc) "__init__" = some (some (.ref fI))) (tI : PySem.W.typeIn X.K (.ref fI) = some (.type "function"))
    (F1 : FnOk X.prog X.w X.K X.mg X.base (L2.CX X.prog X.w) k fI fd ps sp) (hr : Room (k + 1) X.A) (hb : Binds X.K fd ps []) (hg : Gl X x) (hm : X.mg x = some (.ref Cc)) (ha1 : PA X (e1 :: es1) ta1)
    (hdb : (x == ("__debug__" : Str)) = false := by decide) (he1 : starEach (e1 :: es1) X.env = (false, eval e1 X.env) :: starEach es1 X.env := by rfl) (hpl1 : (backTo q2 (starEach es1 X.env)).any (·.1) = false := by rfl) :
    PS X (.Raise (some (.Call (.Name x q1) (e1 :: es1) [] q2)) none q3) (fun _ σ H => tMkO Cc sp [] ta1 σ H fun cls d H' => W cls d σ H') := ps_raise hc tk (pmk_oex T iC tI F1 hr hb .nil passL hg hm ha1 hdb he1 hpl1)
end
/-- what is to be shown behind the arguments of C(e1, e2) -/
theorem rs_core {K : PySem.W.Frag} {Cc : Addr} {f1 f2 : Str} {W : WX} {σ : L2.St} {H1 : Hp} {v1 v2 : V} (T : OexC K Cc) (n1 : PySem.W.findIn K (.ref Cc) f1 = some none) (n2 : PySem.W.findIn K (.ref Cc) f2 = some none)
    (q : ∀ d, H1 d = none → W (.ref Cc) (some d) σ (upd H1 d (.xd [(f2, v2), (f1, v1)]))) :
    [v1, v2].length ≤ 1000 ∧ ∀ a, H1 a = none → spXI K f1 f2 (.ref a :: ([v1, v2] ++ [])) (upd H1 a (exo a Cc none))
      (fun v H2 => v = .non ∧ ∃ (d : Addr) (fs : List (Str × V)), H2 a = some (exo a Cc (some d)) ∧ H2 d = some (exd d fs) ∧ H1 d = none ∧ W (.ref Cc) (some d) σ (upd (del H2 a) d (.xd fs))) (fun _ _ _ => False) := by
  refine ⟨(by show 2 ≤ 1000; decide), fun a ha => ⟨a, Cc, v1, v2, rfl, T, n1, n2, upd_same, fun d hd ne => ⟨rfl, d, [(f2, v2), (f1, v1)], ?_, ?_, ?_, ?_⟩⟩⟩
  · rw [upd_ne (Ne.symm ne)]; exact upd_same
  · exact upd_same
  · rw [upd_ne ne] at hd; exact hd
  · have hd2 : H1 d = none := by rw [upd_ne ne] at hd; exact hd
    have e : upd (del (upd (upd (upd (upd H1 a (exo a Cc none)) d (exd d [(f1, v1)])) a (exo a Cc (some d))) d (exd d [(f2, v2), (f1, v1)])) a) d (.xd [(f2, v2), (f1, v1)]) = upd H1 d (.xd [(f2, v2), (f1, v1)]) := by
      funext b
      by_cases z : b = d
      · subst z; rw [upd_same, upd_same]
      · rw [upd_ne z, upd_ne z]
        by_cases y : b = a
        · subst y; rw [del_same]; exact ha.symm
        · rw [del_ne y, upd_ne z, upd_ne y, upd_ne z, upd_ne y]
    rw [e]
    exact q d hd2

section
variable {X : Cx} {Z : Rc} {W : WX} {n : Nat}
/-! ### raise -/
/-- the same, what is behind weaker -/
def tWk (t : TA) : TA := fun σ H Q => ∃ Q', t σ H Q' ∧ ∀ vs H', Q' vs H' → Q vs H'
theorem pa_wk {es : List Expr} {t : TA} (h : PA X es t) : PA X es (tWk t) := ⟨fun pos pins s σ H Q I ⟨Q', q, k⟩ => thn (h.run pos pins s σ H _ I q) fun us s1 ⟨vs, H1, I1, r, q1⟩ => ⟨vs, H1, I1, r, k _ _ q1⟩⟩
theorem ps_rs2 {x : Str} {fI : Addr} {k y k1 k2 : Nat} {fd : FuncData} {ps : List Str} {e1 : Expr} {es1 : List Expr} {ta1 : TA} {q1 q2 q3 : Pos} (hc : X.calm = true) (tk : Takes X W) (hmk : Z.mkn y = some [k1, k2]) (T : OexC X.K (Z.K.ca y)) (hk : Z.K.K = X.K)
    (n1 : PySem.W.findIn X.K (.ref (Z.K.ca y)) (Z.K.fl k1) = some none) (n2 : PySem.W.findIn X.K (.ref (Z.K.ca y)) (Z.K.fl k2) = some none)
    (iC : PySem.W.findIn X.K (.ref (Z.K.ca y)) "__init__" = some (some (.ref fI))) (tI : PySem.W.typeIn X.K (.ref fI) = some (.type "function"))
    (F1 : FnOk X.prog X.w X.K X.mg X.base (L2.CX X.prog X.w) k fI fd ps (spXI X.K (Z.K.fl k1) (Z.K.fl k2))) (hr : Room (k + 1) X.A) (hb : Binds X.K fd ps []) (hg : Gl X x) (hm : X.mg x = some (.ref (Z.K.ca y))) (ha1 : PA X (e1 :: es1) ta1)
    (hdb : (x == ("__debug__" : Str)) = false := by decide) (he1 : starEach (e1 :: es1) X.env = (false, eval e1 X.env) :: starEach es1 X.env := by rfl) (hpl1 : (backTo q2 (starEach es1 X.env)).any (·.1) = false := by rfl) :
    PS X (.Raise (some (.Call (.Name x q1) (e1 :: es1) [] q2)) none q3) (tRsX Z W y ta1) := by
  refine ps_weak (ps_rs (W := W) (q1 := q1) (q2 := q2) (q3 := q3) hc tk T iC tI F1 hr hb hg hm (pa_wk ha1) hdb he1 hpl1) fun D σ H h => ?_
  refine ⟨_, h, fun vs H1 ⟨ns, m1, m2, m3, m4⟩ => ?_⟩
  rw [hmk] at m1
  cases m1
  match vs, m2 with
  | [v1, v2], _ => exact rs_core T n1 n2 fun d hd => m4 (fun z => nomatch z) d hd
/-! ### C(e), whose maker stores one field -/
def spXJ (K : PySem.W.Frag) (f1 : Str) : Sp := fun vs Hh Q _ => ∃ (a Cc : Addr) (v1 : V), vs = [.ref a, v1] ∧ OexC K Cc ∧ PySem.W.findIn K (.ref Cc) f1 = some none ∧ Hh a = some (exo a Cc none) ∧
  ∀ d, Hh d = none → d ≠ a → Q .non (upd (upd Hh d (exd d [(f1, v1)])) a (exo a Cc (some d)))
def rdXJ (K : PySem.W.Frag) (f1 msg : Str) : TS := tSeq (tDrop (tVeI K (tCons (tVar 0) (tCons (tC (.str msg)) tNil)))) (tSeq (tOst K f1 (tVar 0) (tVar 1)) tNext)
theorem rdXJ_sound {K : PySem.W.Frag} {f1 msg : Str} {N : List Str} (hN : N.length = 2) {vs : List V} {Hh : Hp} {Q : VK} {E : XK} (h : spXJ K f1 vs Hh Q E) : rdXJ K f1 msg { nx := fun _ H' => Q .non H', rt := Q } (L2.start N vs) Hh := by
  obtain ⟨a, Cc, v1, rfl, T, n1, ha, k⟩ := h
  have es : L2.start N [.ref a, v1] = [some (.ref a), some v1] := by
    unfold L2.start
    rw [hN]
    rfl
  rw [es]
  refine ⟨.ref a, rfl, a, Cc, [.str msg], rfl, (by show 1 ≤ 1000; decide), T, ha, ?_⟩
  exact ⟨v1, rfl, .ref a, rfl, a, Cc, rfl, T, n1, .inl ⟨ha, fun d hd ne => k d hd ne⟩⟩
theorem init_ok1 {P : Program} {w : World} {K : PySem.W.Frag} {mg : Str → Option Value} {base : Heap} {q : Str} {st : Stmt} {f : Addr} {fd : FuncData} {N ps : List Str} {k : Nat} {f1 msg : Str} (F : Fun K "__init__" q st f fd) (S : FnScope N ps (defScope st)) (hN : N.length = 2) (hps : ps.length = 2)
    (hbody : ∀ (cdv : Value) (A : Around) (outer : List Env) (s : Shared) (H : Hp) (E : XK), PSs (cxOf (L2.CX P w) P w K mg base N q (defScope st) f cdv A outer s H E) (defBody st) (rdXJ K f1 msg)) :
    FnOk P w K mg base (L2.CX P w) (k + 1) f fd ps (spXJ K f1) :=
  F.okX S (fun vs H Q E h => by obtain ⟨a, Cc, v1, rfl, _⟩ := h; exact hps.symm) fun cdv A outer s H vs Q E hr h => ⟨_, hbody cdv A outer s H E, rdXJ_sound hN h⟩
theorem rs_core1 {K : PySem.W.Frag} {Cc : Addr} {f1 : Str} {W : WX} {σ : L2.St} {H1 : Hp} {v1 : V} (T : OexC K Cc) (n1 : PySem.W.findIn K (.ref Cc) f1 = some none)
    (q : ∀ d, H1 d = none → W (.ref Cc) (some d) σ (upd H1 d (.xd [(f1, v1)]))) :
    [v1].length ≤ 1000 ∧ ∀ a, H1 a = none → spXJ K f1 (.ref a :: ([v1] ++ [])) (upd H1 a (exo a Cc none))
      (fun v H2 => v = .non ∧ ∃ (d : Addr) (fs : List (Str × V)), H2 a = some (exo a Cc (some d)) ∧ H2 d = some (exd d fs) ∧ H1 d = none ∧ W (.ref Cc) (some d) σ (upd (del H2 a) d (.xd fs))) (fun _ _ _ => False) := by
  refine ⟨(by show 1 ≤ 1000; decide), fun a ha => ⟨a, Cc, v1, rfl, T, n1, upd_same, fun d hd ne => ⟨rfl, d, [(f1, v1)], upd_same, ?_, ?_, ?_⟩⟩⟩
  · rw [upd_ne ne]; exact upd_same
  · rw [upd_ne ne] at hd; exact hd
  · have hd2 : H1 d = none := by rw [upd_ne ne] at hd; exact hd
    have e : upd (del (upd (upd (upd H1 a (exo a Cc none)) d (exd d [(f1, v1)])) a (exo a Cc (some d))) a) d (.xd [(f1, v1)]) = upd H1 d (.xd [(f1, v1)]) := by
      funext b
      by_cases z : b = d
      · subst z; rw [upd_same, upd_same]
      · rw [upd_ne z, upd_ne z]
        by_cases y : b = a
        · subst y; rw [del_same]; exact ha.symm
        · rw [del_ne y, upd_ne y, upd_ne z, upd_ne y]
    rw [e]
    exact q d hd2
theorem ps_rs1 {x : Str} {fI : Addr} {k y k1 : Nat} {fd : FuncData} {ps : List Str} {e1 : Expr} {es1 : List Expr} {ta1 : TA} {q1 q2 q3 : Pos} (hc : X.calm = true) (tk : Takes X W) (hmk : Z.mkn y = some [k1]) (T : OexC X.K (Z.K.ca y)) (hk : Z.K.K = X.K)
    (n1 : PySem.W.findIn X.K (.ref (Z.K.ca y)) (Z.K.fl k1) = some none) (iC : PySem.W.findIn X.K (.ref (Z.K.ca y)) "__init__" = some (some (.ref fI))) (tI : PySem.W.typeIn X.K (.ref fI) = some (.type "function"))
    (F1 : FnOk X.prog X.w X.K X.mg X.base (L2.CX X.prog X.w) k fI fd ps (spXJ X.K (Z.K.fl k1))) (hr : Room (k + 1) X.A) (hb : Binds X.K fd ps []) (hg : Gl X x) (hm : X.mg x = some (.ref (Z.K.ca y))) (ha1 : PA X (e1 :: es1) ta1)
    (hdb : (x == ("__debug__" : Str)) = false := by decide) (he1 : starEach (e1 :: es1) X.env = (false, eval e1 X.env) :: starEach es1 X.env := by rfl) (hpl1 : (backTo q2 (starEach es1 X.env)).any (·.1) = false := by rfl) :
    PS X (.Raise (some (.Call (.Name x q1) (e1 :: es1) [] q2)) none q3) (tRsX Z W y ta1) := by
  refine ps_weak (ps_rs (W := W) (q1 := q1) (q2 := q2) (q3 := q3) hc tk T iC tI F1 hr hb hg hm (pa_wk ha1) hdb he1 hpl1) fun D σ H h => ?_
  refine ⟨_, h, fun vs H1 ⟨ns, m1, m2, m3, m4⟩ => ?_⟩
  rw [hmk] at m1
  cases m1
  match vs, m2 with
  | [v1], _ => exact rs_core1 T n1 fun d hd => m4 (fun z => nomatch z) d hd
/-! ### C(), C an error's class without a maker of its own -/
theorem pmk_own0 {C : Addr} {bmB : List Value} {B newId initId : String} {x : Str} {p pos : Pos} (F : ExcBaseFacts B newId initId bmB) (q : PySem.W.excIn X.K C bmB newId = true) (gC : X.mg x = some (.ref C)) (kC : PySem.W.keepIn X.K (.ref C) = true) (r : Raises X (.ref C)) (hg : Gl X x)
    (hdb : (x == ("__debug__" : Str)) = false := by decide) : PMk X (.Call (.Name x p) [] [] pos) (fun _ H Q => Q (.ref C) none H) := by
  intro pins s σ H Q I h
  refine wpAny_Call_Name_kw (ld_glob I hg gC ?_ hdb)
  refine PySem.W.callWith_K0 I.kIn kC ?_
  show wpAny _ _ (call (.ref C) []) _ _ _
  obtain ⟨bm, N, nm, qn, bs, hdct, sn, sub, ab, col, dd, k0, k1, k2, k3, k5, mN, hC, hN, hni, T⟩ := exc_obj I.kIn q
  refine wpAny_call_exc_subT F T hC hN hni (fun h' e hm => ?_) (by show 0 ≤ sizeLine; exact Nat.zero_le _)
  exact mk_of I hm r h (I.hok.gone hm.new)
def veB : List Value := [.type "ValueError", .type "Exception", .type "BaseException", .type "object"]
theorem ps_rs0 {x : Str} {y : Nat} {q1 q2 q3 : Pos} (hc : X.calm = true) (tk : Takes X W) (hmk : Z.mkn y = some []) (q : PySem.W.excIn X.K (Z.K.ca y) veB "ValueError.__new__" = true) (kC : PySem.W.keepIn X.K (.ref (Z.K.ca y)) = true)
    (sC : PySem.W.subIn X.K (.ref (Z.K.ca y)) (.type "BaseException") = some true) (tC : PySem.W.typeIn X.K (.ref (Z.K.ca y)) = some (.type "type")) (hg : Gl X x) (hm : X.mg x = some (.ref (Z.K.ca y))) (hdb : (x == ("__debug__" : Str)) = false := by decide) :
    PS X (.Raise (some (.Call (.Name x q1) [] [] q2)) none q3) (tRsX Z W y tNil) := by
  refine ps_weak (ps_raise hc tk (pmk_own0 PySem.F.excBase_ValueError q hm kC (raises_own sC tC) hg hdb)) fun D σ H h => ?_
  obtain ⟨ns, m1, m2, m3, m4⟩ := h
  rw [hmk] at m1
  cases m1
  exact m3 rfl
/-! ### methods -/
/-- the defs behind a method's name -/
structure MoOk (X : Cx) (Z : Rc) (n : Nat) (dvs : List V) (c m f : Nat) : Prop where
  cls : Cls X.K (Z.K.ca c)
  me : Meth X.K (Z.K.ca c) (Z.mn m) (Z.K.fa f)
  ex : ∃ (fd : FuncData) (ps : List Str) (ds : List Value), FnOk X.prog X.w X.K X.mg X.base (L2.CX X.prog X.w) (n + 2) (Z.K.fa f) fd ps (spC Z f) ∧ Vals dvs ds ∧ Binds X.K fd ps ds
def tMethV (Z : Rc) (W : WX) (m : Nat) (dvs : List V) (ta : TE) (t : TA) : TE := fun σ H Q => ta σ H fun x H1 => ∃ a c dx fs f, x = .ref a ∧ H1 a = some (.ins (Z.K.ca c) dx fs) ∧ Z.mt c m = some f ∧ fs.lookup (Z.mn m) = none ∧ t σ H1 fun vs H2 => spC Z f (x :: (vs ++ dvs)) H2 Q fun cls d H => W cls d σ H
variable {o e : Expr} {es : List Expr} {ta : TE} {t : TA} {m : Nat} {dvs : List V} {x : Str} {p apos pos : Pos}
theorem pe_methD {pl : Sem Bool} (he : PE X o ta) (mo : ∀ c f, Z.mt c m = some f → MoOk X Z n dvs c m f) (hr : Room (n + 2) X.A) (tk : Takes X W) (ha : PA X (e :: es) t)
    (hst : starEach (e :: es) X.env = (false, eval e X.env) :: starEach es X.env := by rfl) (hpl : (backTo pos (starEach es X.env)).any (·.1) = false := by rfl)
    (ht : eval (.Call (.Attribute o (Z.mn m) apos) (e :: es) [] pos) X.env = (do
      let ov ← eval o X.env
      standAt apos.atName
      let (f, first) ← holding [ov] (getMethod ov (Z.mn m) pl)
      callWith pos f first (backTo pos (starEach (e :: es) X.env)) (backToKw pos (keywordEach [] X.env))) := by rfl) :
    PE X (.Call (.Attribute o (Z.mn m) apos) (e :: es) [] pos) (tMethV Z W m dvs ta t) := by
  refine ⟨fun pins s σ H Q I h => ?_⟩
  refine PySem.W.methodCall_KW (pl := pl) (thn (he.run pins s σ H _ I h) fun u s1 ⟨x, H1, I1, rx, a, c, dx, fs, f, ex, ea, em, l, q⟩ => ?_) ht
  subst ex
  obtain rfl : u = Value.ref a := rx
  obtain ⟨hc, hm, fd, ps, ds, F, hd, hb⟩ := mo c f em
  refine getmeth_ok I1 ea hc hm l ?_
  refine PySem.W.callWith_K (first := [.ref a]) (h₀ := X.base) I.ok.mod.kin hm.kp (thn (ha.run pos pins s1 σ H1 _ I1 q) fun us s2 ⟨vs, H2, I2, r, q2⟩ => ⟨I2.kIn, ?_⟩) hst hpl
  exact run_fnSD (us := .ref a :: us) (vs := .ref a :: vs) (E := fun σ cls d H => W cls d σ H) F (hr.mono (by omega)) hb hd (passAt tk σ) I2 (.cons rfl r) q2
theorem pe_methD0 {pl : Sem Bool} (he : PE X o ta) (mo : ∀ c f, Z.mt c m = some f → MoOk X Z n dvs c m f) (hr : Room (n + 2) X.A) (tk : Takes X W)
    (ht : eval (.Call (.Attribute o (Z.mn m) apos) [] [] pos) X.env = (do
      let ov ← eval o X.env
      standAt apos.atName
      let (f, first) ← holding [ov] (getMethod ov (Z.mn m) pl)
      callWith pos f first (backTo pos (starEach [] X.env)) (backToKw pos (keywordEach [] X.env))) := by rfl) :
    PE X (.Call (.Attribute o (Z.mn m) apos) [] [] pos) (tMethV Z W m dvs ta tNil) := by
  refine ⟨fun pins s σ H Q I h => ?_⟩
  refine PySem.W.methodCall_KW (pl := pl) (thn (he.run pins s σ H _ I h) fun u s1 ⟨x, H1, I1, rx, a, c, dx, fs, f, ex, ea, em, l, q⟩ => ?_) ht
  subst ex
  obtain rfl : u = Value.ref a := rx
  obtain ⟨hc, hm, fd, ps, ds, F, hd, hb⟩ := mo c f em
  refine getmeth_ok I1 ea hc hm l ?_
  exact PySem.W.callWith_K0 (first := [.ref a]) I1.kIn hm.kp (run_fnSD (us := [.ref a]) (vs := [.ref a]) (E := fun σ cls d H => W cls d σ H) F (hr.mono (by omega)) hb hd (passAt tk σ) I1 (.cons rfl .nil) q)
/-! ### objects -/
structure NwOk (X : Cx) (Z : Rc) (n : Nat) (dvs : List V) (c f : Nat) : Prop where
  ini : Z.ini c = some f
  mkk : L2.Mk X.K (Z.K.ca c) (Z.K.fa f)
  ex : ∃ (fd : FuncData) (ps : List Str) (ds : List Value), FnOk X.prog X.w X.K X.mg X.base (L2.CX X.prog X.w) (n + 1) (Z.K.fa f) fd ps (spC Z.lo f) ∧ Vals dvs ds ∧ Binds X.K fd ps ds
theorem run_makeS {CX : CXT} {k : Nat} {f C : Addr} {fd : FuncData} {ps : List Str} {sp : Sp} {ds : List Value} {dvs : List V} {E : XK} {pins : List (Addr × Obj)} {σ : L2.St} {H : Hp} {s : Shared} {Q : VK} {us : List Value} {vs : List V} (M : L2.Mk X.K C f) (F : FnOk X.prog X.w X.K X.mg X.base CX k f fd ps sp) (hr : Room (k + 1) X.A) (hb : Binds X.K fd ps ds) (hd : Vals dvs ds)
    (hx : PassesAt CX X σ E) (I : Inv X pins σ H s) (r : Vals vs us)
    (h : ∀ x dx, H x = none → H dx = none → dx ≠ x → sp (.ref x :: (vs ++ dvs)) (upd (upd H dx (.own x)) x (.ins C dx [])) (fun v H2 => v = .non ∧ Q (.ref x) H2) E) :
    wpAny (model X.prog X.w) X.A (call (.ref C) us) (EP X pins σ Q) X.xe s := by
  have hq := h (s.heap.objs.size + 1) s.heap.objs.size (I.hok.fresh (Nat.le_succ _)) (I.hok.fresh (Nat.le_refl _)) (Nat.ne_of_lt (Nat.lt_succ_self _))
  have I2 := Inv.made (C := C) I
  have r2 : Vals (V.ref (s.heap.objs.size + 1) :: (vs ++ dvs)) (Value.ref (s.heap.objs.size + 1) :: (us ++ ds)) := .cons rfl (r.append hd)
  have hl : (Value.ref (s.heap.objs.size + 1) :: us ++ ds).length = ps.length := by
    have e := r2.length
    rw [F.len _ _ _ _ hq] at e
    exact e.symm
  refine wpAny_call (make_map (f := f) I.kIn M.makes M.init (beq_iff_eq.mp M.fn) (codeAny_mono (F.run _ X.stack _ _ ⟨Value.ref (s.heap.objs.size + 1) :: us, []⟩ (Value.ref (s.heap.objs.size + 1) :: (us ++ ds)) _ _ E (hr.make C us [])
    (I2.env0.make C us []) (hb _ (Value.ref (s.heap.objs.size + 1) :: us) I2.kIn hl) r2 hq) fun r s' hq' => ?_))
  cases r with
  | error e => exact hx pins _ _ e s' I2 hq'
  | ok fl =>
    cases fl with
    | ret u =>
      obtain ⟨v, H', I3, rv, ev, q3⟩ := I2.after hq'
      subst ev
      exact ⟨rv, ⟨V.ref (s.heap.objs.size + 1), H', I3, rfl, q3⟩⟩
    | next => exact False.elim hq'
    | brk => exact False.elim hq'
    | cont => exact False.elim hq'
def tNewV (Z : Rc) (W : WX) (c : Nat) (dvs : List V) (t : TA) : TE := fun σ H Q => t σ H fun vs H1 => ∃ f, Z.ini c = some f ∧ ∀ x dx, H1 x = none → H1 dx = none → dx ≠ x →
  spC Z.lo f (.ref x :: (vs ++ dvs)) (upd (upd H1 dx (.own x)) x (.ins (Z.K.ca c) dx [])) (fun v H2 => v = .non ∧ Q (.ref x) H2) fun cls d H => W cls d σ H
theorem pe_newD {c f : Nat} (nw : NwOk X Z n dvs c f) (hr : Room (n + 2) X.A) (tk : Takes X W) (hg : Gl X x) (hm : X.mg x = some (.ref (Z.K.ca c))) (ha : PA X (e :: es) t)
    (hdb : (x == ("__debug__" : Str)) = false := by decide) (he : starEach (e :: es) X.env = (false, eval e X.env) :: starEach es X.env := by rfl) (hpl : (backTo pos (starEach es X.env)).any (·.1) = false := by rfl) :
    PE X (.Call (.Name x p) (e :: es) [] pos) (tNewV Z W c dvs t) := by
  obtain ⟨hi, M, fd, ps, ds, F, hd, hb⟩ := nw
  refine ⟨fun pins s σ H Q I h => ?_⟩
  refine wpAny_Call_Name_kw (ld_glob I hg hm ?_ hdb)
  refine PySem.W.callWith_K (h₀ := X.base) I.ok.mod.kin M.kp (thn (ha.run pos pins s σ H _ I h) fun us s1 ⟨vs, H1, I1, r, f', e1, q⟩ => ⟨I1.kIn, ?_⟩) he hpl
  rw [hi] at e1
  cases e1
  exact run_makeS (E := fun cls d H => W cls d σ H) M F hr hb hd (passAt tk σ) I1 r q
theorem pe_newD0 {c f : Nat} (nw : NwOk X Z n dvs c f) (hr : Room (n + 2) X.A) (tk : Takes X W) (hg : Gl X x) (hm : X.mg x = some (.ref (Z.K.ca c)))
    (hdb : (x == ("__debug__" : Str)) = false := by decide) : PE X (.Call (.Name x p) [] [] pos) (tNewV Z W c dvs tNil) := by
  obtain ⟨hi, M, fd, ps, ds, F, hd, hb⟩ := nw
  refine ⟨fun pins s σ H Q I h => ?_⟩
  refine wpAny_Call_Name_kw (ld_glob I hg hm ?_ hdb)
  obtain ⟨f', e1, q⟩ := h
  rw [hi] at e1
  cases e1
  exact PySem.W.callWith_K0 I.kIn M.kp (run_makeS (us := []) (vs := []) (E := fun cls d H => W cls d σ H) M F hr hb hd (passAt tk σ) I .nil q)
/-! ### stores -/
theorem ps_dputX {o i value : Expr} {td ty tv : TE} {pos' : Pos} (kx : KX Z.K X) (hu : X.A.units + 9 < cLine) (ho : PE X o td) (hi : PE X i ty) (hv : PE X value tv) (hs : swapsWith value (some (.Subscript o i pos')) pos.line X.env = pure false) :
    PS X (.Assign [.Subscript o i pos'] value pos) (sDPutX Z.K td ty tv) := by
  refine ⟨fun pins s σ H D I h => ?_⟩
  refine wpAny_Assign_Subscript (thn (hv.run pins s σ H _ I h) fun r s1 ⟨v, H1, I1, rv, q1⟩ => thn (ho.run pins s1 σ H1 _ I1 q1) fun u s2 ⟨x, H2, I2, rx, q2⟩ => thn (hi.run pins s2 σ H2 _ I2 q2) fun iv s3 ⟨y, H3, I3, ry, g⟩ => ?_) hs
  exact D_setItem kx hu I3 rx ry rv g fun H' s4 I4 q => ⟨σ, H', I4, q⟩
theorem inop_add : InOp X .Add (rAugF .add) := by
  intro pins s σ H x y u v Q I r1 r2 h
  exact ip_add pins s σ H x y u v Q I r1 r2 h
theorem inop_sub : InOp X .Sub (rAugF .sub) := by
  intro pins s σ H x y u v Q I r1 r2 h
  exact ip_sub pins s σ H x y u v Q I r1 r2 h
end
end Mq
/-! A small language over HandS: dicts of the module with text keys: what they are. -/
namespace Mq
open PySem PySem.Spec L2 Evl PyProof.Rows
open SX (S S_len S_cat S_inj)
def absD : Value → Option D
  | .none => some .non
  | .bool b => some (.bl b)
  | .int i _ => some (.int i)
  | .str s _ => some (.str s.cps.toList)
  | _ => none
theorem absD_ok {u : Value} {d : D} (h : absD u = some d) : ∃ v, absV u = some v ∧ RelV v u ∧ ∀ (K : Kx) G, Rp K G d v := by
  cases u with
  | none => cases h; exact ⟨.non, rfl, rfl, fun _ _ => rfl⟩
  | bool b => cases h; exact ⟨.bl b, rfl, rfl, fun _ _ => rfl⟩
  | int i t => cases h; exact ⟨.int i, rfl, ⟨t, rfl⟩, fun _ _ => rfl⟩
  | str s t => cases h; exact ⟨.str s, rfl, ⟨t, rfl⟩, fun _ _ => rfl⟩
  | _ => cases h
theorem absD_vD {u : Value} {d : D} (h : absD u = some d) : RelV (vD d) u := by
  cases u with
  | none => cases h; exact rfl
  | bool b => cases h; exact rfl
  | int i t => cases h; exact ⟨t, rfl⟩
  | str s t => cases h; exact ⟨t, rfl⟩
  | _ => cases h
def keyE (e : DictEntry) : Option (Str × Int) := match e.key with
  | .str x _ => some (x, e.hash)
  | _ => none
def keysE (P : Params) (ks : List (List Nat)) : List (Option (Str × Int)) := ks.map fun k => some (S k, PyData.keyHash P (S k))
/-- at d stands the module's dict with these text keys and flat values -/
def GdOk (K : PySem.W.Frag) (w : World) (d : Addr) (ks : List (List Nat)) (ds : List D) : Prop := ∃ es n, K.lookup d = some ⟨.type "dict", none, .dict es n, #[]⟩ ∧ es.toList.map keyE = keysE w.params ks ∧
  es.toList.map (fun e => absD e.val) = ds.map some ∧ (d == sysModules) = false
theorem keyE_str {e : DictEntry} {k : Str} {h : Int} (q : keyE e = some (k, h)) : ∃ t, e.key = .str k t ∧ e.hash = h := by
  unfold keyE at q
  split at q
  · rename_i x t z
    injection q with q
    injection q with q1 q2
    subst q1 q2
    exact ⟨t, z, rfl⟩
  · cases q
theorem keysE_lit {P : Params} : ∀ {l : List DictEntry} {ks : List (List Nat)}, l.map keyE = keysE P ks → PySem.W.KeysLit P l
  | [], _, _ => trivial
  | e :: r, [], h => by cases h
  | e :: r, k :: ks, h => by
    have h1 : keyE e :: r.map keyE = some (S k, PyData.keyHash P (S k)) :: keysE P ks := h
    injection h1 with h2 h3
    obtain ⟨t, e1, e2⟩ := keyE_str h2
    exact ⟨⟨_, t, e1, e2⟩, keysE_lit h3⟩
theorem find_gd {P : Params} (l : List Nat) : ∀ (es : List DictEntry) (ks : List (List Nat)) (ds : List D), es.map keyE = keysE P ks → es.map (fun e => absD e.val) = ds.map some →
    (ixL ks l = none ∧ es.find? (·.key.isStr (S l)) = none) ∨ ∃ i dd e, ixL ks l = some i ∧ ds[i]? = some dd ∧ es.find? (·.key.isStr (S l)) = some e ∧ absD e.val = some dd
  | [], [], _, _, _ => .inl ⟨rfl, rfl⟩
  | [], _ :: _, _, h, _ => by cases h
  | _ :: _, [], _, h, _ => by cases h
  | _ :: _, _ :: _, [], _, h => by cases h
  | e :: es, k :: ks, d :: ds, h, h' => by
    have h1 : keyE e :: es.map keyE = some (S k, PyData.keyHash P (S k)) :: keysE P ks := h
    injection h1 with h2 h3
    injection h' with h4 h5
    obtain ⟨t, e1, e2⟩ := keyE_str h2
    have ks1 : ixL (k :: ks) l = if k = l then some 0 else (ixL ks l).map (· + 1) := by
      unfold ixL
      rw [List.findIdx?_cons]
      by_cases b : k = l <;> simp [b]
    have fs : (e :: es).find? (·.key.isStr (S l)) = if k = l then some e else es.find? (·.key.isStr (S l)) := by
      rw [List.find?_cons, e1]
      by_cases b : k = l
      · subst b
        have : (Value.str (S k) t).isStr (S k) = true := by simp [Value.isStr]
        rw [this, if_pos rfl]
      · have : (Value.str (S k) t).isStr (S l) = false := by
          simp only [Value.isStr]
          exact beq_eq_false_iff_ne.mpr fun z => b (S_inj z)
        rw [this, if_neg b]
    rw [ks1, fs]
    by_cases b : k = l
    · rw [if_pos b, if_pos b]
      exact .inr ⟨0, d, e, rfl, rfl, rfl, h4⟩
    · rw [if_neg b, if_neg b]
      rcases find_gd l es ks ds h3 h5 with ⟨g1, g2⟩ | ⟨i, dd, e', g1, g2, g3, g4⟩
      · exact .inl ⟨by rw [g1]; rfl, g2⟩
      · exact .inr ⟨i + 1, dd, e', by rw [g1]; rfl, g2, g3, g4⟩
theorem GdOk.get {K : PySem.W.Frag} {w : World} {d : Addr} {ks : List (List Nat)} {ds : List D} (G : GdOk K w d ks ds) (l : List Nat) : (ixL ks l = none ∧ PySem.W.nsIn K d (S l) = some none) ∨ ∃ i dd u, ixL ks l = some i ∧ ds[i]? = some dd ∧ PySem.W.nsIn K d (S l) = some (some u) ∧ absD u = some dd := by
  obtain ⟨es, n, h1, h2, h3, _⟩ := G
  unfold PySem.W.nsIn
  rw [h1]
  dsimp only
  rcases find_gd l es.toList ks ds h2 h3 with ⟨g1, g2⟩ | ⟨i, dd, e, g1, g2, g3, g4⟩
  · left
    refine ⟨g1, ?_⟩
    rw [g2]
    have : es.toList.any (·.refKey) = false := by
      rw [List.any_eq_false]
      intro e he
      obtain ⟨x, t, k1, _⟩ := (keysE_lit h2).all e he
      simp [DictEntry.refKey, k1]
    rw [this]
    rfl
  · right
    refine ⟨i, dd, e.val, g1, g2, ?_, g4⟩
    rw [g3]
theorem GdOk.kd {K : PySem.W.Frag} {w : World} {d : Addr} {ks : List (List Nat)} {ds : List D} (G : GdOk K w d ks ds) : ∃ es n, KDict K w d es n := by
  obtain ⟨es, n, h1, h2, _, h4⟩ := G
  exact ⟨es, n, h1, keysE_lit h2, h4⟩
end Mq
/-! A small language over HandS, 21: derivations. -/
namespace Mq
open PySem L2 Evl PyProof.Rows
open SX (S S_len S_cat S_inj)
/-- where a derivation stands -/
structure Cxt (X : Cx) (Z : Rc) (W : WX) (n : Nat) : Prop where
  kx : KX Z.K X
  nd : X.N.Nodup
  u : X.A.units + 65 < cLine
  tk : Takes X W
  po : PassesOwn (model X.prog X.w) X.A X.env X.xe
/-- a def of the table, callable -/
structure Cb (X : Cx) (Z : Rc) (n : Nat) (dvs : List V) (x : Str) (i : Nat) : Prop where
  ex : ∃ (fd : FuncData) (ps : List Str) (ds : List Value), FnOk X.prog X.w X.K X.mg X.base (L2.CX X.prog X.w) (n + 2) (Z.K.fa i) fd ps (spC Z i) ∧ Vals dvs ds ∧ Binds X.K fd ps ds
  r : Room (n + 2) X.A
  g : X.mg x = some (.ref (Z.K.fa i))
  kp : PySem.W.keepIn X.K (.ref (Z.K.fa i)) = true
/-- a def of the table, one level lower, called without a default -/
structure CbL (X : Cx) (Z : Rc) (n : Nat) (x : Str) (i : Nat) : Prop where
  ex : ∃ (fd : FuncData) (ps : List Str), FnOk X.prog X.w X.K X.mg X.base (L2.CX X.prog X.w) (n + 1) (Z.K.fa i) fd ps (spC Z.lo i) ∧ Binds X.K fd ps []
/-- what the walks ask of the module: constants, built-ins -/
structure Md (X : Cx) (Z : Rc) (cons blts : List Str) : Prop where
  c : ∀ (i : Nat) (x : Str), cons[i]? = some x → ∃ u, X.mg x = some u ∧ RelV (Z.gv i) u
  b : ∀ (i : Nat) (x : Str), blts[i]? = some x → X.mg x = none
/-- .. its defs and classes -/
structure Mf (X : Cx) (Z : Rc) (n : Nat) (md : Modu) : Prop where
  r : Room (n + 2) X.A
  f : ∀ (i : Nat) (x : Str), md.fns[i]? = some x → x ≠ "" → Cb X Z n [] x i
  fd : ∀ (j i : Nat) (x : Str) (ds : List D), md.dfs[j]? = some (i, ds) → md.fns[i]? = some x → x ≠ "" → Cb X Z n (ds.map vD) x i
  m : ∀ (c m f : Nat), Z.mt c m = some f → MoOk X Z n [] c m f
  mdf : ∀ (j m : Nat) (ds : List D), md.dms[j]? = some (m, ds) → ∀ (c f : Nat), Z.mt c m = some f → MoOk X Z n (ds.map vD) c m f
  fl : ∀ (i : Nat) (x : Str), md.fns[i]? = some x → x ≠ "" → CbL X Z n x i
  n : ∀ (c f : Nat), Z.ini c = some f → NwOk X Z n [] c f
  cg : ∀ (c f : Nat) (x : Str), Z.ini c = some f → md.clss[c]? = some x → X.mg x = some (.ref (Z.K.ca c))
  dg : ∀ (i : Nat) (x : Str), md.dcts[i]? = some x → ∃ d ks ds, X.mg x = some (.ref d) ∧ Z.gd i = some (ks, ds) ∧ GdOk X.K X.w d ks ds
section
variable {X : Cx} {Z : Rc} {W : WX} {n : Nat} {cons blts : List Str} {md : Modu}
theorem room_u {n : Nat} {A : Around} (r : Room n A) : A.units + 65 < cLine := Nat.lt_of_le_of_lt (Nat.add_le_add_left (by omega : 65 ≤ 16 * n + 200) _) (by have := r.un; omega)
theorem Cxt.u9 (c : Cxt X Z W n) : X.A.units + 9 < cLine := by have := c.u; omega
theorem Cxt.u64 (c : Cxt X Z W n) : X.A.units + 64 < cLine := by have := c.u; omega
/-! ### expressions -/
theorem q_var (i : Nat) {x : Str} {pos : Pos} (hN : X.N[i]? = some x := by rfl) (hv : Vis X.env.scope x := by first | exact Or.inl rfl | exact Or.inr (Or.inl rfl) | exact Or.inr (Or.inr rfl)) (hd : (x == ("__debug__" : Str)) = false := by decide)
    (hcd : (x == ("__classdict__" : Str)) = false := by decide) : PE X (.Name x pos) (tVar i) := pe_var hN hv hd hcd
theorem d_var (i : Nat) {x : Str} {pos : Pos} (hN : X.N[i]? = some x := by rfl) (hv : Vis X.env.scope x := by first | exact Or.inl rfl | exact Or.inr (Or.inl rfl) | exact Or.inr (Or.inr rfl)) (hd : (x == ("__debug__" : Str)) = false := by decide)
    (hcd : (x == ("__classdict__" : Str)) = false := by decide) : PE X (.Name x pos) ((E.var i).rd Z W) := pe_var hN hv hd hcd
variable {a b e f o : Expr} {ea eb ee ef : E} {oa ob oo : Od} {pos : Pos} {P : Pa} {t : TE}
theorem q_f (c : Cxt X Z W n) (k : Nat) {name : Str} (ho : PE X o t) (hn : Z.K.fl k = name := by rfl) (hb : attributeBase o name X.env (eval o X.env) = eval o X.env := by rfl) : PE X (.Attribute o name pos) (tFld Z.K.K t (Z.K.fl k)) := by
  subst hn
  rw [c.kx.k]
  exact pe_fld ho hb
theorem q_vi (c : Cxt X Z W n) (j : Nat) (ho : PE X o t) (hb : PE X b (tVar j)) (hs : PlainIx b := by exact fun _ _ => rfl) : PE X (.Subscript o b pos) (tOp (Op2.idx.rd Z.K) t (tVar j)) := pe_ix (ixr c.kx c.u) ho hb hs
theorem d_pth (h : PE X e (P.rd Z.K)) : PE X e ((E.pth P).rd Z W) := h
theorem d_frz (h : PE X e (P.rd Z.K)) : PE X e ((E.frz P).rd Z W) := h
theorem o_e (h : PE X e (ee.rd Z W)) : PE X e ((Od.e ee).rd Z W) := h
theorem o_p (h : PE X e (P.rd Z.K)) : PE X e ((Od.p P).rd Z W) := h
theorem d_int {i : Int} {j} {pos : Pos} : PE X (.Constant (.int i) j pos) ((E.cst (.int i)).rd Z W) := pe_int
theorem d_bl {b : Bool} {j} {pos : Pos} : PE X (.Constant (.bool b) j pos) ((E.cst (.bl b)).rd Z W) := pe_bl
theorem d_non {j} {pos : Pos} : PE X (.Constant .none j pos) ((E.cst .non).rd Z W) := pe_non
theorem d_str {x : Str} {l : List Nat} {j} {pos : Pos} (h : x = S l := by rfl) : PE X (.Constant (.str x) j pos) ((E.cst (.str l)).rd Z W) := by
  subst h
  exact pe_str
theorem d_glb (m : Md X Z cons blts) (i : Nat) {x : Str} {pos : Pos} (hi : cons[i]? = some x := by rfl) (hg : Gl X x := by rfl) (hd : (x == ("__debug__" : Str)) = false := by decide) : PE X (.Name x pos) ((E.glb i).rd Z W) := by
  obtain ⟨u, h1, h2⟩ := m.c i x hi
  exact pe_glob hg h1 h2 hd
theorem d_fn (mf : Mf X Z n md) (i : Nat) {x : Str} {pos : Pos} (hi : md.fns[i]? = some x := by rfl) (hx : x ≠ "" := by decide) (hg : Gl X x := by rfl) (hd : (x == ("__debug__" : Str)) = false := by decide) : PE X (.Name x pos) ((E.cst (.fn i)).rd Z W) := pe_glob hg (mf.f i x hi hx).g rfl hd
/-- a type's name -/
theorem d_ty (m : Md X Z cons blts) (i : Nat) {x : Str} {T : String} {pos : Pos} (hi : blts[i]? = some x := by rfl) (hv : bootBuiltins x = some (.type T) := by rfl) (hg : Gl X x := by rfl) (hn : x ≠ "__name__" := by decide) (hd : (x == ("__debug__" : Str)) = false := by decide) :
    PE X (.Name x pos) ((E.cst (.ty T)).rd Z W) := pe_bltn hg (m.b i x hi) hv rfl hn hd
/-- an operator's rule -/
def Bin (X : Cx) (Z : Rc) (o : Operator) (p : Op2) : Prop := OpR X (binaryOp o) (p.rd Z.K)
theorem j_add (c : Cxt X Z W n) : Bin X Z .Add .add := opr_add c.kx
theorem j_sub (c : Cxt X Z W n) : Bin X Z .Sub .sub := opr_sub c.kx
theorem j_mul (c : Cxt X Z W n) : Bin X Z .Mult .mul := opr_mul c.kx
theorem j_fdiv (c : Cxt X Z W n) : Bin X Z .FloorDiv .fdiv := opr_fdiv c.kx
theorem j_mod (c : Cxt X Z W n) : Bin X Z .Mod .mod := opr_mod c.kx
theorem j_pow (c : Cxt X Z W n) : Bin X Z .Pow .pow := opr_pow c.kx
theorem d_bin {q : Operator} {p : Op2} (k : Bin X Z q p) (ha : PE X a (ea.rd Z W)) (hb : PE X b (eb.rd Z W)) : PE X (.BinOp a q b pos) ((E.op2 p ea eb).rd Z W) := pe_op k ha hb
theorem d_bino {q : Operator} {p : Op2} (k : Bin X Z q p) (ha : PE X a (oa.rd Z W)) (hb : PE X b (ob.rd Z W)) : PE X (.BinOp a q b pos) ((E.opo p oa ob).rd Z W) := pe_op k ha hb
theorem f_cat (c : Cxt X Z W n) (ha : PE X a (oa.rd Z W)) (hb : PE X b (ob.rd Z W)) : PE X (.BinOp a .Add b pos) ((M.cat oa ob).rd Z W) := pe_op (j_add c) ha hb
/-- a comparison's rule -/
def Cmp (X : Cx) (Z : Rc) (o : CmpOp) (p : Op2) : Prop := OpR X (compareOp o) (p.rd Z.K)
theorem k_eq (c : Cxt X Z W n) : Cmp X Z .Eq .eq := opr_eq c.kx c.u64
theorem k_ne (c : Cxt X Z W n) : Cmp X Z .NotEq .ne := opr_ne c.kx c.u64
theorem k_lt (c : Cxt X Z W n) : Cmp X Z .Lt .lt := opr_lt c.kx
theorem k_le (c : Cxt X Z W n) : Cmp X Z .LtE .le := opr_le c.kx
theorem k_gt (c : Cxt X Z W n) : Cmp X Z .Gt .gt := opr_gt c.kx
theorem k_ge (c : Cxt X Z W n) : Cmp X Z .GtE .ge := opr_ge c.kx
theorem k_in (c : Cxt X Z W n) : Cmp X Z .In .inn := opr_in c.kx c.u
theorem k_nin (c : Cxt X Z W n) : Cmp X Z .NotIn .nin := opr_nin c.kx c.u
theorem k_is (c : Cxt X Z W n) : Cmp X Z .Is .isn := opr_isn c.kx
theorem k_nis (c : Cxt X Z W n) : Cmp X Z .IsNot .nsn := opr_nsn c.kx
variable {w w' : CmpOp} {p p' : Op2}
theorem d_cmp (k : Cmp X Z w p) (ha : PE X a (ea.rd Z W)) (hb : PE X b (eb.rd Z W)) (hm : behindInMarks w b = false := by rfl) : PE X (.Compare a [w] [b] pos) ((E.op2 p ea eb).rd Z W) := pe_cmpR k ha hb hm
theorem t_cmp (k : Cmp X Z w p) (ha : PE X a (ea.rd Z W)) (hb : PE X b (eb.rd Z W)) (hm : behindInMarks w b = false := by rfl) : PT X (.Compare a [w] [b] pos) ((T.val (.op2 p ea eb)).rd Z W) := pt_cmpR k ha hb hm
theorem d_cmpo (k : Cmp X Z w p) (ha : PE X a (oa.rd Z W)) (hb : PE X b (ob.rd Z W)) (hm : behindInMarks w b = false := by rfl) : PE X (.Compare a [w] [b] pos) ((E.opo p oa ob).rd Z W) := pe_cmpR k ha hb hm
theorem t_cmpo (k : Cmp X Z w p) (ha : PE X a (oa.rd Z W)) (hb : PE X b (ob.rd Z W)) (hm : behindInMarks w b = false := by rfl) : PT X (.Compare a [w] [b] pos) ((T.val (.opo p oa ob)).rd Z W) := pt_cmpR k ha hb hm
theorem d_chain (k : Cmp X Z w p) (k' : Cmp X Z w' p') (ha : PE X a (ea.rd Z W)) (hb : PE X b (eb.rd Z W)) (he : PE X e (ee.rd Z W)) (hm : lastMarks [w, w'] [b, e] = false := by with_unfolding_all rfl) : PE X (.Compare a [w, w'] [b, e] pos) ((E.chain p p' ea eb ee).rd Z W) := pe_chain k k' ha hb he hm
theorem t_chain (k : Cmp X Z w p) (k' : Cmp X Z w' p') (ha : PE X a (ea.rd Z W)) (hb : PE X b (eb.rd Z W)) (he : PE X e (ee.rd Z W)) (hm : lastMarks [w, w'] [b, e] = false := by with_unfolding_all rfl) : PT X (.Compare a [w, w'] [b, e] pos) ((T.val (.chain p p' ea eb ee)).rd Z W) := pt_chain k k' ha hb he hm
theorem d_neg (ha : PE X a (ea.rd Z W)) : PE X (.UnaryOp .USub a pos) ((E.neg ea).rd Z W) := pe_un un_neg ha
theorem d_ix (c : Cxt X Z W n) (ha : PE X a (ea.rd Z W)) (hb : PE X b (eb.rd Z W)) (hs : PlainIx b := by exact fun _ _ => rfl) : PE X (.Subscript a b pos) ((E.op2 .idx ea eb).rd Z W) := pe_ix (ixr c.kx c.u) ha hb hs
theorem d_ixo (c : Cxt X Z W n) (ha : PE X a (oa.rd Z W)) (hb : PE X b (ob.rd Z W)) (hs : PlainIx b := by exact fun _ _ => rfl) : PE X (.Subscript a b pos) ((E.opo .idx oa ob).rd Z W) := pe_ix (ixr c.kx c.u) ha hb hs
/-! and, or, not, if -/
theorem d_and {rest : List Expr} (c : Cxt X Z W n) (ha : PE X a (ea.rd Z W)) (hb : PE X (.BoolOp .And (b :: rest) pos) (eb.rd Z W)) : PE X (.BoolOp .And (a :: b :: rest) pos) ((E.and ea eb).rd Z W) := by
  show PE X _ (tAndT Z.K.K _ _)
  rw [c.kx.k]
  exact pe_andT ha hb
theorem d_or {rest : List Expr} (c : Cxt X Z W n) (ha : PE X a (ea.rd Z W)) (hb : PE X (.BoolOp .Or (b :: rest) pos) (eb.rd Z W)) : PE X (.BoolOp .Or (a :: b :: rest) pos) ((E.or ea eb).rd Z W) := by
  show PE X _ (tOrT Z.K.K _ _)
  rw [c.kx.k]
  exact pe_orT ha hb
theorem d_one {op : PySem.BoolOp} (h : PE X a (ea.rd Z W)) : PE X (.BoolOp op [a] pos) (ea.rd Z W) := pe_one h
theorem d_not (c : Cxt X Z W n) (ha : PE X a (ea.rd Z W)) : PE X (.UnaryOp .Not a pos) ((E.not ea).rd Z W) := by
  show PE X _ (tNotT Z.K.K _)
  rw [c.kx.k]
  exact pe_notT ha
theorem d_if {t : T} {q : Expr} (hq : PT X q (t.rd Z W)) (ha : PE X a (ea.rd Z W)) (hb : PE X b (eb.rd Z W)) : PE X (.IfExp q a b pos) ((E.ite t ea eb).rd Z W) := pe_ifExp hq ha hb
/-! lists of expressions -/
variable {es : List Expr} {ds : Es} {mm : M}
theorem d_mk (h : PE X e (mm.rd Z W)) : PE X e ((E.mk mm).rd Z W) := h
theorem s_nil : PA X [] ((Es.nil).rd Z W) := pa_nil
theorem s_cons (ha : PE X a (ea.rd Z W)) (hr : PA X es (ds.rd Z W)) (hs : starEach (a :: es) X.env = (false, eval a X.env) :: starEach es X.env := by rfl) : PA X (a :: es) ((Es.cons ea ds).rd Z W) := pa_cons ha hr hs
theorem d_tup {x1} (h : PA X es (ds.rd Z W)) : PE X (.Tuple es x1 pos) ((E.tup ds).rd Z W) := pe_tupF h
theorem f_lst (h : PA X es (ds.rd Z W)) : PE X (.List es pos) ((M.lst ds).rd Z W) := pe_lst h
variable {as : As}
theorem a_nil : PA X [] ((As.nil).rd Z W) := pa_nil
theorem a_c (ha : PE X a (oa.rd Z W)) (hr : PA X es (as.rd Z W)) (hs : starEach (a :: es) X.env = (false, eval a X.env) :: starEach es X.env := by rfl) : PA X (a :: es) ((As.cons oa as).rd Z W) := pa_cons ha hr hs
theorem a_m (ha : PE X a (mm.rd Z W)) (hr : PA X es (as.rd Z W)) (hs : starEach (a :: es) X.env = (false, eval a X.env) :: starEach es X.env := by rfl) : PA X (a :: es) ((As.tm mm as).rd Z W) := pa_cons ha hr hs
theorem f_mov (i : Nat) (h : PE X e (tVar i)) : PE X e ((M.mov i).rd Z W) := h
/-! calls -/
theorem call_any {x : Str} {i : Nat} {q : Pos} {dvs : List V} {ta : TA} (c : Cxt X Z W n) (cb : Cb X Z n dvs x i) (ha : PA X (e :: es) ta) (hg : Gl X x) (hdb : (x == ("__debug__" : Str)) = false)
    (he : starEach (e :: es) X.env = (false, eval e X.env) :: starEach es X.env) (hpl : (backTo pos (starEach es X.env)).any (·.1) = false) :
    PE X (.Call (.Name x q) (e :: es) [] pos) (tCallSD (spC Z i) dvs (fun σ cls d H => W cls d σ H) ta) := by
  obtain ⟨⟨fd, ps, ds, F, hd, hb⟩, hr, hm, hk⟩ := cb
  exact pe_callSD F hr hg hm hk hb hd (fun σ => passAt c.tk σ) ha hdb he hpl
theorem call_any0 {x : Str} {i : Nat} {q : Pos} {dvs : List V} (c : Cxt X Z W n) (cb : Cb X Z n dvs x i) (hg : Gl X x) (hdb : (x == ("__debug__" : Str)) = false) :
    PE X (.Call (.Name x q) [] [] pos) (tCallSD (spC Z i) dvs (fun σ cls d H => W cls d σ H) tNil) := by
  obtain ⟨⟨fd, ps, ds, F, hd, hb⟩, hr, hm, hk⟩ := cb
  refine ⟨fun pins s σ H Q I h => ?_⟩
  refine wpAny_Call_Name_kw (ld_glob I hg hm ?_ hdb)
  exact PySem.W.callWith_K0 I.kIn hk (run_fnSD (us := []) (vs := []) F hr hb hd (passAt c.tk σ) I .nil h)
theorem d_call {x : Str} {q : Pos} (c : Cxt X Z W n) (mf : Mf X Z n md) (i : Nat) (ha : PA X (e :: es) (as.rd Z W)) (hi : md.fns[i]? = some x := by rfl) (hx : x ≠ "" := by decide) (hg : Gl X x := by rfl) (hdb : (x == ("__debug__" : Str)) = false := by decide)
    (he : starEach (e :: es) X.env = (false, eval e X.env) :: starEach es X.env := by rfl) (hpl : (backTo pos (starEach es X.env)).any (·.1) = false := by rfl) : PE X (.Call (.Name x q) (e :: es) [] pos) ((E.call i as).rd Z W) := call_any c (mf.f i x hi hx) ha hg hdb he hpl
theorem d_call0 {x : Str} {q : Pos} (c : Cxt X Z W n) (mf : Mf X Z n md) (i : Nat) (hi : md.fns[i]? = some x := by rfl) (hx : x ≠ "" := by decide) (hg : Gl X x := by rfl) (hdb : (x == ("__debug__" : Str)) = false := by decide) : PE X (.Call (.Name x q) [] [] pos) ((E.call i .nil).rd Z W) := call_any0 c (mf.f i x hi hx) hg hdb
theorem f_call {x : Str} {q : Pos} (c : Cxt X Z W n) (mf : Mf X Z n md) (i : Nat) (ha : PA X (e :: es) (as.rd Z W)) (hi : md.fns[i]? = some x := by rfl) (hx : x ≠ "" := by decide) (hg : Gl X x := by rfl) (hdb : (x == ("__debug__" : Str)) = false := by decide)
    (he : starEach (e :: es) X.env = (false, eval e X.env) :: starEach es X.env := by rfl) (hpl : (backTo pos (starEach es X.env)).any (·.1) = false := by rfl) : PE X (.Call (.Name x q) (e :: es) [] pos) ((M.call i as).rd Z W) := call_any c (mf.f i x hi hx) ha hg hdb he hpl
theorem f_call0 {x : Str} {q : Pos} (c : Cxt X Z W n) (mf : Mf X Z n md) (i : Nat) (hi : md.fns[i]? = some x := by rfl) (hx : x ≠ "" := by decide) (hg : Gl X x := by rfl) (hdb : (x == ("__debug__" : Str)) = false := by decide) : PE X (.Call (.Name x q) [] [] pos) ((M.call i .nil).rd Z W) := call_any0 c (mf.f i x hi hx) hg hdb
/-! methods -/
theorem meth_any {name : Str} {t : TE} {ta : TA} {m : Nat} {dvs : List V} {apos : Pos} {pl : Sem Bool} (c : Cxt X Z W n) (hr : Room (n + 2) X.A) (mo : ∀ c f, Z.mt c m = some f → MoOk X Z n dvs c m f) (ho : PE X o t) (ha : PA X (e :: es) ta) (hn : Z.mn m = name)
    (hst : starEach (e :: es) X.env = (false, eval e X.env) :: starEach es X.env) (hpl : (backTo pos (starEach es X.env)).any (·.1) = false)
    (ht : eval (.Call (.Attribute o name apos) (e :: es) [] pos) X.env = (do
      let ov ← eval o X.env
      standAt apos.atName
      let (f, first) ← holding [ov] (getMethod ov name pl)
      callWith pos f first (backTo pos (starEach (e :: es) X.env)) (backToKw pos (keywordEach [] X.env)))) : PE X (.Call (.Attribute o name apos) (e :: es) [] pos) (tMethV Z W m dvs t ta) := by
  subst hn
  exact pe_methD ho mo hr c.tk ha hst hpl ht
theorem meth_any0 {name : Str} {t : TE} {m : Nat} {dvs : List V} {apos : Pos} {pl : Sem Bool} (c : Cxt X Z W n) (hr : Room (n + 2) X.A) (mo : ∀ c f, Z.mt c m = some f → MoOk X Z n dvs c m f) (ho : PE X o t) (hn : Z.mn m = name)
    (ht : eval (.Call (.Attribute o name apos) [] [] pos) X.env = (do
      let ov ← eval o X.env
      standAt apos.atName
      let (f, first) ← holding [ov] (getMethod ov name pl)
      callWith pos f first (backTo pos (starEach [] X.env)) (backToKw pos (keywordEach [] X.env)))) : PE X (.Call (.Attribute o name apos) [] [] pos) (tMethV Z W m dvs t tNil) := by
  subst hn
  exact pe_methD0 ho mo hr c.tk ht
theorem meth_nil {m : Nat} {t : TE} {ta : TA} : (∀ σ H Q, tMethD Z W m t ta σ H Q → tMethV Z W m [] t ta σ H Q) := fun σ H Q h => by
  unfold tMethV
  simp only [List.append_nil]
  exact h
theorem pe_wk {t t' : TE} (h : PE X e t) (k : ∀ σ H Q, t' σ H Q → t σ H Q) : PE X e t' := pe_weak h k
def tWkE (t : TE) : TE := fun σ H Q => ∃ Q', t σ H Q' ∧ ∀ v H', Q' v H' → Q v H'
theorem pe_wkE {t : TE} (h : PE X e t) : PE X e (tWkE t) := ⟨fun pins s σ H Q I ⟨Q', q, k⟩ => thn (h.run pins s σ H _ I q) fun u s1 ⟨v, H1, I1, r, q1⟩ => ⟨v, H1, I1, r, k _ _ q1⟩⟩
theorem d_meth {name : Str} {apos : Pos} {pl : Sem Bool} (c : Cxt X Z W n) (mf : Mf X Z n md) (m : Nat) (ho : PE X o (P.rd Z.K)) (ha : PA X (e :: es) (as.rd Z W)) (hn : Z.mn m = name := by rfl)
    (hst : starEach (e :: es) X.env = (false, eval e X.env) :: starEach es X.env := by rfl) (hpl : (backTo pos (starEach es X.env)).any (·.1) = false := by rfl)
    (ht : eval (.Call (.Attribute o name apos) (e :: es) [] pos) X.env = (do
      let ov ← eval o X.env
      standAt apos.atName
      let (f, first) ← holding [ov] (getMethod ov name pl)
      callWith pos f first (backTo pos (starEach (e :: es) X.env)) (backToKw pos (keywordEach [] X.env))) := by rfl) : PE X (.Call (.Attribute o name apos) (e :: es) [] pos) ((E.meth P m as).rd Z W) := pe_wk (meth_any c mf.r (fun c f h => mf.m c m f h) ho ha hn hst hpl ht) meth_nil
theorem d_meth0 {name : Str} {apos : Pos} {pl : Sem Bool} (c : Cxt X Z W n) (mf : Mf X Z n md) (m : Nat) (ho : PE X o (P.rd Z.K)) (hn : Z.mn m = name := by rfl)
    (ht : eval (.Call (.Attribute o name apos) [] [] pos) X.env = (do
      let ov ← eval o X.env
      standAt apos.atName
      let (f, first) ← holding [ov] (getMethod ov name pl)
      callWith pos f first (backTo pos (starEach [] X.env)) (backToKw pos (keywordEach [] X.env))) := by rfl) : PE X (.Call (.Attribute o name apos) [] [] pos) ((E.meth P m .nil).rd Z W) := pe_wk (meth_any0 c mf.r (fun c f h => mf.m c m f h) ho hn ht) meth_nil
/-- .. with default values: asf all, as0 the given ones -/
theorem d_methd {name : Str} {apos : Pos} {pl : Sem Bool} {asf : As} {dd : List D} (c : Cxt X Z W n) (mf : Mf X Z n md) (m j : Nat) (ho : PE X o (P.rd Z.K)) (ha : PA X (e :: es) (as.rd Z W)) (hj : md.dms[j]? = some (m, dd) := by rfl) (hdf : ∀ σ H Q, asf.rd Z W σ H Q → as.rd Z W σ H fun vs H => Q (vs ++ dd.map vD) H := by exact fun _ _ _ h => h) (hn : Z.mn m = name := by rfl)
    (hst : starEach (e :: es) X.env = (false, eval e X.env) :: starEach es X.env := by rfl) (hpl : (backTo pos (starEach es X.env)).any (·.1) = false := by rfl)
    (ht : eval (.Call (.Attribute o name apos) (e :: es) [] pos) X.env = (do
      let ov ← eval o X.env
      standAt apos.atName
      let (f, first) ← holding [ov] (getMethod ov name pl)
      callWith pos f first (backTo pos (starEach (e :: es) X.env)) (backToKw pos (keywordEach [] X.env))) := by rfl) : PE X (.Call (.Attribute o name apos) (e :: es) [] pos) ((E.meth P m asf).rd Z W) :=
  pe_wk (meth_any (dvs := dd.map vD) c mf.r (fun c f h => mf.mdf j m dd hj c f h) (pe_wkE ho) ha hn hst hpl ht) fun σ H Q h => ⟨_, h, fun x H1 ⟨a, c, dx, fs, f, e1, e2, e3, e4, q⟩ => ⟨a, c, dx, fs, f, e1, e2, e3, e4, hdf _ _ _ q⟩⟩
end
end Mq
/-! A small language over HandS, 22: derivations, further ones. -/
namespace Mq
open PySem L2 Evl PyProof.Rows
open SX (S S_len S_cat S_inj)
section
variable {X : Cx} {Z : Rc} {W : WX} {n : Nat} {cons blts : List Str} {md : Modu}
variable {a b e f o : Expr} {ea eb ee ef : E} {oa ob oo : Od} {pos q : Pos} {P : Pa} {es : List Expr} {ds : Es} {mm : M} {as : As} {x : Str}
/-! objects -/
theorem nw_nil {c : Nat} {ta : TA} : (∀ σ H Q, tNewD Z W c ta σ H Q → tNewV Z W c [] ta σ H Q) := fun σ H Q h => by
  unfold tNewV
  simp only [List.append_nil]
  exact h
theorem f_new (c : Cxt X Z W n) (mf : Mf X Z n md) (k f : Nat) (ha : PA X (e :: es) (as.rd Z W)) (hk : md.clss[k]? = some x := by rfl) (hi : Z.ini k = some f := by rfl) (hg : Gl X x := by rfl) (hdb : (x == ("__debug__" : Str)) = false := by decide)
    (he : starEach (e :: es) X.env = (false, eval e X.env) :: starEach es X.env := by rfl) (hpl : (backTo pos (starEach es X.env)).any (·.1) = false := by rfl) : PE X (.Call (.Name x q) (e :: es) [] pos) ((M.new k as).rd Z W) := pe_wk (pe_newD (mf.n k f hi) mf.r c.tk hg (mf.cg k f x hi hk) ha hdb he hpl) nw_nil
theorem f_new0 (c : Cxt X Z W n) (mf : Mf X Z n md) (k f : Nat) (hk : md.clss[k]? = some x := by rfl) (hi : Z.ini k = some f := by rfl) (hg : Gl X x := by rfl) (hdb : (x == ("__debug__" : Str)) = false := by decide) : PE X (.Call (.Name x q) [] [] pos) ((M.new k .nil).rd Z W) := pe_wk (pe_newD0 (mf.n k f hi) mf.r c.tk hg (mf.cg k f x hi hk) hdb) nw_nil
theorem f_meth {name : Str} {apos : Pos} {pl : Sem Bool} (c : Cxt X Z W n) (mf : Mf X Z n md) (m : Nat) (ho : PE X o (P.rd Z.K)) (ha : PA X (e :: es) (as.rd Z W)) (hn : Z.mn m = name := by rfl)
    (hst : starEach (e :: es) X.env = (false, eval e X.env) :: starEach es X.env := by rfl) (hpl : (backTo pos (starEach es X.env)).any (·.1) = false := by rfl)
    (ht : eval (.Call (.Attribute o name apos) (e :: es) [] pos) X.env = (do
      let ov ← eval o X.env
      standAt apos.atName
      let (f, first) ← holding [ov] (getMethod ov name pl)
      callWith pos f first (backTo pos (starEach (e :: es) X.env)) (backToKw pos (keywordEach [] X.env))) := by rfl) : PE X (.Call (.Attribute o name apos) (e :: es) [] pos) ((M.meth P m as).rd Z W) := pe_wk (meth_any c mf.r (fun c f h => mf.m c m f h) ho ha hn hst hpl ht) meth_nil
theorem f_meth0 {name : Str} {apos : Pos} {pl : Sem Bool} (c : Cxt X Z W n) (mf : Mf X Z n md) (m : Nat) (ho : PE X o (P.rd Z.K)) (hn : Z.mn m = name := by rfl)
    (ht : eval (.Call (.Attribute o name apos) [] [] pos) X.env = (do
      let ov ← eval o X.env
      standAt apos.atName
      let (f, first) ← holding [ov] (getMethod ov name pl)
      callWith pos f first (backTo pos (starEach [] X.env)) (backToKw pos (keywordEach [] X.env))) := by rfl) : PE X (.Call (.Attribute o name apos) [] [] pos) ((M.meth P m .nil).rd Z W) := pe_wk (meth_any0 c mf.r (fun c f h => mf.m c m f h) ho hn ht) meth_nil
/-! dicts -/
theorem f_dnew : PE X (.Dict [] [] pos) ((M.dct .nil).rd Z W) := pe_dnewK
theorem p_cons {k v : Expr} {d : D} {ev : E} {ks : List (Option Expr)} {vs : List Expr} {rs : Ps} (hk : PE X k (tC (vD d))) (hv : PE X v (ev.rd Z W)) (hr : PPs X pos ks vs (rs.rd Z W)) : PPs X pos (some k :: ks) (v :: vs) ((Ps.cons d ev rs).rd Z W) := pps_cons hk hv hr
theorem p_str {x : Str} {l : List Nat} {j} (h : x = S l := by rfl) : PE X (.Constant (.str x) j pos) (tC (vD (.str l))) := by
  subst h
  exact pe_str
theorem p_int {i : Int} {j} : PE X (.Constant (.int i) j pos) (tC (vD (.int i))) := pe_int
theorem p_nil : PPs X pos [] [] ((Ps.nil).rd Z W) := pps_nil
theorem f_dct {d : D} {ev : E} {ks : List (Option Expr)} {vs : List Expr} {rs : Ps} (h : PPs X pos ks vs ((Ps.cons d ev rs).rd Z W)) (h0 : ks ≠ [] := by exact fun z => nomatch z) (hall : ks.all (·.isSome) = true := by rfl) (hl : ks.length = vs.length := by rfl) (h15 : ks.length ≤ 15 := by decide) : PE X (.Dict ks vs pos) ((M.dct (.cons d ev rs)).rd Z W) := pe_disp h hall hl h0 h15
/-! built-ins -/
inductive Blt (X : Cx) (Z : Rc) : Str → Bif → Prop
  | b {id : String} {x : Str} {B : Bif} (h : CallR X (.builtin id) (B.rd Z.K)) (hv : bootBuiltins x = some (.builtin id)) : Blt X Z x B
  | t {T : String} {x : Str} {B : Bif} (h : CallR X (.type T) (B.rd Z.K)) (hv : bootBuiltins x = some (.type T)) : Blt X Z x B
theorem b_len (c : Cxt X Z W n) : Blt X Z "len" .len := .b (bif_len c.kx) (by rfl)
theorem b_ord (c : Cxt X Z W n) : Blt X Z "ord" .ord := .b (bif_ord c.kx) (by rfl)
theorem b_min (c : Cxt X Z W n) (hc : X.calm = true := by rfl) : Blt X Z "min" .min2 := .b (bif_min2 c.kx hc) (by rfl)
theorem b_max (c : Cxt X Z W n) (hc : X.calm = true := by rfl) : Blt X Z "max" .max2 := .b (bif_max2 c.kx hc) (by rfl)
theorem b_sum (c : Cxt X Z W n) (hc : X.calm = true := by rfl) : Blt X Z "sum" .sum := .b (bif_sum c.kx hc) (by rfl)
theorem b_any (c : Cxt X Z W n) (hc : X.calm = true := by rfl) : Blt X Z "any" .any := .b (bif_any c.kx hc) (by rfl)
theorem b_all (c : Cxt X Z W n) (hc : X.calm = true := by rfl) : Blt X Z "all" .all := .b (bif_all c.kx hc) (by rfl)
theorem b_abs (c : Cxt X Z W n) : Blt X Z "abs" .abs := .b (bif_abs c.kx) (by rfl)
theorem b_sorted (c : Cxt X Z W n) (hc : X.calm = true := by rfl) : Blt X Z "sorted" .sorted := .b (bif_sorted c.kx hc c.u64) (by rfl)
theorem b_isi (c : Cxt X Z W n) : Blt X Z "isinstance" .isi := .b (bif_isi c.kx) (by rfl)
theorem b_int (c : Cxt X Z W n) : Blt X Z "int" .int := .t (bif_int c.kx) (by rfl)
theorem b_str (c : Cxt X Z W n) : Blt X Z "str" .str := .t (bif_str c.kx) (by rfl)
theorem b_tuple (c : Cxt X Z W n) : Blt X Z "tuple" .tuple := .t (bif_tuple c.kx) (by rfl)
theorem b_list (c : Cxt X Z W n) (hc : X.calm = true := by rfl) : Blt X Z "list" .list := .t (bif_list c.kx hc) (by rfl)
theorem bif_any_ {B : Bif} {ta : TA} (m : Md X Z cons blts) (k : Blt X Z x B) (i : Nat) (ha : PA X (e :: es) ta) (hi : blts[i]? = some x) (hg : Gl X x) (hn : x ≠ "__name__") (hdb : (x == ("__debug__" : Str)) = false)
    (he : starEach (e :: es) X.env = (false, eval e X.env) :: starEach es X.env) (hpl : (backTo pos (starEach es X.env)).any (·.1) = false) : PE X (.Call (.Name x q) (e :: es) [] pos) (tCB (B.rd Z.K) ta) := by
  cases k with
  | b h hv => exact pe_callB h hg (m.b i x hi) hv ha hn hdb he hpl
  | t h hv => exact pe_callTy h hg (m.b i x hi) hv ha hn hdb he hpl
theorem d_bif {B : Bif} (m : Md X Z cons blts) (k : Blt X Z x B) (i : Nat) (ha : PA X (e :: es) (ds.rd Z W)) (hi : blts[i]? = some x := by rfl) (hg : Gl X x := by rfl) (hn : x ≠ "__name__" := by decide) (hdb : (x == ("__debug__" : Str)) = false := by decide)
    (he : starEach (e :: es) X.env = (false, eval e X.env) :: starEach es X.env := by rfl) (hpl : (backTo pos (starEach es X.env)).any (·.1) = false := by rfl) : PE X (.Call (.Name x q) (e :: es) [] pos) ((E.bif B ds).rd Z W) := bif_any_ m k i ha hi hg hn hdb he hpl
theorem d_bifo {B : Bif} (m : Md X Z cons blts) (k : Blt X Z x B) (i : Nat) (ha : PA X (e :: es) (as.rd Z W)) (hi : blts[i]? = some x := by rfl) (hg : Gl X x := by rfl) (hn : x ≠ "__name__" := by decide) (hdb : (x == ("__debug__" : Str)) = false := by decide)
    (he : starEach (e :: es) X.env = (false, eval e X.env) :: starEach es X.env := by rfl) (hpl : (backTo pos (starEach es X.env)).any (·.1) = false := by rfl) : PE X (.Call (.Name x q) (e :: es) [] pos) ((E.bifo B as).rd Z W) := bif_any_ m k i ha hi hg hn hdb he hpl
theorem f_bif {B : Bif} (m : Md X Z cons blts) (k : Blt X Z x B) (i : Nat) (ha : PA X (e :: es) (ds.rd Z W)) (hi : blts[i]? = some x := by rfl) (hg : Gl X x := by rfl) (hn : x ≠ "__name__" := by decide) (hdb : (x == ("__debug__" : Str)) = false := by decide)
    (he : starEach (e :: es) X.env = (false, eval e X.env) :: starEach es X.env := by rfl) (hpl : (backTo pos (starEach es X.env)).any (·.1) = false := by rfl) : PE X (.Call (.Name x q) (e :: es) [] pos) ((M.bif B ds).rd Z W) := bif_any_ m k i ha hi hg hn hdb he hpl
theorem f_bifo {B : Bif} (m : Md X Z cons blts) (k : Blt X Z x B) (i : Nat) (ha : PA X (e :: es) (as.rd Z W)) (hi : blts[i]? = some x := by rfl) (hg : Gl X x := by rfl) (hn : x ≠ "__name__" := by decide) (hdb : (x == ("__debug__" : Str)) = false := by decide)
    (he : starEach (e :: es) X.env = (false, eval e X.env) :: starEach es X.env := by rfl) (hpl : (backTo pos (starEach es X.env)).any (·.1) = false := by rfl) : PE X (.Call (.Name x q) (e :: es) [] pos) ((M.bifo B as).rd Z W) := bif_any_ m k i ha hi hg hn hdb he hpl
/-- a built-in's method -/
structure Mtd (X : Cx) (Z : Rc) (name : Str) (M : Mth) : Prop where
  ex : ∃ id : String, PlainAttrs M.ty ∧ Slot M.ty name id ∧ typeOf (.builtin id) = pure (.type "method_descriptor") ∧ MtR X id (M.rd Z.K)
theorem m_find (c : Cxt X Z W n) : Mtd X Z "find" .find := ⟨⟨"str.find", PySem.F.plainAttrs_str, PySem.F.slot_str_find, PySem.F.type_str_find, mth_find c.kx⟩⟩
theorem m_find3 (c : Cxt X Z W n) : Mtd X Z "find" .find3 := ⟨⟨"str.find", PySem.F.plainAttrs_str, PySem.F.slot_str_find, PySem.F.type_str_find, mth_find3 c.kx⟩⟩
theorem m_count (c : Cxt X Z W n) : Mtd X Z "count" .count := ⟨⟨"str.count", PySem.F.plainAttrs_str, PySem.F.slot_str_count, PySem.F.type_str_count, mth_count c.kx⟩⟩
theorem m_rfind (c : Cxt X Z W n) : Mtd X Z "rfind" .rfind := ⟨⟨"str.rfind", PySem.F.plainAttrs_str, PySem.F.slot_str_rfind, PySem.F.type_str_rfind, mth_rfind c.kx⟩⟩
theorem m_split (c : Cxt X Z W n) : Mtd X Z "split" .split := ⟨⟨"str.split", PySem.F.plainAttrs_str, PySem.F.slot_str_split, PySem.F.type_str_split, mth_split c.kx⟩⟩
theorem m_join (c : Cxt X Z W n) : Mtd X Z "join" .join := ⟨⟨"str.join", PySem.F.plainAttrs_str, PySem.F.slot_str_join, PySem.F.type_str_join, mth_join c.kx⟩⟩
theorem m_lindex (c : Cxt X Z W n) : Mtd X Z "index" .lindex := ⟨⟨"list.index", PySem.F.plainAttrs_list, PySem.F.slot_list_index, PySem.F.type_list_index, mth_lindex c.kx⟩⟩
theorem m_tindex (c : Cxt X Z W n) : Mtd X Z "index" .tindex := ⟨⟨"tuple.index", PySem.F.plainAttrs_tuple, PySem.F.slot_tuple_index, PySem.F.type_tuple_index, mth_tindex c.kx⟩⟩
theorem m_dget (c : Cxt X Z W n) : Mtd X Z "get" .dget := ⟨⟨"dict.get", PySem.F.plainAttrs_dict, PySem.F.slot_dict_get, PySem.F.type_dict_get, mth_dget c.kx c.u9⟩⟩
theorem d_mth {name : Str} {Mm : Mth} {apos cpos : Pos} (c : Cxt X Z W n) (k : Mtd X Z name Mm) (ho : PE X o (oo.rd Z W)) (ha : PA X (e :: es) (ds.rd Z W))
    (hbase : attributeBase o name X.env (eval o X.env) = eval o X.env := by rfl)
    (hfew : ((backTo cpos (starEach (e :: es) X.env)).all (fun x => !x.1) && (backToKw cpos (keywordEach [] X.env)).all (fun x => x.1.isSome)
      && decide ((e :: es).length + ([] : List Keyword).length + (if ([] : List Keyword).isEmpty then 0 else 1) < 30)) = true := by rfl)
    (hline : (apos.endLine == cpos.line) = true := by rfl) (hs : starEach (e :: es) X.env = (false, eval e X.env) :: starEach es X.env := by rfl) (hplain : (backTo cpos (starEach es X.env)).any (·.1) = false := by rfl) :
    PE X (.Call (.Attribute o name apos) (e :: es) [] cpos) ((E.mth Mm oo ds).rd Z W) := by
  obtain ⟨id, k0, k1, k2, k3⟩ := k.ex
  exact pe_bmX c.kx k0 k1 k2 k3 ho ha hbase hfew hline hs hplain
/-! slices -/
variable {lo hi : Option Expr} {el eh : OE}
theorem o_no : PO X none ((OE.no).rd Z W) := po_none
theorem o_so (h : PE X e (ee.rd Z W)) : PO X (some e) ((OE.so ee).rd Z W) := po_some h
theorem d_slc {p2 : Pos} (c : Cxt X Z W n) (he : PE X e (ee.rd Z W)) (hl : PO X lo (el.rd Z W)) (hu : PO X hi (eh.rd Z W)) : PE X (.Subscript e (.Slice lo hi none p2) pos) ((E.slc ee el eh).rd Z W) := pe_slice (slr c.kx) he hl hu
theorem f_slc {p2 : Pos} (c : Cxt X Z W n) (he : PE X e (ee.rd Z W)) (hl : PO X lo (el.rd Z W)) (hu : PO X hi (eh.rd Z W)) : PE X (.Subscript e (.Slice lo hi none p2) pos) ((M.slc ee el eh).rd Z W) := pe_slice (slr c.kx) he hl hu
theorem d_slo {p2 : Pos} (c : Cxt X Z W n) (he : PE X e (P.rd Z.K)) (hl : PO X lo (el.rd Z W)) (hu : PO X hi (eh.rd Z W)) : PE X (.Subscript e (.Slice lo hi none p2) pos) ((E.slo P el eh).rd Z W) := pe_slice (slr c.kx) he hl hu
/-! ### tests -/
variable {t t' : T} {u u' : Expr}
theorem t_tru (c : Cxt X Z W n) (ha : PE X a (ea.rd Z W)) (he : ∀ whole, isTrue a X.env whole = (do let v ← whole; standAt a.pos; holding [v] (truthy v)) := by exact fun _ => rfl) : PT X a ((T.tru ea).rd Z W) := by
  show PT X a (tTru Z.K.K _)
  rw [c.kx.k]
  exact pt_truth ha he
theorem t_truo (c : Cxt X Z W n) (ha : PE X a (P.rd Z.K)) (he : ∀ whole, isTrue a X.env whole = (do let v ← whole; standAt a.pos; holding [v] (truthy v)) := by exact fun _ => rfl) : PT X a ((T.truo P).rd Z W) := by
  show PT X a (tTru Z.K.K _)
  rw [c.kx.k]
  exact pt_truth ha he
theorem w_and {rest : List Expr} (ha : PT X u (t.rd Z W)) (hb : PW X (.BoolOp .And (b :: rest) pos) (t'.rd Z W)) : PW X (.BoolOp .And (u :: b :: rest) pos) ((T.and t t').rd Z W) := pw_and ha hb
theorem w_or {rest : List Expr} (ha : PT X u (t.rd Z W)) (hb : PW X (.BoolOp .Or (b :: rest) pos) (t'.rd Z W)) : PW X (.BoolOp .Or (u :: b :: rest) pos) ((T.or t t').rd Z W) := pw_or ha hb
theorem w_and1 (ha : PT X u (t.rd Z W)) : PW X (.BoolOp .And [u] pos) (t.rd Z W) := pw_and1 ha
theorem w_or1 (ha : PT X u (t.rd Z W)) : PW X (.BoolOp .Or [u] pos) (t.rd Z W) := pw_or1 ha
theorem t_not (ha : PT X u (t.rd Z W)) : PT X (.UnaryOp .Not u pos) ((T.not t).rd Z W) := pt_not ha
/-! ### what is walked -/
variable {tg : Expr}
theorem i_lst (c : Cxt X Z W n) (h : PE X e (ee.rd Z W)) : PI X tg e ((It.lst ee).rd Z W) := by
  show PI X tg e (iList Z.K.K _)
  rw [c.kx.k]
  exact pi_list h
theorem i_own (c : Cxt X Z W n) (h : PE X e (P.rd Z.K)) : PI X tg e ((It.own P).rd Z W) := by
  show PI X tg e (iList Z.K.K _)
  rw [c.kx.k]
  exact pi_list h
theorem i_tup (c : Cxt X Z W n) (h : PE X e (ee.rd Z W)) : PI X tg e ((It.tup ee).rd Z W) := by
  show PI X tg e (iTup Z.K.K _)
  rw [c.kx.k]
  exact pi_tup h
theorem pi_any {l : Expr} {tl : TE} (hl : PE X l tl) : PI X tg l (iAny X.K tl) := by
  refine ⟨fun pins s σ H R I h => ?_⟩
  refine thn (hl.run pins s σ H _ I h) fun v s1 ⟨x, H1, I1, r1, q1⟩ => ?_
  obtain ⟨a, e, q1⟩ := q1
  subst e
  cases r1
  rcases q1 with ⟨⟨xs, hq⟩, q⟩ | ⟨⟨xs, hq⟩, q⟩
  · obtain ⟨its, rv, p, hz⟩ := I1.list hq
    refine wpAny_pyIter_list p.isList ?_
    refine ⟨s1.heap.objs.size, [s1.heap.objs.size], _, _, H1, rfl, I1.kept (t' := s1.toks) fun b o e => Heap.get?_push_of_some _ e, turn_list a _, ⟨_, Heap.get?_push_size _ rfl, rfl, rfl⟩, fun b hb => ?_, q⟩
    have e : b = s1.heap.objs.size := by simpa using hb
    subst e
    exact I1.fpOk (Nat.le_refl _) (I1.hok.fresh (Nat.le_refl _))
  · obtain ⟨its, rv, p, hz⟩ := I1.tuple hq
    refine wpAny_pyIter_tuple (show s1.heap.IsTuple a its.toArray from p) ?_
    refine ⟨s1.heap.objs.size, [s1.heap.objs.size], _, _, H1, rfl, I1.kept (t' := s1.toks) fun b o e => Heap.get?_push_of_some _ e, turn_tuple a _, ⟨_, Heap.get?_push_size _ rfl, rfl, rfl⟩, fun b hb => ?_, q⟩
    have e : b = s1.heap.objs.size := by simpa using hb
    subst e
    exact I1.fpOk (Nat.le_refl _) (I1.hok.fresh (Nat.le_refl _))
theorem i_any (c : Cxt X Z W n) (h : PE X e (ee.rd Z W)) : PI X tg e ((It.any ee).rd Z W) := by
  show PI X tg e (iAny Z.K.K _)
  rw [c.kx.k]
  exact pi_any h
theorem i_rev (c : Cxt X Z W n) (m : Md X Z cons blts) (i : Nat) (h : PE X e (ee.rd Z W)) (hi : blts[i]? = some "reversed" := by rfl) (hg : Gl X "reversed" := by rfl) (hs : starEach [e] X.env = (false, eval e X.env) :: starEach [] X.env := by rfl) : PI X tg (.Call (.Name "reversed" p) [e] [] pos) ((It.rev ee).rd Z W) := by
  show PI X tg _ (RT.iRevA Z.K.K _)
  rw [c.kx.k]
  exact RT.pi_revA hg (m.b i _ hi) h hs
theorem i_str (h : PE X e (ee.rd Z W)) : PI X tg e ((It.str ee).rd Z W) := pi_str h
theorem i_r1 (m : Md X Z cons blts) (i : Nat) (ha : PE X a (ea.rd Z W)) (hi : blts[i]? = some "range" := by rfl) (hg : Gl X "range" := by rfl) (hs : starEach [a] X.env = [(false, eval a X.env)] := by rfl) : PI X tg (.Call (.Name "range" q) [a] [] pos) ((It.r1 ea).rd Z W) := pi_range1 hg (m.b i _ hi) (pa_cons ha pa_nil hs) hs
theorem i_r2 (m : Md X Z cons blts) (i : Nat) (ha : PE X a (ea.rd Z W)) (hb : PE X b (eb.rd Z W)) (hi : blts[i]? = some "range" := by rfl) (hg : Gl X "range" := by rfl) (hs : starEach [a, b] X.env = [(false, eval a X.env), (false, eval b X.env)] := by rfl) (hs2 : starEach [b] X.env = [(false, eval b X.env)] := by rfl) :
    PI X tg (.Call (.Name "range" q) [a, b] [] pos) ((It.r2 ea eb).rd Z W) := pi_range2 hg (m.b i _ hi) (pa_cons ha (pa_cons hb pa_nil hs2) (by rw [hs, hs2])) hs hs2
/-! ### targets -/
theorem g_nm (c : Cxt X Z W n) (i : Nat) (hi : X.N[i]? = some x := by rfl) (hx : Loc X.env.scope x := by first | exact .inl rfl | exact .inr rfl) (hf : X.fn x = true ∨ X.env.scope.names.lookup x = some .local := by first | exact .inl rfl | exact .inr rfl) : PG X (.Name x pos) ((Pt.nm i).rd Z.K.K) := pg_name c.nd hi hx hf
theorem gs_nil : PGs X [] (gNames []) := pgs_nil
theorem gs_cons {j : Nat} {js : List Nat} (h1 : PG X e (gName j)) (h2 : PGs X es (gNames js)) (hs : (assignEach (e :: es) X.env).map (·.2) = assign e X.env :: (assignEach es X.env).map (·.2) := by rfl) : PGs X (e :: es) (gNames (j :: js)) := pgs_cons h1 h2 hs
theorem g_tp {k : Nat} {js : List Nat} (c : Cxt X Z W n) (h : PGs X es (gNames js)) (hn : (assignEach es X.env).length = js.length := by rfl) (hst : (assignEach es X.env).findIdx? (·.1) = none := by rfl) (hcm : X.calm = true := by rfl) : PG X (.Tuple es k pos) ((Pt.tp js).rd Z.K.K) := by
  show PG X _ (gTup Z.K.K _ _)
  rw [c.kx.k]
  exact pg_tup hcm h hn hst
theorem g_ls {k : Nat} {js : List Nat} (c : Cxt X Z W n) (h : PGs X es (gNames js)) (hn : (assignEach es X.env).length = js.length := by rfl) (hst : (assignEach es X.env).findIdx? (·.1) = none := by rfl) (hcm : X.calm = true := by rfl) : PG X (.Tuple es k pos) ((Pt.ls js).rd Z.K.K) := by
  show PG X _ (gLst Z.K.K _ _)
  rw [c.kx.k]
  exact pg_lst hcm h hn hst
/-! ### statements -/
variable {st : Stmt} {rest l1 l2 : List Stmt} {s : S_} {r r1 r2 : Ss}
theorem ss_nil : PSs X [] ((Ss.nil).rd Z W) := pss_nil
theorem ss_cons (h1 : PS X st (s.rd Z W)) (h2 : PSs X rest (r.rd Z W)) : PSs X (st :: rest) ((Ss.cons s r).rd Z W) := pss_cons h1 h2
theorem z_asg (c : Cxt X Z W n) (i : Nat) (he : PE X e (ee.rd Z W)) (hi : X.N[i]? = some x := by rfl) (hx : Loc X.env.scope x := by first | exact .inl rfl | exact .inr rfl) (hs : swapsWith e (some (.Name x q)) pos.line X.env = pure false := by rfl) (hf : X.fn x = true ∨ X.env.scope.names.lookup x = some .local := by first | exact .inl rfl | exact .inr rfl) :
    PS X (.Assign [.Name x q] e pos) ((S_.asg (.nm i) ee).rd Z W) := ps_set c.nd hi hx he hs hf
theorem z_own (c : Cxt X Z W n) (i : Nat) (he : PE X e (mm.rd Z W)) (hi : X.N[i]? = some x := by rfl) (hx : Loc X.env.scope x := by first | exact .inl rfl | exact .inr rfl) (hs : swapsWith e (some (.Name x q)) pos.line X.env = pure false := by rfl) (hf : X.fn x = true ∨ X.env.scope.names.lookup x = some .local := by first | exact .inl rfl | exact .inr rfl) :
    PS X (.Assign [.Name x q] e pos) ((S_.own i mm).rd Z W) := ps_set c.nd hi hx he hs hf
theorem z_asgt {p : Pt} (he : PE X e (ee.rd Z W)) (hg : PG X tg (p.rd Z.K.K)) (hs : swapsWithSole [tg] e pos.line X.env = pure false := by rfl) (hw : swappedStores [tg] e X.env = pure none := by rfl)
    (h1 : (assignEach [tg] X.env).map (·.2) = [assign tg X.env] := by rfl) : PS X (.Assign [tg] e pos) ((S_.asg p ee).rd Z W) := ps_asg he hg hs hw h1
theorem z_add (c : Cxt X Z W n) (i : Nat) (he : PE X e (ee.rd Z W)) (hi : X.N[i]? = some x := by rfl) (hx : Loc X.env.scope x := by first | exact .inl rfl | exact .inr rfl) (hf : X.fn x = true ∨ X.env.scope.names.lookup x = some .local := by first | exact .inl rfl | exact .inr rfl) : PS X (.AugAssign (.Name x q) .Add e pos) ((S_.aug i .add ee).rd Z W) := ps_aug c.nd hi hx he ip_add hf
theorem z_sub (c : Cxt X Z W n) (i : Nat) (he : PE X e (ee.rd Z W)) (hi : X.N[i]? = some x := by rfl) (hx : Loc X.env.scope x := by first | exact .inl rfl | exact .inr rfl) (hf : X.fn x = true ∨ X.env.scope.names.lookup x = some .local := by first | exact .inl rfl | exact .inr rfl) : PS X (.AugAssign (.Name x q) .Sub e pos) ((S_.aug i .sub ee).rd Z W) := ps_aug c.nd hi hx he ip_sub hf
theorem z_app {apos cpos : Pos} (c : Cxt X Z W n) (ho : PE X o (P.rd Z.K)) (he : PE X e (ee.rd Z W))
    (hs0 : swapsWith (.Call (.Attribute o "append" apos) [e] [] cpos) none pos.line X.env = pure false := by rfl)
    (hbase : attributeBase o "append" X.env (eval o X.env) = eval o X.env := by rfl)
    (hfew : ((backTo cpos (starEach [e] X.env)).all (fun x => !x.1) && (backToKw cpos (keywordEach [] X.env)).all (fun x => x.1.isSome)
      && decide ([e].length + ([] : List Keyword).length + (if ([] : List Keyword).isEmpty then 0 else 1) < 30)) = true := by rfl)
    (hline : (apos.endLine == cpos.line) = true := by rfl) (hs : starEach [e] X.env = (false, eval e X.env) :: starEach [] X.env := by rfl) (hplain : (backTo cpos (starEach [] X.env)).any (·.1) = false := by rfl) :
    PS X (.Expr (.Call (.Attribute o "append" apos) [e] [] cpos) pos) ((S_.app P ee).rd Z W) :=
  ps_expr (pe_bmX c.kx PySem.F.plainAttrs_list PySem.F.slot_list_append PySem.F.type_list_append mt_append ho (pa_cons he pa_nil hs) hbase hfew hline hs hplain) hs0
theorem z_dset {k : Expr} {ek : E} (c : Cxt X Z W n) (ho : PE X o (P.rd Z.K)) (hk : PE X k (ek.rd Z W)) (hv : PE X e (ee.rd Z W)) (hs : swapsWith e (some (.Subscript o k q)) pos.line X.env = pure false := by rfl) :
    PS X (.Assign [.Subscript o k q] e pos) ((S_.dset P ek ee).rd Z W) := ps_dputX c.kx c.u9 ho hk hv hs
theorem fld_any {name : Str} {te : TE} {k : Nat} (c : Cxt X Z W n) (ho : PE X o (P.rd Z.K)) (hv : PE X e te) (hn : Z.K.fl k = name) (hs : swapsWith e (some (.Attribute o name q)) pos.line X.env = pure false) : PS X (.Assign [.Attribute o name q] e pos) (sFld Z.K.K (P.rd Z.K) te (Z.K.fl k)) := by
  subst hn
  have h := ps_fld (X := X) (pos := pos) ho hv hs
  rw [← c.kx.k] at h
  exact h
theorem z_fset {name : Str} (c : Cxt X Z W n) (k : Nat) (ho : PE X o (P.rd Z.K)) (hv : PE X e (ee.rd Z W)) (hn : Z.K.fl k = name := by rfl) (hs : swapsWith e (some (.Attribute o name q)) pos.line X.env = pure false := by rfl) : PS X (.Assign [.Attribute o name q] e pos) ((S_.fset P k ee).rd Z W) := fld_any c ho hv hn hs
theorem z_fown {name : Str} (c : Cxt X Z W n) (k : Nat) (ho : PE X o (P.rd Z.K)) (hv : PE X e (mm.rd Z W)) (hn : Z.K.fl k = name := by rfl) (hs : swapsWith e (some (.Attribute o name q)) pos.line X.env = pure false := by rfl) : PS X (.Assign [.Attribute o name q] e pos) ((S_.fown P k mm).rd Z W) := fld_any c ho hv hn hs
theorem z_fadd {name : Str} (c : Cxt X Z W n) (k : Nat) (ho : PE X o (P.rd Z.K)) (hv : PE X e (ee.rd Z W)) (hn : Z.K.fl k = name := by rfl) : PS X (.AugAssign (.Attribute o name q) .Add e pos) ((S_.faug P k .add ee).rd Z W) := by
  subst hn
  have h := ps_fldaug (X := X) (pos := pos) (tpos := q) (f := Z.K.fl k) ho hv inop_add
  rw [← c.kx.k] at h
  exact h
theorem z_fsub {name : Str} (c : Cxt X Z W n) (k : Nat) (ho : PE X o (P.rd Z.K)) (hv : PE X e (ee.rd Z W)) (hn : Z.K.fl k = name := by rfl) : PS X (.AugAssign (.Attribute o name q) .Sub e pos) ((S_.faug P k .sub ee).rd Z W) := by
  subst hn
  have h := ps_fldaug (X := X) (pos := pos) (tpos := q) (f := Z.K.fl k) ho hv inop_sub
  rw [← c.kx.k] at h
  exact h
theorem z_drop (he : PE X e (ee.rd Z W)) (hs : swapsWith e none pos.line X.env = pure false := by rfl) : PS X (.Expr e pos) ((S_.drop ee).rd Z W) := ps_expr he hs
theorem z_if (hc : PT X u (t.rd Z W)) (ha : PSs X l1 (r1.rd Z W)) (hb : PSs X l2 (r2.rd Z W)) : PS X (.If u l1 l2 pos) ((S_.ite t r1 r2).rd Z W) := ps_if hc ha hb
theorem z_for {p : Pt} {it : It} (c : Cxt X Z W n) (hi : PI X tg e (it.rd Z W)) (hg : PG X tg (p.rd Z.K.K)) (hb : PSs X l1 (r1.rd Z W)) (hs : ∀ x, foldedSetIterable e X.env x = pure x := by exact fun _ => rfl) (hcm : X.calm = true := by rfl) : PS X (.For tg e l1 [] pos) ((S_.for_ p it r1).rd Z W) := ps_for c.po hcm hi hg hb hs
theorem z_whl (c : Cxt X Z W n) (hc : PT X u (t.rd Z W)) (hb : PSs X l1 (r1.rd Z W)) : PS X (.While u l1 [] pos) ((S_.whl t r1).rd Z W) := ps_while c.po hc hb
theorem z_ret (he : PE X e (ee.rd Z W)) : PS X (.Return (some e) pos) ((S_.ret ee).rd Z W) := ps_ret he
theorem z_retm (he : PE X e (mm.rd Z W)) : PS X (.Return (some e) pos) ((S_.retm mm).rd Z W) := ps_ret he
theorem z_reto (i : Nat) (he : PE X e (tVar i)) : PS X (.Return (some e) pos) ((S_.reto i).rd Z W) := ps_ret he
theorem z_retn : PS X (.Return none pos) ((S_.retn).rd Z W) := ps_retN
theorem z_brk : PS X (.Break pos) ((S_.brk).rd Z W) := ps_break
theorem z_cnt : PS X (.Continue pos) ((S_.cnt).rd Z W) := ps_continue
theorem z_pass : PS X (.Pass pos) ((S_.pass).rd Z W) := ps_pass
theorem z_nev : PS X st ((S_.nev).rd Z W) := ps_never
/-! ### errors -/
/-- an error's class of the program with two fields, to be made -/
structure Mk2 (X : Cx) (Z : Rc) (y k1 k2 : Nat) : Prop where
  mkk : Z.mkn y = some [k1, k2]
  o : OexC X.K (Z.K.ca y)
  n1 : PySem.W.findIn X.K (.ref (Z.K.ca y)) (Z.K.fl k1) = some none
  n2 : PySem.W.findIn X.K (.ref (Z.K.ca y)) (Z.K.fl k2) = some none
  ex : ∃ (fI : Addr) (fd : FuncData) (ps : List Str), PySem.W.findIn X.K (.ref (Z.K.ca y)) "__init__" = some (some (.ref fI)) ∧ PySem.W.typeIn X.K (.ref fI) = some (.type "function") ∧
    FnOk X.prog X.w X.K X.mg X.base (L2.CX X.prog X.w) 1 fI fd ps (spXI X.K (Z.K.fl k1) (Z.K.fl k2)) ∧ Room 2 X.A ∧ Binds X.K fd ps []
/-- what the code asks of the classes of errors -/
structure Me (X : Cx) (Z : Rc) (clss : List Str) (efs : List Nat) : Prop where
  g : ∀ (i : Nat) (x : Str), clss[i]? = some x → X.mg x = some (.ref (Z.K.ca i))
  xf : ∀ y ns, Z.mkn y = some ns → XfC X.K (Z.K.ca y)
  xk : ∀ y ns, Z.mkn y = some ns → ∀ k ∈ efs, PySem.W.findIn X.K (.ref (Z.K.ca y)) (Z.K.fl k) = some none
/-- .. with one field -/
structure Mk1 (X : Cx) (Z : Rc) (y k1 : Nat) : Prop where
  mkk : Z.mkn y = some [k1]
  o : OexC X.K (Z.K.ca y)
  n1 : PySem.W.findIn X.K (.ref (Z.K.ca y)) (Z.K.fl k1) = some none
  ex : ∃ (fI : Addr) (fd : FuncData) (ps : List Str), PySem.W.findIn X.K (.ref (Z.K.ca y)) "__init__" = some (some (.ref fI)) ∧ PySem.W.typeIn X.K (.ref fI) = some (.type "function") ∧
    FnOk X.prog X.w X.K X.mg X.base (L2.CX X.prog X.w) 1 fI fd ps (spXJ X.K (Z.K.fl k1)) ∧ Room 2 X.A ∧ Binds X.K fd ps []
/-- .. with none -/
structure Mk0 (X : Cx) (Z : Rc) (y : Nat) : Prop where
  mkk : Z.mkn y = some []
  q : PySem.W.excIn X.K (Z.K.ca y) veB "ValueError.__new__" = true
  kC : PySem.W.keepIn X.K (.ref (Z.K.ca y)) = true
  sC : PySem.W.subIn X.K (.ref (Z.K.ca y)) (.type "BaseException") = some true
  tC : PySem.W.typeIn X.K (.ref (Z.K.ca y)) = some (.type "type")
structure Mr (X : Cx) (Z : Rc) : Prop where
  m : ∀ (y k1 k2 : Nat), Z.mkn y = some [k1, k2] → Mk2 X Z y k1 k2
  m1 : ∀ (y k1 : Nat), Z.mkn y = some [k1] → Mk1 X Z y k1
  m0 : ∀ (y : Nat), Z.mkn y = some [] → Mk0 X Z y
theorem z_rs2 {clss : List Str} {efs : List Nat} (c : Cxt X Z W n) (me : Me X Z clss efs) (mr : Mr X Z) (y : Nat) {k1 k2 : Nat} {q1 q2 q3 : Pos} (ha : PE X a (ea.rd Z W)) (hb : PE X b (eb.rd Z W)) (hm : Z.mkn y = some [k1, k2] := by rfl) (hi2 : clss[y]? = some x := by rfl) (hg : Gl X x := by rfl) (hcm : X.calm = true := by rfl) (hdb : (x == ("__debug__" : Str)) = false := by decide)
    (hs : starEach [a, b] X.env = (false, eval a X.env) :: starEach [b] X.env := by rfl) (hs2 : starEach [b] X.env = (false, eval b X.env) :: starEach [] X.env := by rfl) (hpl : (backTo q2 (starEach [b] X.env)).any (·.1) = false := by rfl) :
    PS X (.Raise (some (.Call (.Name x q1) [a, b] [] q2)) none q3) ((S_.rs y (.cons ea (.cons eb .nil))).rd Z W) := by
  obtain ⟨h0, h1, h2, h3, fI, fd, ps, h4, h5, h6, h7, h8⟩ := mr.m y k1 k2 hm
  exact ps_rs2 hcm c.tk h0 h1 c.kx.k h2 h3 h4 h5 h6 h7 h8 hg (me.g y x hi2) (pa_cons ha (pa_cons hb pa_nil hs2) hs) hdb hs hpl
theorem z_rs1 {clss : List Str} {efs : List Nat} (c : Cxt X Z W n) (me : Me X Z clss efs) (mr : Mr X Z) (y : Nat) {k1 : Nat} {q1 q2 q3 : Pos} (ha : PE X a (ea.rd Z W)) (hm : Z.mkn y = some [k1] := by rfl) (hi2 : clss[y]? = some x := by rfl) (hg : Gl X x := by rfl) (hcm : X.calm = true := by rfl) (hdb : (x == ("__debug__" : Str)) = false := by decide)
    (hs : starEach [a] X.env = (false, eval a X.env) :: starEach [] X.env := by rfl) (hpl : (backTo q2 (starEach [] X.env)).any (·.1) = false := by rfl) :
    PS X (.Raise (some (.Call (.Name x q1) [a] [] q2)) none q3) ((S_.rs y (.cons ea .nil)).rd Z W) := by
  obtain ⟨h0, h1, h2, fI, fd, ps, h4, h5, h6, h7, h8⟩ := mr.m1 y k1 hm
  exact ps_rs1 hcm c.tk h0 h1 c.kx.k h2 h4 h5 h6 h7 h8 hg (me.g y x hi2) (pa_cons ha pa_nil hs) hdb hs hpl
theorem z_rs0 {clss : List Str} {efs : List Nat} (c : Cxt X Z W n) (me : Me X Z clss efs) (mr : Mr X Z) (y : Nat) {q1 q2 q3 : Pos} (hm : Z.mkn y = some [] := by rfl) (hi2 : clss[y]? = some x := by rfl) (hg : Gl X x := by rfl) (hcm : X.calm = true := by rfl) (hdb : (x == ("__debug__" : Str)) = false := by decide) :
    PS X (.Raise (some (.Call (.Name x q1) [] [] q2)) none q3) ((S_.rs y .nil).rd Z W) := by
  obtain ⟨h0, h1, h2, h3, h4⟩ := mr.m0 y hm
  exact ps_rs0 hcm c.tk h0 h1 h2 h3 h4 hg (me.g y x hi2) hdb
/-- in a clause -/
structure Cz (X : Cx) (Z : Rc) (a : Addr) (oe : Obj) (pl : List (Addr × Obj)) (X0 : Cx) : Prop where
  x : X = X0.suite a ((a, oe) :: pl)
  k : Z.K.K = X.K
  za : Z.xa = a
  z : Zc Z.xc Z.xd oe
  f : ∃ fv, oe.data = .fields fv
theorem d_xf {clss : List Str} {efs : List Nat} {X0 : Cx} {A0 : Addr} {oe : Obj} {pl : List (Addr × Obj)} {name : Str} (cz : Cz X Z A0 oe pl X0) (me : Me X Z clss efs) (k i : Nat) (ho : PE X o (tVar i)) (hk : k ∈ efs := by decide) (hn : Z.K.fl k = name := by rfl)
    (hb : attributeBase o name X.env (eval o X.env) = eval o X.env := by rfl) : PE X (.Attribute o name pos) ((E.xf k i).rd Z W) := by
  obtain ⟨rfl, hkk, rfl, hz, hf⟩ := cz
  refine ⟨fun pins s σ H Q I h => ?_⟩
  obtain ⟨y, ⟨ns, hy⟩, hc, h⟩ := h
  have t1 := me.xf y ns hy
  have hno : PySem.W.findIn X0.K (.ref (Z.K.ca y)) name = some none := by
    rw [← hn]
    exact me.xk y ns hy k hk
  rw [hn] at h
  exact (pe_xf (X := X0) (n := name) (pos := pos) t1 hno hz hf ho hb).run pins s σ H Q I h
theorem Md.tr {pl : List (Addr × Obj)} {xe : Value → Shared → Prop} (m : Md X Z cons blts) : Md (X.tr pl xe) Z cons blts := ⟨m.c, m.b⟩
theorem Mf.tr {pl : List (Addr × Obj)} {xe : Value → Shared → Prop} (m : Mf X Z n md) : Mf (X.tr pl xe) Z n md := ⟨m.r, fun i x e z => ⟨(m.f i x e z).ex, (m.f i x e z).r, (m.f i x e z).g, (m.f i x e z).kp⟩, fun j i x ds e1 e z => ⟨(m.fd j i x ds e1 e z).ex, (m.fd j i x ds e1 e z).r, (m.fd j i x ds e1 e z).g, (m.fd j i x ds e1 e z).kp⟩, fun c k f h => ⟨(m.m c k f h).cls, (m.m c k f h).me, (m.m c k f h).ex⟩, fun j k ds e c f h => ⟨(m.mdf j k ds e c f h).cls, (m.mdf j k ds e c f h).me, (m.mdf j k ds e c f h).ex⟩, fun i x e z => ⟨(m.fl i x e z).ex⟩, fun c f h => ⟨(m.n c f h).ini, (m.n c f h).mkk, (m.n c f h).ex⟩, m.cg, m.dg⟩
theorem Me.tr {clss : List Str} {efs : List Nat} {pl : List (Addr × Obj)} {xe : Value → Shared → Prop} (m : Me X Z clss efs) : Me (X.tr pl xe) Z clss efs := ⟨m.g, m.xf, m.xk⟩
theorem Mr.tr {pl : List (Addr × Obj)} {xe : Value → Shared → Prop} (m : Mr X Z) : Mr (X.tr pl xe) Z := ⟨fun y k1 k2 e => ⟨(m.m y k1 k2 e).mkk, (m.m y k1 k2 e).o, (m.m y k1 k2 e).n1, (m.m y k1 k2 e).n2, (m.m y k1 k2 e).ex⟩, fun y k1 e => ⟨(m.m1 y k1 e).mkk, (m.m1 y k1 e).o, (m.m1 y k1 e).n1, (m.m1 y k1 e).ex⟩, fun y e => ⟨(m.m0 y e).mkk, (m.m0 y e).q, (m.m0 y e).kC, (m.m0 y e).sC, (m.m0 y e).tC⟩⟩
theorem z_try {bd : List Stmt} {h1 : ExceptHandler} {hh : List ExceptHandler} {bb : Ss} {hs : Hs} (c : Cxt X Z W n) (hb : ∀ (W' : WX) (pl : List (Addr × Obj)) (xe : Value → Shared → Prop), Cxt (X.tr pl xe) Z W' n → PSs (X.tr pl xe) bd (bb.rd Z W')) (hk : HdA X (h1 :: hh) (hs.rl Z))
    (hst : X.stack = X.env :: X.outer := by rfl) (hf : X.env.frame = some X.env.locals := by rfl) : PS X (.Try bd (h1 :: hh) [] [] pos) ((S_.try_ bb hs).rd Z W) := by
  show PS X _ (fun D σ H => bb.rd Z (wAll Z.K.K W D (hs.rl Z)) D σ H)
  rw [c.kx.k]
  exact ps_tryA hst hf c.nd c.tk (fun W' pl xe tk po => hb W' pl xe ⟨⟨c.kx.k, c.kx.p, c.kx.w⟩, c.nd, c.u, tk, po⟩) hk
theorem h_nil : HdA X [] (Hs.nil.rl Z) := HdA.nil
theorem h_cons {clss : List Str} {efs : List Nat} {nme : Str} {st0 : Stmt} {sts : List Stmt} {q1 q2 : Pos} {hh : List ExceptHandler} {bb : Ss} {hs : Hs} (c : Cxt X Z W n) (m : Md X Z cons blts) (me : Me X Z clss efs) (y i : Nat)
    (hsu : ∀ (a : Addr) (oe : Obj) (cls : Value) (d : Option Addr) (pl : List (Addr × Obj)), Cxt (X.suite a ((a, oe) :: pl)) (Z.at_ a cls d) W0 n → Md (X.suite a ((a, oe) :: pl)) (Z.at_ a cls d) cons blts → Me (X.suite a ((a, oe) :: pl)) (Z.at_ a cls d) clss efs →
      Cz (X.suite a ((a, oe) :: pl)) (Z.at_ a cls d) a oe pl X → PSs (X.suite a ((a, oe) :: pl)) (st0 :: sts) (bb.rd (Z.at_ a cls d) W0)) (r : HdA X hh (hs.rl Z))
    (hi : X.N[i]? = some nme := by rfl) (hln : X.env.kindOf nme = some .local := by rfl) (hy : clss[y]? = some x := by rfl) (hg : Gl X x := by rfl) (hdb : (x == ("__debug__" : Str)) = false := by decide) :
    HdA X (.ExceptHandler (some (.Name x q1)) (some nme) (st0 :: sts) q2 :: hh) ((Hs.cons y i bb hs).rl Z) :=
  HdA.cons hi hln ⟨hg, hdb, .inl (me.g y x hy)⟩ (fun a oe cls d pl hz hf => hsu a oe cls d pl ⟨⟨c.kx.k, c.kx.p, c.kx.w⟩, c.nd, c.u, takes0, PassesOwn.never⟩ ⟨m.c, m.b⟩ ⟨me.g, me.xf, me.xk⟩ ⟨rfl, c.kx.k, rfl, hz, hf⟩) r
/-! ### comprehensions -/
theorem Md.blk {s : Shared} {H : Hp} {scope : Scope} {ce : Env} {fp : List Addr} (m : Md X Z cons blts) : Md (X.blk s H scope ce fp) Z cons blts := ⟨m.c, m.b⟩
theorem Mf.blk {s : Shared} {H : Hp} {scope : Scope} {ce : Env} {fp : List Addr} (m : Mf X Z n md) : Mf (X.blk s H scope ce fp) Z n md := ⟨m.r, fun i x e z => ⟨(m.f i x e z).ex, (m.f i x e z).r, (m.f i x e z).g, (m.f i x e z).kp⟩, fun j i x ds e1 e z => ⟨(m.fd j i x ds e1 e z).ex, (m.fd j i x ds e1 e z).r, (m.fd j i x ds e1 e z).g, (m.fd j i x ds e1 e z).kp⟩, fun c k f h => ⟨(m.m c k f h).cls, (m.m c k f h).me, (m.m c k f h).ex⟩, fun j k ds e c f h => ⟨(m.mdf j k ds e c f h).cls, (m.mdf j k ds e c f h).me, (m.mdf j k ds e c f h).ex⟩, fun i x e z => ⟨(m.fl i x e z).ex⟩, fun c f h => ⟨(m.n c f h).ini, (m.n c f h).mkk, (m.n c f h).ex⟩, m.cg, m.dg⟩
theorem ts_nil : PTs X [] ((Ts.nil).rd Z W) := pts_nil
theorem ts_one (h : PT X u (t.rd Z W)) : PTs X [u] ((Ts.one t).rd Z W) := pts_one h
theorem f_lc {elt iter : Expr} {ifs : List Expr} {scope : Scope} {p : Pt} {it : It} {tt : Ts} (c : Cxt X Z W n) (own : List (Str × Nat)) (hi : PI X tg iter (it.rd Z W))
    (hb : ∀ (s : Shared) (H : Hp) (C : Addr) (cl : List (Str × Addr)) (fp : List Addr), Cxt (X.blk s H scope (compEnvC scope cl C X.env) fp) Z W0 n → PG (X.blk s H scope (compEnvC scope cl C X.env) fp) tg (p.rd Z.K.K) ∧ PTs (X.blk s H scope (compEnvC scope cl C X.env) fp) ifs (tt.rd Z W0) ∧ PE (X.blk s H scope (compEnvC scope cl C X.env) fp) elt (ee.rd Z W0))
    (ok : blkC X.N X.env.scope scope own = true := by rfl) (hcm : X.calm = true := by rfl) (hs : ∀ x, foldedSetIterable iter X.env x = pure x := by exact fun _ => rfl) :
    PE X (.ListComp elt [⟨tg, iter, ifs, 0⟩] scope pos) ((M.lc (own.map (·.2)) p it tt ee).rd Z W) :=
  have hc : ∀ (s : Shared) (H : Hp) (C : Addr) (cl : List (Str × Addr)) (fp : List Addr), Cxt (X.blk s H scope (compEnvC scope cl C X.env) fp) Z W0 n := fun _ _ _ _ _ => ⟨⟨c.kx.k, c.kx.p, c.kx.w⟩, c.nd, c.u, takes0, PassesOwn.never⟩
  pe_lc hcm c.nd hi (blkOk_by ok) (fun s H C cl fp => (hb s H C cl fp (hc s H C cl fp)).1) (fun s H C cl fp => (hb s H C cl fp (hc s H C cl fp)).2.1) (fun s H C cl fp => (hb s H C cl fp (hc s H C cl fp)).2.2) hs
/-- name = [..] on one line -/
theorem z_ownLc {elt iter : Expr} {ifs : List Expr} {scope : Scope} {p : Pt} {it : It} {tt : Ts} {y : Str} {py spos : Pos} (c : Cxt X Z W n) (i : Nat) (own : List (Str × Nat)) (hi : PI X tg iter (it.rd Z W))
    (hb : ∀ (s : Shared) (H : Hp) (C : Addr) (cl : List (Str × Addr)) (fp : List Addr), Cxt (X.blk s H scope (compEnvC scope cl C X.env) fp) Z W0 n → PG (X.blk s H scope (compEnvC scope cl C X.env) fp) tg (p.rd Z.K.K) ∧ PTs (X.blk s H scope (compEnvC scope cl C X.env) fp) ifs (tt.rd Z W0) ∧ PE (X.blk s H scope (compEnvC scope cl C X.env) fp) elt (ee.rd Z W0))
    (hy : X.N[i]? = some y := by rfl) (hyl : X.env.scope.names.lookup y = some .local := by rfl) (hsw : swapsWith (.ListComp elt [⟨tg, iter, ifs, 0⟩] scope pos) (some (.Name y py)) spos.line X.env = pure true := by rfl)
    (ok : blkC X.N X.env.scope scope own = true := by rfl) (hcm : X.calm = true := by rfl) (hs : ∀ x, foldedSetIterable iter X.env x = pure x := by exact fun _ => rfl) :
    PS X (.Assign [.Name y py] (.ListComp elt [⟨tg, iter, ifs, 0⟩] scope pos) spos) ((S_.own i (.lc (own.map (·.2)) p it tt ee)).rd Z W) :=
  have hc : ∀ (s : Shared) (H : Hp) (C : Addr) (cl : List (Str × Addr)) (fp : List Addr), Cxt (X.blk s H scope (compEnvC scope cl C X.env) fp) Z W0 n := fun _ _ _ _ _ => ⟨⟨c.kx.k, c.kx.p, c.kx.w⟩, c.nd, c.u, takes0, PassesOwn.never⟩
  ps_setLc hcm c.nd hy hyl hsw hi (blkOk_by ok) (fun s H C cl fp => (hb s H C cl fp (hc s H C cl fp)).1) (fun s H C cl fp => (hb s H C cl fp (hc s H C cl fp)).2.1) (fun s H C cl fp => (hb s H C cl fp (hc s H C cl fp)).2.2) hs
/-- name = [..] on one line -/
theorem z_asgLc {elt iter : Expr} {ifs : List Expr} {scope : Scope} {p : Pt} {it : It} {tt : Ts} {y : Str} {py spos : Pos} (c : Cxt X Z W n) (i : Nat) (own : List (Str × Nat)) (hi : PI X tg iter (it.rd Z W))
    (hb : ∀ (s : Shared) (H : Hp) (C : Addr) (cl : List (Str × Addr)) (fp : List Addr), Cxt (X.blk s H scope (compEnvC scope cl C X.env) fp) Z W0 n → PG (X.blk s H scope (compEnvC scope cl C X.env) fp) tg (p.rd Z.K.K) ∧ PTs (X.blk s H scope (compEnvC scope cl C X.env) fp) ifs (tt.rd Z W0) ∧ PE (X.blk s H scope (compEnvC scope cl C X.env) fp) elt (ee.rd Z W0))
    (hy : X.N[i]? = some y := by rfl) (hyl : X.env.scope.names.lookup y = some .local := by rfl) (hsw : swapsWith (.ListComp elt [⟨tg, iter, ifs, 0⟩] scope pos) (some (.Name y py)) spos.line X.env = pure true := by rfl)
    (ok : blkC X.N X.env.scope scope own = true := by rfl) (hcm : X.calm = true := by rfl) (hs : ∀ x, foldedSetIterable iter X.env x = pure x := by exact fun _ => rfl) :
    PS X (.Assign [.Name y py] (.ListComp elt [⟨tg, iter, ifs, 0⟩] scope pos) spos) ((S_.asg (.nm i) (.mk (.lc (own.map (·.2)) p it tt ee))).rd Z W) :=
  have hc : ∀ (s : Shared) (H : Hp) (C : Addr) (cl : List (Str × Addr)) (fp : List Addr), Cxt (X.blk s H scope (compEnvC scope cl C X.env) fp) Z W0 n := fun _ _ _ _ _ => ⟨⟨c.kx.k, c.kx.p, c.kx.w⟩, c.nd, c.u, takes0, PassesOwn.never⟩
  ps_setLc hcm c.nd hy hyl hsw hi (blkOk_by ok) (fun s H C cl fp => (hb s H C cl fp (hc s H C cl fp)).1) (fun s H C cl fp => (hb s H C cl fp (hc s H C cl fp)).2.1) (fun s H C cl fp => (hb s H C cl fp (hc s H C cl fp)).2.2) hs
end
end Mq
/-! A small language over HandS: replace of written texts; what gives out a token. -/
namespace Mq
open PySem PySem.Spec L2 Evl
section
variable {X : Cx} {Z : Rc} {W : WX} {e a b o : Expr} {ta tb to : TE} {pos : Pos}
/-- an expression behind which a token is out -/
structure PE1 (X : Cx) (e : Expr) (t : TE) : Prop where
  run : ∀ (pins : List (Addr × Obj)) (s : Shared) (σ : St) (H : Hp) (Q : VK), Inv X pins σ H s → t σ H Q → wpAny (model X.prog X.w) X.A (eval e X.env) (fun v s' => 1 ≤ s'.toks ∧ EP X pins σ Q v s') X.xe s
theorem PE1.pe (h : PE1 X e ta) : PE X e ta := ⟨fun pins s σ H Q I q => wpAny_mono (h.run pins s σ H Q I q) (fun _ _ x => x.2) fun _ _ x => x⟩
theorem p1_str {x : Str} {j} : PE1 X (.Constant (.str x) j pos) (tC (.str x)) := ⟨fun _ _ _ H _ I h => Calls.Constant_str ⟨by show 1 ≤ _ + 1; omega, .str x, H, I.tok _, ⟨_, rfl⟩, h⟩⟩
theorem p1_opT {op : Operator} {r : R2} (ho : OpR X (binaryOp op) r) (ha : PE1 X a ta) (hb : PET X b tb) : PE1 X (.BinOp a op b pos) (tOp r ta tb) := by
  refine ⟨fun pins s σ H Q I h => ?_⟩
  refine wpAny_BinOp (wpAny_mono (ha.run pins s σ H _ I h) (fun v s1 q => ?_) fun _ _ z => z)
  obtain ⟨k1, x, H1, I1, r1, q1⟩ := q
  refine wpAny_mono (PySem.wpAny_toks (hb pins s1 σ H1 _ k1 I1 q1)) (fun u s2 q => ?_) fun _ _ z => z.2
  obtain ⟨k2, y, H2, I2, r2, q2⟩ := q
  exact wpAny_mono (PySem.wpAny_toks (ho pins s2 σ H2 x y v u Q I2 r1 r2 q2)) (fun w s3 q => ⟨by omega, q.2⟩) fun _ _ z => z.2
theorem p1_op {op : Operator} {r : R2} (ho : OpR X (binaryOp op) r) (ha : PE1 X a ta) (hb : PE X b tb) : PE1 X (.BinOp a op b pos) (tOp r ta tb) := p1_opT ho ha (CwR.PET.of hb)
end
section
variable {P : Program} {w : World} {X : Cx} {Z : Rc} {W : WX} {e a b o : Expr} {ea eb eo : E} {pos : Pos}
/-! derivations -/
theorem g_str {x : Str} {l : List Nat} {j} {pos : Pos} (h : x = SX.S l := by rfl) : PE1 X (.Constant (.str x) j pos) ((E.cst (.str l)).rd Z W) := by
  subst h
  exact p1_str
theorem g_bin {q : Operator} {p : Op2} (k : Bin X Z q p) (ha : PE1 X a (ea.rd Z W)) (hb : PE X b (eb.rd Z W)) : PE1 X (.BinOp a q b pos) ((E.op2 p ea eb).rd Z W) := p1_op k ha hb
theorem g_binT {q : Operator} {p : Op2} (k : Bin X Z q p) (ha : PE1 X a (ea.rd Z W)) (hb : PET X b (eb.rd Z W)) : PE1 X (.BinOp a q b pos) ((E.op2 p ea eb).rd Z W) := p1_opT k ha hb
theorem d_g (h : PE1 X e (ea.rd Z W)) : PE X e (ea.rd Z W) := h.pe
theorem u_rep {x y : Str} {l r : List Nat} {j k : Nat} {c0 c1 apos : Pos} (ho : PE X o (eo.rd Z W)) (h1 : x = SX.S l := by rfl) (h2 : y = SX.S r := by rfl) (hxy : (x == y) = false := by decide)
    (hst : starEach [.Constant (.str x) j c0, .Constant (.str y) k c1] X.env = [(false, eval (.Constant (.str x) j c0) X.env), (false, eval (.Constant (.str y) k c1) X.env)] := by rfl)
    (hbase : attributeBase o "replace" X.env (eval o X.env) = eval o X.env := by rfl) (hline : (apos.endLine == pos.line) = true := by rfl) :
    PET X (.Call (.Attribute o "replace" apos) [.Constant (.str x) j c0, .Constant (.str y) k c1] [] pos) ((E.rep eo l r).rd Z W) := by
  subst h1 h2
  exact CwR.pet_replC ho hxy hst hbase hline
/-- e.replace(y, z), y not in it -/
theorem d_rep0 {x y : Str} {l : Nat} {r : List Nat} {j k : Nat} {c0 c1 apos : Pos} (ho : PE X o (eo.rd Z W)) (h1 : x = SX.S [l] := by rfl)
    (hst : starEach [.Constant (.str x) j c0, .Constant (.str y) k c1] X.env = [(false, eval (.Constant (.str x) j c0) X.env), (false, eval (.Constant (.str y) k c1) X.env)] := by rfl)
    (hbase : attributeBase o "replace" X.env (eval o X.env) = eval o X.env := by rfl) (hline : (apos.endLine == pos.line) = true := by rfl) :
    PE X (.Call (.Attribute o "replace" apos) [.Constant (.str x) j c0, .Constant (.str y) k c1] [] pos) ((E.rep0 eo l r).rd Z W) := by
  subst h1
  refine ⟨fun pins s σ H Q I h => ?_⟩
  refine PySem.Call_method2 hbase hst hline (thn (ho.run pins s σ H _ I h) fun v s1 hh => ?_)
  obtain ⟨v', H1, I1, r1, x', e1, hn, q⟩ := hh
  subst e1
  obtain ⟨tx, e2⟩ := r1
  subst e2
  refine ⟨"str", _, PySem.F.plainAttrs_str, PySem.F.slot_str_replace, PySem.F.type_str_replace, typeIs_str _ _ _, (fun _ e => nomatch e), Calls.callWith_builtin rfl (Calls.evalArgs_plain (Calls.spliced_cons ?_))⟩
  refine Calls.Constant_str (Calls.spliced_cons (Calls.Constant_str (Calls.spliced_nil ?_)))
  have he : ((Builtin.Str.occurrences x' (SX.S [l]) 0 x'.length (x'.length + 1)).isEmpty || ((SX.S [l]).length == 0 && y.length == 0)) = true := by rw [hn]; rfl
  refine call_gives PySem.F.slot_str_replace (typeIs_str _ _ _) PySem.F.entry_str_replace (PySem.F.args_str_replace_3 _ _ _) (gives_str_replace _ _ _ _ _ _ fun hc => by rw [he] at hc; cases hc) ?_
  rw [if_pos he]
  exact ⟨.str x', H1, I1.tok _, ⟨tx, rfl⟩, q⟩
end
end Mq
/-! A small language over HandS: isinstance of a caught error. -/
namespace Mq
open PySem L2 Evl PyProof.Rows
open SX (S S_len S_cat S_inj)
section
variable {X : Cx}
theorem call_isAny {Z : Rc} {oe : Obj} {pl : List (Addr × Obj)} (hk : Z.K.K = X.K) (hz : Zc Z.xc Z.xd oe) (hf : ∃ fv, oe.data = .fields fv) : CallR (X.suite Z.xa ((Z.xa, oe) :: pl)) (.builtin "isinstance") (rIsAny Z) := by
  intro pns st τ Hh xs us Q I r hw
  obtain ⟨c, Dc, b, rfl, hc0, hd0, Ec, hc, q⟩ := hw
  rw [hk] at Ec hc
  obtain ⟨u1, u2, rfl, r1, r2⟩ := vals2 r
  cases (show u1 = Value.ref Z.xa from r1)
  obtain ⟨hget, _⟩ := I.pin (Z.xa, oe) (List.mem_append_left _ List.mem_cons_self)
  obtain ⟨fv, hd⟩ := hf
  have hno : PySem.W.notCls oe = true := by unfold PySem.W.notCls; rw [hd] <;> rfl
  have hcl : (PySem.W.clsIn X.K Dc).isSome = true := by
    obtain ⟨cd, hcd, _⟩ := PySem.W.any_some Ec.hd
    rw [hcd]
    rfl
  have J : ∃ od, PySem.W.InstAt st.heap Z.xa oe Dc od := by
    rcases hd0 with hn | ⟨dd, fs, hn, hx⟩
    · exact ⟨none, hget, by rw [hz.1, hc0], hno, by rw [hz.2, hn]; trivial⟩
    · obtain ⟨mA, hns, hr⟩ := (show ObjOk X.prog X.w Hh st.heap dd (.xd fs) from I.hok dd _ hx)
      obtain ⟨od, ho, hl⟩ := lookIn_ns hns
      exact ⟨some od, hget, by rw [hz.1, hc0], hno, by rw [hz.2, hn]; exact ho⟩
  obtain ⟨od, J⟩ := J
  have Z1 := PySem.W.kitx_exc (K := X.K) (x := Z.xa) (ox := oe) (od := od) hcl Ec.hg Ec.hk Ec.hs Ec.ha Ec.hn Ec.ht Ec.hm
  rcases hc with ⟨u, k, e⟩ | ⟨tp, cs, ws, rfl, hT, k, e⟩
  · have e2 := k.eq r2
    subst e2
    exact PySem.W.kia_one Z1 I.kIn J e (fun z => nomatch z) fun tk => ⟨.bl b, Hh, I.tok tk, rfl, q⟩
  · cases (show u2 = Value.ref tp from r2)
    obtain ⟨its, rv, ⟨o, h1, h2, n, h3⟩, _⟩ := I.tuple hT
    have e3 := ClsV.all k rv
    subst e3
    obtain ⟨oc, od2, dt, sl⟩ := o
    simp only at h2 h3
    subst h2 h3
    exact PySem.W.kia_tup Z1 I.kIn J h1 e (fun z => nomatch z) fun tk => ⟨.bl b, Hh, I.tok tk, rfl, q⟩
end
section
variable {X : Cx} {Z : Rc} {W : WX} {n : Nat} {cons blts : List Str} {o : Expr} {pos q : Pos} {es : List Expr} {x : Str}
theorem d_xi {clss : List Str} {efs : List Nat} {X0 : Cx} {A0 : Addr} {oe : Obj} {pl : List (Addr × Obj)} {q1 : Pos} (cz : Cz X Z A0 oe pl X0) (m : Md X Z cons blts) (me : Me X Z clss efs) (i y j : Nat) (ho : PE X o (tVar i)) (hy : clss[y]? = some x := by rfl) (hi : blts[j]? = some "isinstance" := by rfl)
    (hg : Gl X "isinstance" := by rfl) (hgx : Gl X x := by rfl) (hdb : (x == ("__debug__" : Str)) = false := by decide)
    (he : starEach [o, .Name x q1] X.env = (false, eval o X.env) :: starEach [.Name x q1] X.env := by rfl) (he2 : starEach [.Name x q1] X.env = (false, eval (.Name x q1) X.env) :: starEach [] X.env := by rfl) (hpl : (backTo pos (starEach [.Name x q1] X.env)).any (·.1) = false := by rfl) :
    PE X (.Call (.Name "isinstance" q) [o, .Name x q1] [] pos) ((E.xi i y).rd Z W) := by
  have hm := me.g y x hy
  obtain ⟨rfl, hk, rfl, hz, hf⟩ := cz
  exact pe_callB (call_isAny hk hz hf) hg (m.b j _ hi) (by rfl) (pa_cons ho (pa_cons (pe_glob hgx hm rfl hdb) pa_nil he2) he) (by decide) (by decide) he hpl
end
end Mq
/-! A small language over HandS: statements behind a test that puts a token out. -/
namespace Mq
open PySem PySem.Spec L2 Evl CwR
section
variable {X : Cx} {Z : Rc} {W : WX} {e a b o c : Expr} {es : List Expr} {ta tb te to : TE} {t : TA} {pos : Pos}
structure PA1 (X : Cx) (es : List Expr) (t : TA) : Prop where
  run : ∀ (pos : Pos) (pins : List (Addr × Obj)) (s : Shared) (σ : St) (H : Hp) (Q : List V → Hp → Prop), Inv X pins σ H s → t σ H Q → wpAny (model X.prog X.w) X.A (spliced (backTo pos (starEach es X.env))) (fun us s' => 1 ≤ s'.toks ∧ AP X pins σ Q us s') X.xe s
structure PT1 (X : Cx) (e : Expr) (t : TT) : Prop where
  run : ∀ (pins : List (Addr × Obj)) (s : Shared) (σ : St) (H : Hp) (Q : Bool → Hp → Prop), Inv X pins σ H s → t σ H Q → wpAny (model X.prog X.w) X.A (isTrue e X.env (eval e X.env)) (fun d s' => 1 ≤ s'.toks ∧ TP X pins σ Q d s') X.xe s
theorem pa1_cons (ha : PE1 X e te) (hr : PA X es t) (hs : starEach (e :: es) X.env = (false, eval e X.env) :: starEach es X.env := by rfl) : PA1 X (e :: es) (tCons te t) := by
  refine ⟨fun pos pins s σ H Q I h => ?_⟩
  rw [hs]
  show wpAny _ _ (spliced ((false, eval e X.env) :: backTo pos (starEach es X.env))) _ _ s
  refine Calls.spliced_cons (thn (ha.run pins s σ H _ I h) fun u s1 ⟨k1, x, H1, I1, r1, q1⟩ => ?_)
  exact wpAny_mono (PySem.wpAny_toks (hr.run pos pins s1 σ H1 _ I1 q1)) (fun us s2 q => by
    obtain ⟨k2, xs, H2, I2, r2, q2⟩ := q
    exact ⟨by omega, x :: xs, H2, I2, .cons r1 r2, q2⟩) fun _ _ z => z.2
theorem p1_tupF {x1} (h : PA1 X es t) : PE1 X (.Tuple es x1 pos) (tTupF t) := by
  refine ⟨fun pins s σ H Q I hq => ?_⟩
  exact wpAny_Tuple_spliced (thn (h.run pos pins s σ H _ I hq) fun us s1 ⟨k1, xs, H1, I1, r, z, q⟩ => ⟨by rw [← r.length]; exact z, k1, laidT I1 r z q⟩)
theorem t1_cmpR {op : CmpOp} {r : R2} (ho : OpR X (compareOp op) r) (ha : PE X a ta) (hb : PE1 X b tb) (hm : behindInMarks op b = false) : PT1 X (.Compare a [op] [b] pos) (tTest (tOp r ta tb)) := by
  refine ⟨fun pins s σ H Q I h => ?_⟩
  refine wpAny_isTrue_Compare1 (thn (ha.run pins s σ H _ I h) fun v s1 ⟨x, H1, I1, r1, q1⟩ => thn (hb.run pins s1 σ H1 _ I1 q1) fun u s2 ⟨k2, y, H2, I2, r2, q2⟩ =>
    wpAny_mono (PySem.wpAny_toks (ho pins s2 σ H2 x y v u _ I2 r1 r2 q2)) (fun c s3 q => ?_) fun _ _ z => z.2) hm
  obtain ⟨k3, z, H3, I3, r3, k, e, q3⟩ := q
  subst e
  cases r3
  exact wpAny_truthy_bool ⟨by omega, H3, I3, q3⟩
theorem x1_if {l1 l2 : List Stmt} {tc : TT} {t u : TS} (hc : PT1 X c tc) (ha : PSsT X l1 t) (hb : PSsT X l2 u) : PS X (.If c l1 l2 pos) (tIfS tc t u) := by
  refine ⟨fun pins s σ H D I h => ?_⟩
  refine wpAny_If (thn (hc.run pins s σ H _ I h) fun d s1 ⟨k1, H1, I1, q1⟩ => ?_)
  cases d with
  | true => exact ha pins s1 σ H1 D k1 I1 q1
  | false => exact hb pins s1 σ H1 D k1 I1 q1
theorem pst_set {i : Nat} {x : Str} {pos' : Pos} (hN : X.N.Nodup) (hi : X.N[i]? = some x) (hx : Loc X.env.scope x) (he : PET X e te) (hs : swapsWith e (some (.Name x pos')) pos.line X.env = pure false := by rfl) (hf : X.fn x = true ∨ X.env.scope.names.lookup x = some .local := by first | exact .inl rfl | exact .inr rfl | assumption) :
    PST X (.Assign [.Name x pos'] e pos) (tAsg te (gName i)) := by
  intro pins s σ H D h0 I h
  refine wpAny_Assign_Name (thn (he pins s σ H _ h0 I h) fun v s1 ⟨y, H1, I1, r1, q1⟩ => ?_) hs
  exact store_ok I1 hN hi hx r1 (fun s2 I2 => ⟨_, H1, I2, q1⟩) hf
end
section
variable {X : Cx} {Z : Rc} {W : WX} {n : Nat} {a b u e : Expr} {es : List Expr} {ea eb ee : E} {ds : Es} {pos q : Pos} {x : Str} {w : CmpOp} {p : Op2} {st : Stmt} {rest l1 l2 : List Stmt} {s : S_} {r r1 r2 : Ss} {t : T}
theorem e1_cons (ha : PE1 X a (ea.rd Z W)) (hr : PA X es (ds.rd Z W)) (hs : starEach (a :: es) X.env = (false, eval a X.env) :: starEach es X.env := by rfl) : PA1 X (a :: es) ((Es.cons ea ds).rd Z W) := pa1_cons ha hr hs
theorem g_tup {x1} (h : PA1 X es (ds.rd Z W)) : PE1 X (.Tuple es x1 pos) ((E.tup ds).rd Z W) := p1_tupF h
theorem t1_cmp (k : Cmp X Z w p) (ha : PE X a (ea.rd Z W)) (hb : PE1 X b (eb.rd Z W)) (hm : behindInMarks w b = false := by rfl) : PT1 X (.Compare a [w] [b] pos) ((T.val (.op2 p ea eb)).rd Z W) := t1_cmpR k ha hb hm
theorem z_if1 (hc : PT1 X u (t.rd Z W)) (ha : PSsT X l1 (r1.rd Z W)) (hb : PSsT X l2 (r2.rd Z W)) : PS X (.If u l1 l2 pos) ((S_.ite t r1 r2).rd Z W) := x1_if hc ha hb
theorem y_if (hc : PT X u (t.rd Z W)) (ha : PSsT X l1 (r1.rd Z W)) (hb : PSsT X l2 (r2.rd Z W)) : PST X (.If u l1 l2 pos) ((S_.ite t r1 r2).rd Z W) := pst_if hc ha hb
theorem y_of (h : PS X st (s.rd Z W)) : PST X st (s.rd Z W) := PST.of h
theorem ys_of (h : PSs X rest (r.rd Z W)) : PSsT X rest (r.rd Z W) := PSsT.of h
theorem ys_nil : PSsT X [] ((Ss.nil).rd Z W) := psst_nil
theorem ys_cons (h1 : PST X st (s.rd Z W)) (h2 : PSsT X rest (r.rd Z W)) : PSsT X (st :: rest) ((Ss.cons s r).rd Z W) := psst_cons h1 h2
theorem y_asg (c : Cxt X Z W n) (i : Nat) (he : PET X e (ee.rd Z W)) (hi : X.N[i]? = some x := by rfl) (hx : Loc X.env.scope x := by first | exact .inl rfl | exact .inr rfl) (hs : swapsWith e (some (.Name x q)) pos.line X.env = pure false := by rfl) (hf : X.fn x = true ∨ X.env.scope.names.lookup x = some .local := by first | exact .inl rfl | exact .inr rfl) :
    PST X (.Assign [.Name x q] e pos) ((S_.asg (.nm i) ee).rd Z W) := pst_set c.nd hi hx he hs hf
theorem u_of (h : PE X e (ee.rd Z W)) : PET X e (ee.rd Z W) := PET.of h
theorem u_bin {q : Operator} {p : Op2} (k : Bin X Z q p) (ha : PET X a (ea.rd Z W)) (hb : PET X b (eb.rd Z W)) : PET X (.BinOp a q b pos) ((E.op2 p ea eb).rd Z W) := pet_op k ha hb
end
end Mq
/-! A small language over HandS: dicts of the module with text keys: derivations. -/
namespace Mq
open PySem PySem.Spec L2 Evl PyProof.Rows
open SX (S S_len S_cat S_inj)
section
variable {X : Cx} {Z : Rc} {W : WX} {n : Nat} {md : Modu} {a b : Expr} {ea ed : E} {pos q : Pos} {x : Str}
theorem t_gin (mf : Mf X Z n md) (j : Nat) (ha : PE X a (ea.rd Z W)) (hj : md.dcts[j]? = some x := by rfl) (hg : Gl X x := by rfl) (hdb : (x == ("__debug__" : Str)) = false := by decide) (hm : behindInMarks .In (.Name x q) = false := by rfl) :
    PT X (.Compare a [.In] [.Name x q] pos) ((T.val (.gin false j ea)).rd Z W) := by
  obtain ⟨d, ks, ds, h1, h2, G⟩ := mf.dg j x hj
  obtain ⟨es, m, D⟩ := G.kd
  refine ⟨fun pins s σ H Q I h => ?_⟩
  refine wpAny_isTrue_Compare1 (thn (ha.run pins s σ H _ I h) fun v s1 ⟨y, H1, I1, r1, l, ks', ds', e1, e2, q1⟩ => ?_) hm
  subst e1
  rw [h2] at e2
  injection e2 with e2
  injection e2 with e3 e4
  subst e3 e4
  refine thn ((pe_glob (v := .ref d) (pos := q) hg h1 rfl hdb).run pins s1 σ H1 (fun z H' => z = .ref d ∧ H' = H1) I1 ⟨rfl, rfl⟩) fun u s2 ⟨z, H2, I2, r2, e5, e6⟩ => ?_
  subst e5
  rw [e6] at I2
  have nsx : ∃ r, PySem.W.nsIn X.K d (S l) = some r ∧ r.isSome = (ixL ks l).isSome := by
    rcases G.get l with ⟨g1, g2⟩ | ⟨i, dd, u, g1, _, g3, _⟩
    · exact ⟨none, g2, by rw [g1]; rfl⟩
    · exact ⟨some u, g3, by rw [g1]; rfl⟩
  obtain ⟨r, n1, n2⟩ := nsx
  refine thn (op_in_kd D pins s2 σ H1 (.str (S l)) (.ref d) v u (fun z H' => z = .bl (ixL ks l).isSome ∧ H' = H1) I2 r1 r2 ⟨S l, r, rfl, rfl, n1, by rw [n2], rfl⟩) fun c s3 ⟨z, H3, I3, r3, e5, e6⟩ => ?_
  subst e5
  rw [e6] at I3
  cases r3
  obtain ⟨k, e7, q1⟩ := q1
  injection e7 with e7
  have e8 : (false != (ixL ks l).isSome) = (ixL ks l).isSome := by cases (ixL ks l).isSome <;> rfl
  rw [e8] at e7
  subst e7
  exact wpAny_truthy_bool ⟨H1, I3, q1⟩
theorem d_gix (mf : Mf X Z n md) (j : Nat) (ha : PE X a (ea.rd Z W)) (hj : md.dcts[j]? = some x := by rfl) (hg : Gl X x := by rfl) (hdb : (x == ("__debug__" : Str)) = false := by decide) (hs : PlainIx a := by exact fun _ _ => rfl) :
    PE X (.Subscript (.Name x q) a pos) ((E.gix j ea).rd Z W) := by
  obtain ⟨d, ks, ds, h1, h2, G⟩ := mf.dg j x hj
  obtain ⟨es, m, e1, e2, e3, e4⟩ := G
  have G : GdOk X.K X.w d ks ds := ⟨es, m, e1, e2, e3, e4⟩
  have p := pe_ix (pos := pos) ix_kdict (pe_glob (v := .ref d) (pos := q) hg h1 rfl hdb) (pe_wkE ha) hs
  refine ⟨fun pins s σ H Q I h => p.run pins s σ H Q I ⟨_, h, fun y H1 q1 => ?_⟩⟩
  obtain ⟨l, ks', ds', i, dd, k1, k2, k3, k4, k5⟩ := q1
  rw [h2] at k2
  injection k2 with k2
  injection k2 with z1 z2
  subst z1 z2
  rcases G.get l with ⟨g1, _⟩ | ⟨i', dd', u, g1, g2, g3, g4⟩
  · rw [g1] at k3; cases k3
  · rw [g1] at k3
    injection k3 with k3
    subst k3
    rw [g2] at k4
    injection k4 with k4
    subst k4
    exact ⟨d, S l, vD dd', rfl, k1, ⟨es, m, u, e1, keysE_lit e2, g3, absD_vD g4⟩, k5⟩
theorem d_gget {apos cpos : Pos} (mf : Mf X Z n md) (j : Nat) (ha : PE X a (ea.rd Z W)) (hb : PE X b (ed.rd Z W)) (hj : md.dcts[j]? = some x := by rfl) (hg : Gl X x := by rfl) (hdb : (x == ("__debug__" : Str)) = false := by decide)
    (hbase : attributeBase (.Name x q) "get" X.env (eval (.Name x q) X.env) = eval (.Name x q) X.env := by rfl)
    (hfew : ((backTo cpos (starEach [a, b] X.env)).all (fun x => !x.1) && (backToKw cpos (keywordEach [] X.env)).all (fun x => x.1.isSome)
      && decide (([a, b] : List Expr).length + ([] : List Keyword).length + (if ([] : List Keyword).isEmpty then 0 else 1) < 30)) = true := by rfl)
    (hline : (apos.endLine == cpos.line) = true := by rfl) (hs : starEach [a, b] X.env = (false, eval a X.env) :: starEach [b] X.env := by rfl) (hs2 : starEach [b] X.env = (false, eval b X.env) :: starEach [] X.env := by rfl) (hplain : (backTo cpos (starEach [b] X.env)).any (·.1) = false := by rfl) :
    PE X (.Call (.Attribute (.Name x q) "get" apos) [a, b] [] cpos) ((E.gget j ea ed).rd Z W) := by
  obtain ⟨d, ks, ds, h1, h2, G⟩ := mf.dg j x hj
  obtain ⟨es, m, e1, e2, e3, e4⟩ := G
  have G : GdOk X.K X.w d ks ds := ⟨es, m, e1, e2, e3, e4⟩
  refine ⟨fun pins s σ H Q I h => ?_⟩
  refine wpAny_Call_method_late hbase hfew hline rfl (thn ((pe_glob (v := .ref d) (pos := q) hg h1 rfl hdb).run pins s σ H (fun z H' => z = .ref d ∧ H' = H) I ⟨rfl, rfl⟩) fun v s1 ⟨z, H1, I1, r1, e5, e6⟩ => ?_)
  subst e5
  rw [e6] at I1
  cases (show v = Value.ref d from r1)
  have hm := PySem.W.mapOf_K (prog := X.prog) (w := X.w) I1.kIn e1 (keysE_lit e2)
  refine ⟨"dict", "dict.get", PySem.F.plainAttrs_dict, PySem.F.slot_dict_get, PySem.F.type_dict_get, hm.typeIs, fun b' z => ?_, ?_⟩
  · cases z
    exact ⟨_, I1.kIn _ _ e1, rfl⟩
  rw [hs]
  rw [hs2]
  refine Calls.callWith_builtin rfl (Calls.evalArgs_plain (Calls.spliced_cons (thn (ha.run pins s1 σ H _ I1 h) fun u1 s2 ⟨y, H2, I2, ry, q2⟩ => ?_)))
  refine Calls.spliced_cons (thn (hb.run pins s2 σ H2 _ I2 q2) fun u2 s3 ⟨z, H3, I3, rz, l, ks', ds', k1, k2, k5⟩ => Calls.spliced_nil ?_)
  subst k1
  rw [h2] at k2
  injection k2 with k2
  injection k2 with z1 z2
  subst z1 z2
  obtain ⟨t, rfl⟩ := ry
  have hm3 := PySem.W.mapOf_K (prog := X.prog) (w := X.w) I3.kIn e1 (keysE_lit e2)
  refine call_meetsIn PySem.F.slot_dict_get hm3.typeIs PySem.F.entry_dict_get (PySem.F.args_dict_get_3 _ _ _) (meets_dict_get_default (strKind X.prog X.w) d (strKind_is X.prog X.w (S l) t) e4 u2) ⟨_, hm3, ?_⟩
  rcases G.get l with ⟨g1, g3⟩ | ⟨i', dd', u, g1, g2, g3, g4⟩
  · rw [PySem.W.find_K e1 g3]
    rw [g1] at k5
    exact ⟨z, H3, I3.tok _, rz, k5⟩
  · rw [PySem.W.find_K e1 g3]
    rw [g1] at k5
    have k5 : Q ((((ds[i']?)).map vD).getD z) H3 := k5
    rw [g2] at k5
    exact ⟨vD dd', H3, I3.tok _, absD_vD g4, k5⟩
end
end Mq
/-! A small language over HandS, 22d: derivations: comprehensions that make dicts, dicts copied. -/
namespace Mq
open PySem L2 Evl PyProof.Rows
open SX (S S_len S_cat S_inj)
section
variable {X : Cx}
/-- name = {k: v for ..} on one line -/
theorem ps_setDc {K : Kx} (kz : KX K X) (hu : X.A.units + 9 < cLine) {i : Nat} {y : Str} {py : Pos} {kx vx tg iter : Expr} {ifs : List Expr} {scope : Scope} {own : List (Str × Nat)} {pos spos : Pos} {wi : TI} {g : TG} {tt : TT} {tk tv : TE} (hc : X.calm = true) (hN : X.N.Nodup) (hy : X.N[i]? = some y) (hyl : X.env.scope.names.lookup y = some .local)
    (hsw : swapsWith (.DictComp kx vx [⟨tg, iter, ifs, 0⟩] scope pos) (some (.Name y py)) spos.line X.env = pure true) (hi : PI X tg iter wi) (ok : BlkOk X.N X.env.scope scope own)
    (hb : ∀ (s : Shared) (H : Hp) (C : Addr) (cl : List (Str × Addr)) (fp : List Addr), PG (X.blk s H scope (compEnvC scope cl C X.env) fp) tg g ∧ PTs (X.blk s H scope (compEnvC scope cl C X.env) fp) ifs tt ∧ PE (X.blk s H scope (compEnvC scope cl C X.env) fp) kx tk ∧ PE (X.blk s H scope (compEnvC scope cl C X.env) fp) vx tv)
    (hs : ∀ x, foldedSetIterable iter X.env x = pure x) :
    PS X (.Assign [.Name y py] (.DictComp kx vx [⟨tg, iter, ifs, 0⟩] scope pos) spos) (tAsg (tDcX K wi g tt tk tv (own.map (·.2))) (gName i)) := by
  refine ⟨fun pins s σ H Dn I hh => ?_⟩
  rw [exec_Assign_Name_used _ _ _ _ hsw]; refine wpAny_bind (wpAny_standAt (wpAny_bind ?_))
  show wpAny _ X.A (do let _ ← comprehension (.DictComp kx vx [⟨tg, iter, ifs, 0⟩] scope pos) scope X.env (firstIterPos [⟨tg, iter, ifs, 0⟩] pos) newDict false (eval iter X.env) (some (assign (.Name y py) X.env))) _ _ s
  have h1 : tDcX K wi g tt tk tv (own.map (·.2)) σ H (fun x H1 => gName i x σ H1 Dn.nx) := hh
  refine wpAny_bind (thn (dcX_core kz hu (Qf := fun _ s' => SP X pins Dn .next s') hc hN I hi ok (fun s H C cl fp => (hb s H C cl fp).1) (fun s H C cl fp => (hb s H C cl fp).2.1) (fun s H C cl fp => (hb s H C cl fp).2.2.1) (fun s H C cl fp => (hb s H C cl fp).2.2.2) hs h1 fun L C t m H' I' q hn f => ?_) fun _ t hq => wpAny_pure (wpAny_pure hq))
  show wpAny _ _ (assign (.Name y py) X.env (.ref L)) _ _ _
  refine wpAny_assign_Name (store_ok2 (v := V.ref L) I' hN hy (.inl hyl) rfl (fun t2 J ⟨a, sb, ha⟩ => ?_) (.inr hyl))
  obtain ⟨z0, z1, z2, z3, z4, z5⟩ := f
  have ne : C ≠ a := by
    rcases ha with z | z
    · rw [z]; exact z1
    · exact fun e => z4 y a z e.symm
  exact ⟨m, hn.sameBut sb ne, fun h3 sb3 => ⟨_, H', J.turned (t' := t2.toks) (fun b o hb e => (sb3.2 b hb).trans e) z0 z1 z3 z4 z5, q⟩⟩
end
section
variable {X : Cx} {Z : Rc} {W : WX} {n : Nat} {cons blts : List Str} {md : Modu}
variable {a b e f o : Expr} {ea eb ee ef ek : E} {oa ob oo : Od} {pos q : Pos} {P : Pa} {es : List Expr} {ds : Es} {mm : M} {as : As} {x : Str}
theorem dc_in {kx vx tg : Expr} {ifs : List Expr} {scope : Scope} {p : Pt} {tt : Ts} (c : Cxt X Z W n)
    (hb : ∀ (s : Shared) (H : Hp) (C : Addr) (cl : List (Str × Addr)) (fp : List Addr), Cxt (X.blk s H scope (compEnvC scope cl C X.env) fp) Z W0 n → PG (X.blk s H scope (compEnvC scope cl C X.env) fp) tg (p.rd Z.K.K) ∧ PTs (X.blk s H scope (compEnvC scope cl C X.env) fp) ifs (tt.rd Z W0) ∧ PE (X.blk s H scope (compEnvC scope cl C X.env) fp) kx (ek.rd Z W0) ∧ PE (X.blk s H scope (compEnvC scope cl C X.env) fp) vx (ee.rd Z W0))
    (s : Shared) (H : Hp) (C : Addr) (cl : List (Str × Addr)) (fp : List Addr) : PG (X.blk s H scope (compEnvC scope cl C X.env) fp) tg (p.rd Z.K.K) ∧ PTs (X.blk s H scope (compEnvC scope cl C X.env) fp) ifs (tt.rd Z W0) ∧ PE (X.blk s H scope (compEnvC scope cl C X.env) fp) kx (ek.rd Z W0) ∧ PE (X.blk s H scope (compEnvC scope cl C X.env) fp) vx (ee.rd Z W0) :=
  hb s H C cl fp ⟨⟨c.kx.k, c.kx.p, c.kx.w⟩, c.nd, c.u, takes0, PassesOwn.never⟩
/-- {k: v for ..} -/
theorem f_dc {kx vx tg iter : Expr} {ifs : List Expr} {scope : Scope} {p : Pt} {it : It} {tt : Ts} (c : Cxt X Z W n) (own : List (Str × Nat)) (hi : PI X tg iter (it.rd Z W))
    (hb : ∀ (s : Shared) (H : Hp) (C : Addr) (cl : List (Str × Addr)) (fp : List Addr), Cxt (X.blk s H scope (compEnvC scope cl C X.env) fp) Z W0 n → PG (X.blk s H scope (compEnvC scope cl C X.env) fp) tg (p.rd Z.K.K) ∧ PTs (X.blk s H scope (compEnvC scope cl C X.env) fp) ifs (tt.rd Z W0) ∧ PE (X.blk s H scope (compEnvC scope cl C X.env) fp) kx (ek.rd Z W0) ∧ PE (X.blk s H scope (compEnvC scope cl C X.env) fp) vx (ee.rd Z W0))
    (ok : blkC X.N X.env.scope scope own = true := by rfl) (hcm : X.calm = true := by rfl) (hs : ∀ x, foldedSetIterable iter X.env x = pure x := by exact fun _ => rfl) :
    PE X (.DictComp kx vx [⟨tg, iter, ifs, 0⟩] scope pos) ((M.dc (own.map (·.2)) p it tt ek ee).rd Z W) :=
  have h := dc_in c hb
  pe_dcX c.kx c.u9 hcm c.nd hi (blkOk_by ok) (fun s H C cl fp => (h s H C cl fp).1) (fun s H C cl fp => (h s H C cl fp).2.1) (fun s H C cl fp => (h s H C cl fp).2.2.1) (fun s H C cl fp => (h s H C cl fp).2.2.2) hs
/-- name = {k: v for ..} on one line -/
theorem z_ownDc {kx vx tg iter : Expr} {ifs : List Expr} {scope : Scope} {p : Pt} {it : It} {tt : Ts} {y : Str} {py spos : Pos} (c : Cxt X Z W n) (i : Nat) (own : List (Str × Nat)) (hi : PI X tg iter (it.rd Z W))
    (hb : ∀ (s : Shared) (H : Hp) (C : Addr) (cl : List (Str × Addr)) (fp : List Addr), Cxt (X.blk s H scope (compEnvC scope cl C X.env) fp) Z W0 n → PG (X.blk s H scope (compEnvC scope cl C X.env) fp) tg (p.rd Z.K.K) ∧ PTs (X.blk s H scope (compEnvC scope cl C X.env) fp) ifs (tt.rd Z W0) ∧ PE (X.blk s H scope (compEnvC scope cl C X.env) fp) kx (ek.rd Z W0) ∧ PE (X.blk s H scope (compEnvC scope cl C X.env) fp) vx (ee.rd Z W0))
    (hy : X.N[i]? = some y := by rfl) (hyl : X.env.scope.names.lookup y = some .local := by rfl) (hsw : swapsWith (.DictComp kx vx [⟨tg, iter, ifs, 0⟩] scope pos) (some (.Name y py)) spos.line X.env = pure true := by rfl)
    (ok : blkC X.N X.env.scope scope own = true := by rfl) (hcm : X.calm = true := by rfl) (hs : ∀ x, foldedSetIterable iter X.env x = pure x := by exact fun _ => rfl) :
    PS X (.Assign [.Name y py] (.DictComp kx vx [⟨tg, iter, ifs, 0⟩] scope pos) spos) ((S_.own i (.dc (own.map (·.2)) p it tt ek ee)).rd Z W) :=
  ps_setDc c.kx c.u9 hcm c.nd hy hyl hsw hi (blkOk_by ok) (dc_in c hb) hs
/-- dict(d) -/
theorem bl_cpd : CallR X (.type "dict") rCpd := fun pins s σ H xs us Q I r h => call_dictD pins s σ H xs us Q I r h
theorem f_cpd (m : Md X Z cons blts) (i : Nat) (ha : PE X a (oa.rd Z W)) (hi : blts[i]? = some "dict" := by rfl) (hg : Gl X "dict" := by rfl) (he : starEach [a] X.env = (false, eval a X.env) :: starEach [] X.env := by rfl) (hpl : (backTo pos (starEach [] X.env)).any (·.1) = false := by rfl) :
    PE X (.Call (.Name "dict" q) [a] [] pos) ((M.cpd oa).rd Z W) := pe_callTy bl_cpd hg (m.b i _ hi) (by rfl) (pa_cons ha pa_nil he) (by decide) (by decide) he hpl
/-- d.update(e) -/
theorem mt_upd (K : Kx) : MtR X "dict.update" (rUpd K) := by
  intro pins s σ H x xs v us Q I rx r h
  obtain ⟨p, g, kv, lw, rfl, rfl, hne, h1, h2, hz, q⟩ := h
  cases rx
  obtain ⟨u, rfl, ru⟩ := vals1 r
  cases ru
  have nd := dk_nodup I h1
  obtain ⟨z1, lo1, vs, rel1, d1⟩ := dk_of I.hok h1
  obtain ⟨z2, lo2, ws, rel2, d2⟩ := dk_rd I.hok h2
  refine call_meetsIn PySem.F.slot_dict_update d1.typeIs PySem.F.entry_dict_update (PySem.F.args_dict_update_2 _ _) (meets_dict_update (mixKind X.prog X.w) p g hne lo2) ⟨vs, ws, d1, d2, by rw [← rel1.length, ← rel2.length]; exact hz, fun h' dd _ hs => ?_⟩
  have hl : (mergeK kv lw).length ≤ sizeLine := Nat.le_trans (length_mergeK lw kv) hz
  have he : ∃ o, h'.get? p = some o := let ⟨o, _, _, ho, _⟩ := dd; ⟨o, ho⟩
  exact ⟨.non, _, d_write I (by rw [h1]; exact True.intro) hs he (dk_new hl lo1 (KV.merge rel2 rel1) dd), rfl, q nd.1⟩
theorem z_upd {apos cpos : Pos} (c : Cxt X Z W n) (ho : PE X o (P.rd Z.K)) (he : PE X e (ee.rd Z W))
    (hs0 : swapsWith (.Call (.Attribute o "update" apos) [e] [] cpos) none pos.line X.env = pure false := by rfl)
    (hbase : attributeBase o "update" X.env (eval o X.env) = eval o X.env := by rfl)
    (hfew : ((backTo cpos (starEach [e] X.env)).all (fun x => !x.1) && (backToKw cpos (keywordEach [] X.env)).all (fun x => x.1.isSome)
      && decide ([e].length + ([] : List Keyword).length + (if ([] : List Keyword).isEmpty then 0 else 1) < 30)) = true := by rfl)
    (hline : (apos.endLine == cpos.line) = true := by rfl) (hs : starEach [e] X.env = (false, eval e X.env) :: starEach [] X.env := by rfl) (hplain : (backTo cpos (starEach [] X.env)).any (·.1) = false := by rfl) :
    PS X (.Expr (.Call (.Attribute o "update" apos) [e] [] cpos) pos) ((S_.upd P ee).rd Z W) :=
  ps_expr (pe_bmX c.kx PySem.F.plainAttrs_dict PySem.F.slot_dict_update PySem.F.type_dict_update (mt_upd Z.K) ho (pa_cons he pa_nil hs) hbase hfew hline hs hplain) hs0
/-! a new dict's keys -/
theorem pe_lk {td : TE} (h : PE X e td) : PE X e (tLk td) := ⟨fun pins s σ H Q I hh => thn (h.run pins s σ H _ I hh) fun v s1 ⟨x, H1, I1, r, d, u, ex, hd, mu, q⟩ => by
  obtain ⟨od, I2⟩ := I1.lock hd mu
  exact ⟨x, _, I2, r, q od⟩⟩
theorem i_keys {tg : Expr} (h : PE X e (mm.rd Z W)) : PI X tg e ((It.keys mm).rd Z W) := pi_keys (pe_lk h)
/-! methods of new objects -/
theorem d_metht {name : Str} {apos : Pos} {pl : Sem Bool} (c : Cxt X Z W n) (mf : Mf X Z n md) (k : Nat) (ho : PE X o (mm.rd Z W)) (ha : PA X (e :: es) (as.rd Z W)) (hn : Z.mn k = name := by rfl)
    (hst : starEach (e :: es) X.env = (false, eval e X.env) :: starEach es X.env := by rfl) (hpl : (backTo pos (starEach es X.env)).any (·.1) = false := by rfl)
    (ht : eval (.Call (.Attribute o name apos) (e :: es) [] pos) X.env = (do
      let ov ← eval o X.env
      standAt apos.atName
      let (f, first) ← holding [ov] (getMethod ov name pl)
      callWith pos f first (backTo pos (starEach (e :: es) X.env)) (backToKw pos (keywordEach [] X.env))) := by rfl) : PE X (.Call (.Attribute o name apos) (e :: es) [] pos) ((E.metht mm k as).rd Z W) := pe_wk (meth_any c mf.r (fun c f h => mf.m c k f h) ho ha hn hst hpl ht) meth_nil
end
end Mq
/-! A small language over HandS, 22e: derivations: walks over a dict that is data. -/
namespace Mq
open PySem L2 Evl PyProof.Rows
open SX (S S_len S_cat S_inj)
section
variable {X : Cx} {e : Expr} {st : Stmt}
theorem pe_lkE {t : TE} (h : PE X e t) : PE X e (tLkE t) := ⟨fun pins s σ H Q I hw => hw.elim (h.run pins s σ H Q I) ((pe_lock h).run pins s σ H Q I)⟩
theorem ps_lkS {t : TS} (h : PS X st t) : PS X st (tLkS t) := ⟨fun pins s σ H D I hw => hw.elim (h.run pins s σ H D I) ((ps_lock h).run pins s σ H D I)⟩
theorem ps_asgLk {t : TE} {j : Nat} (h : PS X st (tAsg t (gName j))) : PS X st (tAsg (tLkE t) (gName j)) := ⟨fun pins s σ H D I hw => by
  rcases hw with hw | ⟨d, u, hd, mu, hw⟩
  · exact h.run pins s σ H D I hw
  · exact (ps_lock h).run pins s σ H D I ⟨d, u, hd, mu, hw⟩⟩
end
section
variable {X : Cx} {Z : Rc} {W : WX} {n : Nat} {cons blts : List Str} {md : Modu}
variable {a b e f o : Expr} {ea eb ee ef ek : E} {oa ob oo : Od} {pos q : Pos} {P : Pa} {es : List Expr} {ds : Es} {mm : M} {as : As} {x : Str} {l1 l2 : List Stmt} {r1 r2 : Ss} {tg : Expr}
theorem i_nm (i : Nat) {x : Str} {pos : Pos} (hN : X.N[i]? = some x := by rfl) (hv : Vis X.env.scope x := by first | exact Or.inl rfl | exact Or.inr (Or.inl rfl) | exact Or.inr (Or.inr rfl)) (hd : (x == ("__debug__" : Str)) = false := by decide)
    (hcd : (x == ("__classdict__" : Str)) = false := by decide) : PE X (.Name x pos) (tVar i) := pe_var hN hv hd hcd
/-- for key in d: d in slot i -/
theorem z_forD {p : Pt} (c : Cxt X Z W n) (i : Nat) (hi : PE X e (tVar i)) (hg : PG X tg (p.rd Z.K.K)) (hb : PSs X l1 (r1.rd Z W)) (hs : ∀ x, foldedSetIterable e X.env x = pure x := by exact fun _ => rfl) (hcm : X.calm = true := by rfl) : PS X (.For tg e l1 [] pos) ((S_.forD p i r1).rd Z W) := ps_lkS (ps_for c.po hcm (pi_keys hi) hg hb hs)
theorem lc_in {elt tg : Expr} {ifs : List Expr} {scope : Scope} {p : Pt} {tt : Ts} (c : Cxt X Z W n)
    (hb : ∀ (s : Shared) (H : Hp) (C : Addr) (cl : List (Str × Addr)) (fp : List Addr), Cxt (X.blk s H scope (compEnvC scope cl C X.env) fp) Z W0 n → PG (X.blk s H scope (compEnvC scope cl C X.env) fp) tg (p.rd Z.K.K) ∧ PTs (X.blk s H scope (compEnvC scope cl C X.env) fp) ifs (tt.rd Z W0) ∧ PE (X.blk s H scope (compEnvC scope cl C X.env) fp) elt (ee.rd Z W0))
    (s : Shared) (H : Hp) (C : Addr) (cl : List (Str × Addr)) (fp : List Addr) : PG (X.blk s H scope (compEnvC scope cl C X.env) fp) tg (p.rd Z.K.K) ∧ PTs (X.blk s H scope (compEnvC scope cl C X.env) fp) ifs (tt.rd Z W0) ∧ PE (X.blk s H scope (compEnvC scope cl C X.env) fp) elt (ee.rd Z W0) :=
  hb s H C cl fp ⟨⟨c.kx.k, c.kx.p, c.kx.w⟩, c.nd, c.u, takes0, PassesOwn.never⟩
/-- [.. for key in d] -/
theorem f_lcD {elt iter : Expr} {ifs : List Expr} {scope : Scope} {p : Pt} {tt : Ts} (c : Cxt X Z W n) (own : List (Str × Nat)) (i : Nat) (hi : PE X iter (tVar i))
    (hb : ∀ (s : Shared) (H : Hp) (C : Addr) (cl : List (Str × Addr)) (fp : List Addr), Cxt (X.blk s H scope (compEnvC scope cl C X.env) fp) Z W0 n → PG (X.blk s H scope (compEnvC scope cl C X.env) fp) tg (p.rd Z.K.K) ∧ PTs (X.blk s H scope (compEnvC scope cl C X.env) fp) ifs (tt.rd Z W0) ∧ PE (X.blk s H scope (compEnvC scope cl C X.env) fp) elt (ee.rd Z W0))
    (ok : blkC X.N X.env.scope scope own = true := by rfl) (hcm : X.calm = true := by rfl) (hs : ∀ x, foldedSetIterable iter X.env x = pure x := by exact fun _ => rfl) :
    PE X (.ListComp elt [⟨tg, iter, ifs, 0⟩] scope pos) ((M.lcD (own.map (·.2)) p i tt ee).rd Z W) :=
  have h := lc_in c hb
  pe_lkE (pe_lc hcm c.nd (pi_keys hi) (blkOk_by ok) (fun s H C cl fp => (h s H C cl fp).1) (fun s H C cl fp => (h s H C cl fp).2.1) (fun s H C cl fp => (h s H C cl fp).2.2) hs)
/-- name = [.. for key in d] on one line -/
theorem z_ownLcD {elt iter : Expr} {ifs : List Expr} {scope : Scope} {p : Pt} {tt : Ts} {y : Str} {py spos : Pos} (c : Cxt X Z W n) (j : Nat) (own : List (Str × Nat)) (i : Nat) (hi : PE X iter (tVar i))
    (hb : ∀ (s : Shared) (H : Hp) (C : Addr) (cl : List (Str × Addr)) (fp : List Addr), Cxt (X.blk s H scope (compEnvC scope cl C X.env) fp) Z W0 n → PG (X.blk s H scope (compEnvC scope cl C X.env) fp) tg (p.rd Z.K.K) ∧ PTs (X.blk s H scope (compEnvC scope cl C X.env) fp) ifs (tt.rd Z W0) ∧ PE (X.blk s H scope (compEnvC scope cl C X.env) fp) elt (ee.rd Z W0))
    (hy : X.N[j]? = some y := by rfl) (hyl : X.env.scope.names.lookup y = some .local := by rfl) (hsw : swapsWith (.ListComp elt [⟨tg, iter, ifs, 0⟩] scope pos) (some (.Name y py)) spos.line X.env = pure true := by rfl)
    (ok : blkC X.N X.env.scope scope own = true := by rfl) (hcm : X.calm = true := by rfl) (hs : ∀ x, foldedSetIterable iter X.env x = pure x := by exact fun _ => rfl) :
    PS X (.Assign [.Name y py] (.ListComp elt [⟨tg, iter, ifs, 0⟩] scope pos) spos) ((S_.own j (.lcD (own.map (·.2)) p i tt ee)).rd Z W) :=
  have h := lc_in c hb
  ps_asgLk (ps_setLc hcm c.nd hy hyl hsw (pi_keys hi) (blkOk_by ok) (fun s H C cl fp => (h s H C cl fp).1) (fun s H C cl fp => (h s H C cl fp).2.1) (fun s H C cl fp => (h s H C cl fp).2.2) hs)
theorem z_asgLcD {elt iter : Expr} {ifs : List Expr} {scope : Scope} {p : Pt} {tt : Ts} {y : Str} {py spos : Pos} (c : Cxt X Z W n) (j : Nat) (own : List (Str × Nat)) (i : Nat) (hi : PE X iter (tVar i))
    (hb : ∀ (s : Shared) (H : Hp) (C : Addr) (cl : List (Str × Addr)) (fp : List Addr), Cxt (X.blk s H scope (compEnvC scope cl C X.env) fp) Z W0 n → PG (X.blk s H scope (compEnvC scope cl C X.env) fp) tg (p.rd Z.K.K) ∧ PTs (X.blk s H scope (compEnvC scope cl C X.env) fp) ifs (tt.rd Z W0) ∧ PE (X.blk s H scope (compEnvC scope cl C X.env) fp) elt (ee.rd Z W0))
    (hy : X.N[j]? = some y := by rfl) (hyl : X.env.scope.names.lookup y = some .local := by rfl) (hsw : swapsWith (.ListComp elt [⟨tg, iter, ifs, 0⟩] scope pos) (some (.Name y py)) spos.line X.env = pure true := by rfl)
    (ok : blkC X.N X.env.scope scope own = true := by rfl) (hcm : X.calm = true := by rfl) (hs : ∀ x, foldedSetIterable iter X.env x = pure x := by exact fun _ => rfl) :
    PS X (.Assign [.Name y py] (.ListComp elt [⟨tg, iter, ifs, 0⟩] scope pos) spos) ((S_.asg (.nm j) (.mk (.lcD (own.map (·.2)) p i tt ee))).rd Z W) :=
  have h := lc_in c hb
  ps_asgLk (ps_setLc hcm c.nd hy hyl hsw (pi_keys hi) (blkOk_by ok) (fun s H C cl fp => (h s H C cl fp).1) (fun s H C cl fp => (h s H C cl fp).2.1) (fun s H C cl fp => (h s H C cl fp).2.2) hs)
/-- {k: v for key in d} -/
theorem f_dcD {kx vx iter : Expr} {ifs : List Expr} {scope : Scope} {p : Pt} {tt : Ts} (c : Cxt X Z W n) (own : List (Str × Nat)) (i : Nat) (hi : PE X iter (tVar i))
    (hb : ∀ (s : Shared) (H : Hp) (C : Addr) (cl : List (Str × Addr)) (fp : List Addr), Cxt (X.blk s H scope (compEnvC scope cl C X.env) fp) Z W0 n → PG (X.blk s H scope (compEnvC scope cl C X.env) fp) tg (p.rd Z.K.K) ∧ PTs (X.blk s H scope (compEnvC scope cl C X.env) fp) ifs (tt.rd Z W0) ∧ PE (X.blk s H scope (compEnvC scope cl C X.env) fp) kx (ek.rd Z W0) ∧ PE (X.blk s H scope (compEnvC scope cl C X.env) fp) vx (ee.rd Z W0))
    (ok : blkC X.N X.env.scope scope own = true := by rfl) (hcm : X.calm = true := by rfl) (hs : ∀ x, foldedSetIterable iter X.env x = pure x := by exact fun _ => rfl) :
    PE X (.DictComp kx vx [⟨tg, iter, ifs, 0⟩] scope pos) ((M.dcD (own.map (·.2)) p i tt ek ee).rd Z W) :=
  have h := dc_in c hb
  pe_lkE (pe_dcX c.kx c.u9 hcm c.nd (pi_keys hi) (blkOk_by ok) (fun s H C cl fp => (h s H C cl fp).1) (fun s H C cl fp => (h s H C cl fp).2.1) (fun s H C cl fp => (h s H C cl fp).2.2.1) (fun s H C cl fp => (h s H C cl fp).2.2.2) hs)
/-- name = {k: v for key in d} on one line -/
theorem z_ownDcD {kx vx iter : Expr} {ifs : List Expr} {scope : Scope} {p : Pt} {tt : Ts} {y : Str} {py spos : Pos} (c : Cxt X Z W n) (j : Nat) (own : List (Str × Nat)) (i : Nat) (hi : PE X iter (tVar i))
    (hb : ∀ (s : Shared) (H : Hp) (C : Addr) (cl : List (Str × Addr)) (fp : List Addr), Cxt (X.blk s H scope (compEnvC scope cl C X.env) fp) Z W0 n → PG (X.blk s H scope (compEnvC scope cl C X.env) fp) tg (p.rd Z.K.K) ∧ PTs (X.blk s H scope (compEnvC scope cl C X.env) fp) ifs (tt.rd Z W0) ∧ PE (X.blk s H scope (compEnvC scope cl C X.env) fp) kx (ek.rd Z W0) ∧ PE (X.blk s H scope (compEnvC scope cl C X.env) fp) vx (ee.rd Z W0))
    (hy : X.N[j]? = some y := by rfl) (hyl : X.env.scope.names.lookup y = some .local := by rfl) (hsw : swapsWith (.DictComp kx vx [⟨tg, iter, ifs, 0⟩] scope pos) (some (.Name y py)) spos.line X.env = pure true := by rfl)
    (ok : blkC X.N X.env.scope scope own = true := by rfl) (hcm : X.calm = true := by rfl) (hs : ∀ x, foldedSetIterable iter X.env x = pure x := by exact fun _ => rfl) :
    PS X (.Assign [.Name y py] (.DictComp kx vx [⟨tg, iter, ifs, 0⟩] scope pos) spos) ((S_.own j (.dcD (own.map (·.2)) p i tt ek ee)).rd Z W) :=
  ps_asgLk (ps_setDc c.kx c.u9 hcm c.nd hy hyl hsw (pi_keys hi) (blkOk_by ok) (dc_in c hb) hs)
end
/-! items of lists stored -/
section
variable {prog : Program} {w : World} {A : Around} {E : Value → Shared → Prop} {s : Shared}
theorem setItem_listC {l : Addr} {items : Array Value} {n : Nat} {k : Int} {t : Tok} {v : Value} {Q : Unit → Shared → Prop} (ho : s.heap.get? l = some { cls := .type "list", data := .seq items n })
    (h0 : 0 ≤ k) (hfit : k < 2 ^ 63) (hn : k < items.size)
    (hQ : Q () { s with heap := s.heap.update l (Obj.mapSeq (·.setIfInBounds k.toNat v)) }) :
    wpAny (model prog w) A (setItem (.ref l) (.int k t) v) Q E s := by
  have hl : s.heap.IsList l items := PySem.IsL.isList ho
  have hd : ({ cls := .type "list", data := .seq items n } : PySem.Obj).data = .seq items n := rfl
  unfold setItem
  try with_reducible refine wpAny_holding ?_
  first | refine wpAny_bind (wpAny_pure ?_) | skip
  refine wpAny_bind (wpAny_sequenceKey hl.typeIs (by decide) ?_)
  refine wpAny_bind (wpAny_callSpecial?_slot (name := Str.ofString "__setitem__") hl.typeIs F.slot_list_setitem
    (wpAny_call_entry F.slot_list_setitem hl.typeIs F.entry_list_setitem ?_ (args_list_setitem _ _ _)))
  show wpAny _ _ (Builtin.List.listSubscript? (.int k t) >>= _) _ _ s
  refine wpAny_bind (wpAny_listSubscript_int (fitsIndex_of h0 hfit) ?_)
  clear hfit
  obtain ⟨j, rfl⟩ := Int.eq_ofNat_of_zero_le h0
  have hj : j < items.size := by omega
  have hx' : items[j]? = some items[j] := Array.getElem?_eq_getElem hj
  show wpAny _ _ ((seqItemAt l j >>= fun r => pure (r.map (j, ·))) >>= _) _ _ s
  refine wpAny_bind (wpAny_bind (wpAny_seqItemAt ho hd (wpAny_pure ?_)))
  rw [hx']
  show wpAny _ _ (setSeqItemAt l j v >>= _) _ _ s
  refine wpAny_bind (wpAny_setSeqItemAt ho hd ?_)
  first
    | exact wpAny_bind (wpAny_pure (wpAny_pure ⟨.none, rfl, wpAny_pure hQ⟩))
    | exact wpAny_pure ⟨.none, rfl, wpAny_pure hQ⟩
end
section
variable {X : Cx} {Z : Rc} {W : WX} {n : Nat} {P : Pa} {ee ek : E} {e : Expr} {pos q : Pos}
theorem vals_setL : ∀ {vs : List V} {us : List Value} (j : Nat) {v : V} {u : Value}, Vals vs us → RelV v u → Vals (vs.set j v) (us.set j u)
  | [], [], _, _, _, .nil, _ => .nil
  | _ :: _, _ :: _, 0, _, _, .cons _ r, h => .cons h r
  | _ :: _, _ :: _, j + 1, _, _, .cons a r, h => .cons a (vals_setL j r h)
theorem ps_lputX {o i value : Expr} {td ty tv : TE} {pos' : Pos} (ho : PE X o td) (hi : PE X i ty) (hv : PE X value tv) (hs : swapsWith value (some (.Subscript o i pos')) pos.line X.env = pure false) :
    PS X (.Assign [.Subscript o i pos'] value pos) (sLPut td ty tv) := by
  refine ⟨fun pins s σ H D I h => ?_⟩
  refine wpAny_Assign_Subscript (thn (hv.run pins s σ H _ I h) fun r s1 ⟨v, H1, I1, rv, q1⟩ => thn (ho.run pins s1 σ H1 _ I1 q1) fun u s2 ⟨x, H2, I2, rx, q2⟩ => thn (hi.run pins s2 σ H2 _ I2 q2) fun iv s3 ⟨y, H3, I3, ry, g⟩ => ?_) hs
  obtain ⟨p, xs, k, j, rfl, rfl, hH, ⟨h0, hj⟩, q⟩ := g
  cases rx
  obtain ⟨t, rfl⟩ := ry
  obtain ⟨z, its, m, rr, hl, e⟩ := I3.lstM hH
  obtain ⟨_, _, _, hk⟩ := ixN_seq hj
  have hjk : j = k.toNat := by
    unfold ixN at hj
    rw [if_pos h0, if_pos hk] at hj
    exact (Option.some.inj hj).symm
  refine setItem_listC e h0 (by rw [sizeLine_eq] at z; omega) (by rw [List.size_toArray, ← hl]; exact hk) ?_
  refine ⟨σ, _, I3.lset (its' := its.set k.toNat r) (t' := s3.toks) hH e (by simp) (vals_setL _ rr rv) ?_, ?_⟩
  · rw [List.length_set]; exact z
  · rw [← hjk]; exact q
theorem z_lset {k : Expr} (c : Cxt X Z W n) (ho : PE X o (P.rd Z.K)) (hk : PE X k (ek.rd Z W)) (hv : PE X e (ee.rd Z W)) (hs : swapsWith e (some (.Subscript o k q)) pos.line X.env = pure false := by rfl) :
    PS X (.Assign [.Subscript o k q] e pos) ((S_.lset P ek ee).rd Z W) := ps_lputX ho hk hv hs
theorem gk_nil {P : Pa} : PGs X [] (gDks Z P []) := pgs_nil
theorem gk_cons {P : Pa} {o : Expr} {es : List Expr} {x : Str} {l : List Nat} {r : List (List Nat)} {p0 : Nat} {p1 : Pos} (c : Cxt X Z W n) (ho : PE X o (P.rd Z.K)) (h : PGs X es (gDks Z P r)) (hx : S l = x := by rfl)
    (hs : (assignEach (.Subscript o (.Constant (.str x) p0 p1) pos :: es) X.env).map (·.2) = assign (.Subscript o (.Constant (.str x) p0 p1) pos) X.env :: (assignEach es X.env).map (·.2) := by rfl) : PGs X (.Subscript o (.Constant (.str x) p0 p1) pos :: es) (gDks Z P (l :: r)) := by
  subst hx
  refine pgs_cons (pg_sub ho pe_str ?_) h hs
  intro pins s σ H x y v a u w Q I rx ry rv g
  exact D_setItem c.kx c.u9 I rx ry rv g fun H' s4 I4 q => ⟨H', I4, q⟩
theorem g_ks {P : Pa} {k : Nat} {ks : List (List Nat)} {es : List Expr} (c : Cxt X Z W n) (h : PGs X es (gDks Z P ks)) (hn : (assignEach es X.env).length = ks.length := by rfl) (hst : (assignEach es X.env).findIdx? (·.1) = none := by rfl) (hcm : X.calm = true := by rfl) : PG X (.Tuple es k pos) (gTup Z.K.K ks.length (gDks Z P ks)) := by
  rw [c.kx.k]
  exact pg_tup hcm h hn hst
theorem z_asgs {P : Pa} {ks : List (List Nat)} {tg : Expr} (he : PE X e (ee.rd Z W)) (hg : PG X tg (gTup Z.K.K ks.length (gDks Z P ks))) (hs : swapsWithSole [tg] e pos.line X.env = pure false := by rfl) (hw : swappedStores [tg] e X.env = pure none := by rfl)
    (h1 : (assignEach [tg] X.env).map (·.2) = [assign tg X.env] := by rfl) : PS X (.Assign [tg] e pos) ((S_.asgs P ks ee).rd Z W) := ps_asg he hg hs hw h1
end
end Mq
/-! A small language over HandS: sorted(x, key=f), the rule. -/
namespace Mq
open PySem L2 Evl PyProof.Rows
section
variable {X : Cx} {Z : Rc} {W : WX} {n : Nat} {md : Modu}
theorem sk_callOk {f : Addr} {fd : FuncData} {ps : List Str} {i : Nat} {A2 : Around} (hA : A2 = X.A.in1.in1) (F : FnOk X.prog X.w X.K X.mg X.base (L2.CX X.prog X.w) (n + 1) f fd ps (spC Z.lo i)) (hr : Room (n + 2) X.A) (hb : Binds X.K fd ps []) :
    SkCall X A2 (.ref f) (fun vs H Q => spC Z.lo i vs H Q fun _ _ _ => False) := by
  subst hA
  intro pins σ H s v u Q I r h
  have hr2 : Room (n + 1) X.A.in1.in1 := ⟨hr.hd, by have := hr.dp; show X.A.depth + 3 * (n + 1) + 5 < _; omega, by have := hr.un; show X.A.units + 1 + 1 + 16 * (n + 1) + 200 < _; omega⟩
  have r2 : Vals [v] [u] := .cons r .nil
  have hl : ([u] : List Value).length = ps.length := by rw [← r2.length]; exact F.len _ _ _ _ h
  have hl2 : ([u] ++ [] : List Value).length = ps.length := hl
  refine wpAny_call (codeAny_mono (F.run X.A.in1.in1 X.stack s H ⟨[u], []⟩ [u] [v] Q (fun _ _ _ => False) hr2 I.env0.in1.in1 (by have := hb s [u] I.kIn hl2; rwa [List.append_nil] at this) r2 h) fun r s' hq => ?_)
  cases r with
  | error e =>
    obtain ⟨_, _, _, _, _, _, _, _, _, _, _, _, z⟩ := hq
    exact z.elim
  | ok fl =>
    cases fl with
    | ret u => exact I.after hq
    | next => exact False.elim hq
    | brk => exact False.elim hq
    | cont => exact False.elim hq
def rSkw (Z : Rc) (i : Nat) : List V → List V → Hp → VK → Prop := fun vs _ H Q => match vs with
  | [x] => ∃ us, SkSrc Z.K H x us ∧ SkRun (fun vs H Q => spC Z.lo i vs H Q fun _ _ _ => False) us H (SkEnd Z.K.K us fun out H2 => ∀ p, H2 p = none → Q (.ref p) (upd H2 p (.lst out)))
  | _ => False
theorem skw_ok (c : Cxt X Z W n) (mf : Mf X Z n md) {i : Nat} (cb : CbL X Z n x i) {pins : List (Addr × Obj)} {s : Shared} {σ : L2.St} {H : Hp} {xs : List V} {us : List Value} {Q : VK} (I : Inv X pins σ H s) (r1 : Vals xs us) (h : rSkw Z i xs zs H Q) :
    wpAny (model X.prog X.w) X.A (call (.builtin "sorted") us [(Str.ofString "key", .ref (Z.K.fa i))]) (EP X pins σ Q) X.xe s := by
  obtain ⟨fd, ps, F, hb⟩ := cb.ex
  have hr := mf.r
  match xs, r1, h with
  | [x], .cons rx .nil, ⟨us, h1, h2⟩ =>
    exact sk_src (D := fun out H2 => ∀ p, H2 p = none → Q (.ref p) (upd H2 p (.lst out))) (sk_callOk rfl F hr hb) hr.hd c.kx I h1 rx (by rw [← c.kx.k]; exact h2) (by have := hr.un; show X.A.units + 1 + 1 + 64 < _; omega) fun out H' p h3 h4 => h4 p h3
/-- sorted(e, key=f) -/
theorem f_srtk {e : Expr} {ee : E} {x : Str} {p pos kp kpos : Pos} (c : Cxt X Z W n) (m : Md X Z cons blts) (mf : Mf X Z n md) (i k : Nat) (ha : PE X e (ee.rd Z W)) (hi : md.fns[i]? = some x := by rfl) (hk : blts[k]? = some "sorted" := by rfl) (hg : Gl X "sorted" := by rfl) (hx : x ≠ "" := by decide) (hgx : Gl X x := by rfl) (hd : (x == ("__debug__" : Str)) = false := by decide)
    (hs : starEach [e] X.env = [(false, eval e X.env)] := by rfl) :
    PE X (.Call (.Name "sorted" p) [e] [⟨some "key", .Name x kp, kpos⟩] pos) ((M.srtk i ee).rd Z W) := by
  refine ⟨fun pins s σ H Q I h => ?_⟩
  have hk2 := pk_cons (nm := some "key") (kpos := kpos) (d_fn (pos := kp) (Z := Z) (W := W) mf i hi hx hgx hd) pk_nil
  refine wpAny_Call_Name_kw (ld_blt I hg (m.b k _ hk) rfl ?_ (by decide) (by decide))
  refine PyProof.Rows.callWith_kw (thn ((pa_cons ha pa_nil hs).run pos pins s σ H (fun vs H1 => rSkw Z i vs [] H1 Q) I h) fun us s1 ⟨vs, H1, I1, r1, q1⟩ => thn (hk2.run pos pins s1 σ H1 (fun zs H2 => zs = [.ref (Z.K.fa i)] ∧ rSkw Z i vs [] H2 Q) I1 ⟨rfl, q1⟩) fun ws s2 ⟨zs, H2, I2, r2, ez, q2⟩ => ?_) (by rw [hs]; rfl) (by rw [hs]; rfl) rfl rfl
  subst ez
  obtain ⟨w, rfl⟩ : ∃ w, ws = [w] := by cases r2 with | cons a b => cases b; exact ⟨_, rfl⟩
  cases r2 with
  | cons a b =>
    obtain rfl : w = .ref (Z.K.fa i) := a
    exact skw_ok c mf (mf.fl i x hi hx) I2 r1 q2
end
end Mq
/-! A small language over HandS: d.setdefault(k, ..).append(v), d.setdefault(k, {})[k2] = v. -/
namespace Mq
open PySem L2 Evl PyProof.Rows
section
variable {X : Cx} {K : Kx}
theorem mt_sd (kx : KX K X) (hu : X.A.units + 9 < cLine) : MtR X "dict.setdefault" (rSd K) := by
  intro pins s σ H x xs v us Q I rx r h
  obtain ⟨y, z, rfl, h⟩ := h
  obtain ⟨u1, u2, rfl, r1, r2⟩ := vals2 r
  rcases h with ⟨v0, ⟨p, ks, kr, vs, kd, rfl, h1, h2, h3, h4, h5⟩, q⟩ | ⟨p, ks, kr, vs, kd, rfl, h1, h2, h3, h4, hn, hz, h5⟩
  · cases rx
    rcases dkOk_or h4 with ⟨c1, c2⟩ | ⟨c1, c2⟩
    · obtain ⟨kv, d1, d2, d3, d4⟩ := dictV h1 c2
      obtain ⟨k, f1, f2, f3⟩ := flat_key (X := X) c1 h3 r1
      obtain ⟨hz, hd, vs', rel, dd⟩ := dk_rd I.hok d1
      have hv := rel.val k
      rw [valV_ixk d2 f1, ← d4, ← h5] at hv
      refine call_meetsIn PySem.F.slot_dict_setdefault dd.typeIs PySem.F.entry_dict_setdefault (PySem.F.args_dict_setdefault_3 _ _ _) (kt_meets_setdefault (mixKind X.prog X.w) p f3 hd u2) ⟨vs', dd, by rw [← rel.length]; exact hz, fun w hw => ?_, fun hw => ?_⟩
      · rw [hw] at hv
        exact ⟨v0, H, I.tok _, hv, q⟩
      · rw [hw] at hv
        exact (show False from hv).elim
    · obtain ⟨xs, d1, d2, d3, d4, d5, d6, d7⟩ := dictT kx I h1 h2 c2
      obtain ⟨k, b, f1, rfl, rfl, f3⟩ := key_is kx I c1 h3 r1
      have e := atKey_ixk d2 f1
      have r := relO_of d4 (o := ixk ks kd)
      rw [← h5, ← e] at r
      obtain ⟨w', hw, rw'⟩ := RelO.some_of r
      obtain ⟨q', hq, rfl⟩ := Option.map_eq_some_iff.mp hw
      refine call_setdefault_heap (hsz := d5) (show X.A.units + 1 + 8 < cLine by omega) f3 d6 d1 (fun p' hp' => ?_) fun hn => ?_
      · rw [hq] at hp'
        cases hp'
        exact ⟨v0, H, I.tok _, rw', q⟩
      · rw [hq] at hn
        cases hn
  · cases rx
    rcases dkOk_or h4 with ⟨c1, c2⟩ | ⟨c1, c2⟩
    · obtain ⟨kv, d1, d2, d3, d4⟩ := dictF h1 c2
      obtain ⟨k, f1, f2, f3⟩ := flat_key (X := X) c1 h3 r1
      have hl : kv.length = ks.length := by simpa using (congrArg List.length d2).symm
      have hv := valV_ixk d2 f1
      rw [hn, Option.bind_none] at hv
      refine d_setd I d1 (f2 ▸ r1) r2 (by omega) (fun v hv' => by rw [hv] at hv'; cases hv') fun _ w' s' I' rw' => ⟨z, _, I', rw', h5 _ ?_⟩
      rw [d3, d4, f2]
      exact dcF_put (dk_nodup I d1).1 d2 f1 rfl
    · obtain ⟨xs, d1, d2, d3, d4, d5, d6, d7⟩ := dictT kx I h1.v h2 c2
      obtain ⟨k, b, f1, rfl, rfl, f3⟩ := key_is kx I c1 h3 r1
      have hl : xs.length = ks.length := by simpa using (congrArg List.length d2).symm
      have e := atKey_ixk d2 f1
      rw [hn, Option.bind_none] at e
      refine call_setdefault_heap (hsz := d5) (show X.A.units + 1 + 8 < cLine by omega) f3 d6 d1 (fun p' hp' => ?_) fun _ h' dd' hs => ?_
      · rw [hp'] at e
        cases e
      · refine ⟨z, _, dx_write kx I (dc_mut h1) d6 (Nat.le_trans stored_len (by omega)) dd' hs, r2, h5 _ ?_⟩
        rw [d3]
        exact dcT_put d1.nodup d2 c2 c1 f1 d4 r2 d7 f3.2 rfl
end
section
variable {X : Cx} {Z : Rc} {W : WX} {n : Nat}
/-- d.setdefault(k, []).append(e) -/
theorem z_sdapp {d k e : Expr} {ek ee : E} {apos cpos a2 c2 lp pos : Pos} (c : Cxt X Z W n) (i : Nat) (hd : PE X d (tVar i)) (hk : PE X k (ek.rd Z W)) (he : PE X e (ee.rd Z W))
    (hs0 : swapsWith (.Call (.Attribute (.Call (.Attribute d "setdefault" apos) [k, .List [] lp] [] cpos) "append" a2) [e] [] c2) none pos.line X.env = pure false := by rfl)
    (hb1 : attributeBase d "setdefault" X.env (eval d X.env) = eval d X.env := by rfl)
    (hf1 : ((backTo cpos (starEach [k, .List [] lp] X.env)).all (fun x => !x.1) && (backToKw cpos (keywordEach [] X.env)).all (fun x => x.1.isSome)
      && decide ([k, .List [] lp].length + ([] : List Keyword).length + (if ([] : List Keyword).isEmpty then 0 else 1) < 30)) = true := by rfl)
    (hl1 : (apos.endLine == cpos.line) = true := by rfl) (hs1 : starEach [k, .List [] lp] X.env = (false, eval k X.env) :: starEach [.List [] lp] X.env := by rfl) (hp1 : (backTo cpos (starEach [.List [] lp] X.env)).any (·.1) = false := by rfl)
    (hs2 : starEach [.List [] lp] X.env = (false, eval (.List [] lp) X.env) :: starEach [] X.env := by rfl)
    (hb : attributeBase (.Call (.Attribute d "setdefault" apos) [k, .List [] lp] [] cpos) "append" X.env (eval (.Call (.Attribute d "setdefault" apos) [k, .List [] lp] [] cpos) X.env) = eval (.Call (.Attribute d "setdefault" apos) [k, .List [] lp] [] cpos) X.env := by rfl)
    (hf : ((backTo c2 (starEach [e] X.env)).all (fun x => !x.1) && (backToKw c2 (keywordEach [] X.env)).all (fun x => x.1.isSome)
      && decide ([e].length + ([] : List Keyword).length + (if ([] : List Keyword).isEmpty then 0 else 1) < 30)) = true := by rfl)
    (hl : (a2.endLine == c2.line) = true := by rfl) (hs : starEach [e] X.env = (false, eval e X.env) :: starEach [] X.env := by rfl) (hp : (backTo c2 (starEach [] X.env)).any (·.1) = false := by rfl) :
    PS X (.Expr (.Call (.Attribute (.Call (.Attribute d "setdefault" apos) [k, .List [] lp] [] cpos) "append" a2) [e] [] c2) pos) ((S_.sdapp i ek ee).rd Z W) :=
  ps_expr (pe_bmX c.kx PySem.F.plainAttrs_list PySem.F.slot_list_append PySem.F.type_list_append mt_append
    (pe_bmX c.kx PySem.F.plainAttrs_dict PySem.F.slot_dict_setdefault PySem.F.type_dict_setdefault (mt_sd c.kx c.u9) hd (pa_cons hk (pa_cons (pe_lst pa_nil) pa_nil hs2) hs1) hb1 hf1 hl1 hs1 hp1)
    (pa_cons he pa_nil hs) hb hf hl hs hp) hs0
/-- d.setdefault(k, {})[k2] = e -/
theorem z_sdset {d k k2 e : Expr} {ek ek2 ee : E} {apos cpos lp q pos : Pos} (c : Cxt X Z W n) (i : Nat) (hd : PE X d (tVar i)) (hk : PE X k (ek.rd Z W)) (hk2 : PE X k2 (ek2.rd Z W)) (he : PE X e (ee.rd Z W))
    (hb1 : attributeBase d "setdefault" X.env (eval d X.env) = eval d X.env := by rfl)
    (hf1 : ((backTo cpos (starEach [k, .Dict [] [] lp] X.env)).all (fun x => !x.1) && (backToKw cpos (keywordEach [] X.env)).all (fun x => x.1.isSome)
      && decide ([k, .Dict [] [] lp].length + ([] : List Keyword).length + (if ([] : List Keyword).isEmpty then 0 else 1) < 30)) = true := by rfl)
    (hl1 : (apos.endLine == cpos.line) = true := by rfl) (hs1 : starEach [k, .Dict [] [] lp] X.env = (false, eval k X.env) :: starEach [.Dict [] [] lp] X.env := by rfl) (hp1 : (backTo cpos (starEach [.Dict [] [] lp] X.env)).any (·.1) = false := by rfl)
    (hs2 : starEach [.Dict [] [] lp] X.env = (false, eval (.Dict [] [] lp) X.env) :: starEach [] X.env := by rfl)
    (hs : swapsWith e (some (.Subscript (.Call (.Attribute d "setdefault" apos) [k, .Dict [] [] lp] [] cpos) k2 q)) pos.line X.env = pure false := by rfl) :
    PS X (.Assign [.Subscript (.Call (.Attribute d "setdefault" apos) [k, .Dict [] [] lp] [] cpos) k2 q] e pos) ((S_.sdset i ek ek2 ee).rd Z W) :=
  ps_dputX c.kx c.u9 (pe_bmX c.kx PySem.F.plainAttrs_dict PySem.F.slot_dict_setdefault PySem.F.type_dict_setdefault (mt_sd c.kx c.u9) hd (pa_cons hk (pa_cons pe_dnewK pa_nil hs2) hs1) hb1 hf1 hl1 hs1 hp1) hk2 he hs
end
end Mq
/-! A small language over HandS, 23: a module of defs. -/
namespace Mq
open PySem L2 Evl PyProof.Rows
open SX (S S_len S_cat S_inj)
/-! ### constants of the module -/
def gvK (K : PySem.W.Frag) (x : Str) : V := match PySem.W.nsIn K mainGlobals x with
  | some (some u) => (absV u).getD .non
  | _ => .non
def ConOk (K : Kx) (x : Str) (d : D) : Prop := ∃ u, PySem.W.nsIn K.K mainGlobals x = some (some u) ∧ RelV (gvK K.K x) u ∧ ∀ G, Rp K G d (gvK K.K x)
theorem absDs_ok : ∀ {us : List Value} {ds : List D}, us.map absD = ds.map some → ∃ vs, Vals vs us ∧ ∀ (K : Kx) G, Rps K G ds vs
  | [], [], _ => ⟨[], .nil, fun _ _ => rfl⟩
  | u :: us, d :: ds, h => by
    injection h with h1 h2
    obtain ⟨v, _, r, p⟩ := absD_ok h1
    obtain ⟨vs, rs, ps⟩ := absDs_ok h2
    exact ⟨v :: vs, .cons r rs, fun K G => ⟨v, vs, rfl, p K G, ps K G⟩⟩
  | [], _ :: _, h => by cases h
  | _ :: _, [], h => by cases h
theorem con_flat {K : Kx} {x : Str} {u : Value} {d : D} (a : PySem.W.nsIn K.K mainGlobals x = some (some u)) (h : absD u = some d) : ConOk K x d := by
  obtain ⟨v, e, r, p⟩ := absD_ok h
  have q : gvK K.K x = v := by unfold gvK; rw [a]; show (absV u).getD .non = v; rw [e]; rfl
  exact ⟨u, a, q ▸ r, fun G => q ▸ p K G⟩
theorem con_tup {K : Kx} {x : Str} {p : Addr} {its : Array Value} {n : Nat} {sl : Array (Option Value)} {ds : List D} (a : PySem.W.nsIn K.K mainGlobals x = some (some (.ref p)))
    (l : K.K.lookup p = some ⟨.type "tuple", none, .seq its n, sl⟩) (hs : its.size ≤ sizeLine) (h : its.toList.map absD = ds.map some) : ConOk K x (.tup ds) := by
  have q : gvK K.K x = .ref p := by unfold gvK; rw [a]; rfl
  obtain ⟨vs, rs, ps⟩ := absDs_ok h
  exact ⟨.ref p, a, q ▸ rfl, fun G => q ▸ ⟨p, vs, rfl, .inr ⟨_, its, n, l, rfl, rfl, rfl, hs, rs⟩, ps K G⟩⟩
/-! ### the table -/
/-- a property of each of a list, by its place -/
def AllI {α : Type} (P : Nat → α → Prop) : Nat → List α → Prop
  | _, [] => True
  | i, a :: r => P i a ∧ AllI P (i + 1) r
theorem AllI.get' {α : Type} {P : Nat → α → Prop} : ∀ {l : List α} {k i : Nat} {a : α}, AllI P k l → l[i]? = some a → P (k + i) a
  | [], _, _, _, _, e => by cases e
  | b :: r, k, 0, a, h, e => by cases e; exact h.1
  | b :: r, k, i + 1, a, h, e => by
    have := AllI.get' (i := i) h.2 e
    rw [Nat.add_assoc, Nat.add_comm 1 i] at this
    exact this
theorem AllI.get {α : Type} {P : Nat → α → Prop} {l : List α} {i : Nat} {a : α} (h : AllI P 0 l) (e : l[i]? = some a) : P i a := by
  have := h.get' e
  rw [Nat.zero_add] at this
  exact this
def clsK (K : PySem.W.Frag) (x : Str) : Addr := match PySem.W.nsIn K mainGlobals x with
  | some (some (.ref a)) => a
  | _ => default
def methK (K : PySem.W.Frag) (C : Addr) (x : Str) : Addr := match PySem.W.findIn K (.ref C) x with
  | some (some (.ref a)) => a
  | _ => default
def Modu.fa (m : Modu) (K : PySem.W.Frag) (i : Nat) : Addr := match m.org[i]? with
  | some (.inl x) => clsK K x
  | some (.inr q) => methK K (clsK K q.1) q.2
  | none => default
def Modu.ca (m : Modu) (K : PySem.W.Frag) (i : Nat) : Addr := clsK K (m.clss[i]?.getD "")
def Modu.fl (m : Modu) (i : Nat) : Str := m.flds[i]?.getD ""
def Modu.mn (m : Modu) (i : Nat) : Str := m.mths[i]?.getD ""
def Modu.kx (m : Modu) (P : Program) (w : World) (K : PySem.W.Frag) : Kx := { K := K, P := P, w := w, ca := m.ca K, fa := m.fa K, fl := m.fl, hf := m.hf }
def Modu.pg (m : Modu) (P : Program) (w : World) (K : PySem.W.Frag) : Pg where
  K := m.kx P w K
  md := m
  gv := fun i => gvK K (m.cons[i]?.getD "")
  mn := m.mn
/-- one class asked of another -/
structure SubOk (K : PySem.W.Frag) (C D : Addr) (b : Bool) : Prop where
  x : PySem.W.exmOne K (.ref C) (.ref D) = some b
  k : PySem.W.kitOne K (.ref C) (.ref D) = some b
theorem sub_mk {K : PySem.W.Frag} {C D : Addr} {b : Bool} (h1 : PySem.W.subIn K (.ref D) (.type "BaseException") = some true) (hd : PySem.W.hasDictIn K D = true) (ht : PySem.W.typeIn K (.ref D) = some (.type "type")) (hself : PySem.W.subIn K (.ref C) (.ref C) = some true) (h : PySem.W.subIn K (.ref C) (.ref D) = some b) : SubOk K C D b := by
  refine ⟨PySem.W.exm_ref h1 hd ht h, ?_⟩
  obtain ⟨cd, hc, _⟩ := PySem.W.any_some hd
  unfold PySem.W.kitOne
  by_cases z : (Value.ref C == Value.ref D) = true
  · rw [if_pos z]
    have e : C = D := Value.ref.inj (beq_iff_eq.mp z)
    subst e
    rw [hself] at h
    exact h
  · rw [if_neg z]
    show (if ((PySem.W.clsIn K D).isSome && PySem.W.typeIn K (.ref D) == some (.type "type")) = true then PySem.W.subIn K (.ref C) (.ref D) else none) = some b
    rw [hc, ht, h]
    rfl
/-- the default values that calls of a def lean on -/
def Modu.dfl (m : Modu) (i : Nat) : List (List D) := (m.dfs.filter fun q => q.1 == i).map (·.2) ++ (m.dms.filter fun q => (List.range m.mtab.length).any fun c => m.mt c q.1 == some i).map (·.2)
theorem dfl_f {m : Modu} {j i : Nat} {ds : List D} (h : m.dfs[j]? = some (i, ds)) : ds ∈ m.dfl i := by
  refine List.mem_append_left _ (List.mem_map.mpr ⟨(i, ds), List.mem_filter.mpr ⟨List.mem_of_getElem? h, ?_⟩, rfl⟩)
  exact beq_self_eq_true i
theorem dfl_m {m : Modu} {j k c i : Nat} {ds : List D} (h : m.dms[j]? = some (k, ds)) (h2 : m.mt c k = some i) : ds ∈ m.dfl i := by
  refine List.mem_append_right _ (List.mem_map.mpr ⟨(k, ds), List.mem_filter.mpr ⟨List.mem_of_getElem? h, ?_⟩, rfl⟩)
  refine List.any_eq_true.mpr ⟨c, List.mem_range.mpr ?_, ?_⟩
  · have h3 := h2
    unfold Modu.mt at h3
    cases q : m.mtab[c]? with
    | none => rw [q] at h3; cases h3
    | some r => exact (List.getElem?_eq_some_iff.mp q).1
  · show (m.mt c k == some i) = true
    rw [h2]
    exact beq_self_eq_true _
section
variable {P : Program} {w : World} {K : PySem.W.Frag} {mg : Str → Option Value} {base : Heap} {m : Modu}
/-- what is to be shown of a def: its text, its scope, its code's derivation -/
structure DefOk (P : Program) (w : World) (K : PySem.W.Frag) (mg : Str → Option Value) (base : Heap) (m : Modu) (i : Nat) (x q : Str) (fn : Fn) (fd : FuncData) (dvs : List V) (N ps : List Str) (st : Stmt) : Prop where
  F : FunD K x q (defArgs st) (defBody st) (defScope st) dvs [] (m.fa K i) fd
  b : Binds K fd ps []
  bd : ∀ ds ∈ m.dfl i, ∃ us, Vals (ds.map vD) us ∧ Binds K fd ps us
  S : FnScope N ps (defScope st)
  n : N.length = fn.n
  p : ps.length = fn.ps
  body : ∀ (k : Nat) (cdv : Value) (A : Around) (outer : List Env) (s : Shared) (H : Hp) (E : XK),
    Cxt (cxOf (L2.CX P w) P w K mg base N q (defScope st) (m.fa K i) cdv A outer s H E) ((m.pg P w K).rc k) (fun cls d _ H => E cls d H) k →
    Md (cxOf (L2.CX P w) P w K mg base N q (defScope st) (m.fa K i) cdv A outer s H E) ((m.pg P w K).rc k) m.cons m.blts →
    Mf (cxOf (L2.CX P w) P w K mg base N q (defScope st) (m.fa K i) cdv A outer s H E) ((m.pg P w K).rc k) k m →
    Me (cxOf (L2.CX P w) P w K mg base N q (defScope st) (m.fa K i) cdv A outer s H E) ((m.pg P w K).rc k) m.clss m.efs →
    Mr (cxOf (L2.CX P w) P w K mg base N q (defScope st) (m.fa K i) cdv A outer s H E) ((m.pg P w K).rc k) →
    PSs (cxOf (L2.CX P w) P w K mg base N q (defScope st) (m.fa K i) cdv A outer s H E) (defBody st) (fn.body.rd ((m.pg P w K).rc k) (fun cls d _ H => E cls d H))
structure ModOk (P : Program) (w : World) (K : PySem.W.Frag) (mg : Str → Option Value) (base : Heap) (m : Modu) : Prop where
  f : ∀ (i : Nat) (fn : Fn), m.code[i]? = some fn → ∃ x q fd dvs N ps st, DefOk P w K mg base m i x q fn fd dvs N ps st
  g : ∀ (i : Nat) (x : Str), m.fns[i]? = some x → x ≠ "" → mg x = some (.ref (m.fa K i)) ∧ ∃ fn, m.code[i]? = some fn
  c : ∀ (i : Nat) (x : Str), m.cons[i]? = some x → ∃ u, mg x = some u ∧ RelV (gvK K x) u
  d : ∀ (i : Nat) (d : D), m.vals[i]? = some d → ∀ G, Rp (m.kx P w K) G d (gvK K (m.cons[i]?.getD ""))
  b : ∀ (i : Nat) (x : Str), m.blts[i]? = some x → mg x = none
  e : ∀ (i : Nat) (x : Str), m.clss[i]? = some x → mg x = some (.ref (clsK K x))
  fN : m.flds.Nodup
  fH : ∀ c f, m.hf c f = true → f < m.flds.length
  fM : ∀ x ∈ m.flds, x ≠ "" ∧ x ∉ m.mths
  cf : ∀ c f, m.hf c f = true → Cls K (m.ca K c) ∧ NoAttr K (m.ca K c) (m.fl f)
  mt : ∀ c k f, m.mt c k = some f → Cls K (m.ca K c) ∧ Meth K (m.ca K c) (m.mn k) (m.fa K f) ∧ ∃ fn, m.code[f]? = some fn
  ini : ∀ c f, m.ini c = some f → L2.Mk K (m.ca K c) (m.fa K f) ∧ ∃ fn, m.code[f]? = some fn
  dv : m.dvs.all (fun p => p.2.all flat) = true
  dg : ∀ (i : Nat) (x : Str), m.dcts[i]? = some x → ∃ d ks ds, mg x = some (.ref d) ∧ m.dvs[i]? = some (ks, ds) ∧ GdOk K w d ks ds
  er : ∀ y ns, m.mk_ y = some ns → ExcC K (m.ca K y) ∧ (ns.map m.fl).Nodup ∧ (∀ n ∈ ns, PySem.W.findIn K (.ref (m.ca K y)) (m.fl n) = some none) ∧ ∀ n ∈ m.efs, PySem.W.findIn K (.ref (m.ca K y)) (m.fl n) = some none
  er2 : ∀ y k1 k2, m.mk_ y = some [k1, k2] → OexC K (m.ca K y) ∧ ∃ (fI : Addr) (fd : FuncData) (ps : List Str), PySem.W.findIn K (.ref (m.ca K y)) "__init__" = some (some (.ref fI)) ∧ PySem.W.typeIn K (.ref fI) = some (.type "function") ∧
    FnOk P w K mg base (L2.CX P w) 1 fI fd ps (spXI K (m.fl k1) (m.fl k2)) ∧ Binds K fd ps []
  er1 : ∀ y k1, m.mk_ y = some [k1] → OexC K (m.ca K y) ∧ ∃ (fI : Addr) (fd : FuncData) (ps : List Str), PySem.W.findIn K (.ref (m.ca K y)) "__init__" = some (some (.ref fI)) ∧ PySem.W.typeIn K (.ref fI) = some (.type "function") ∧
    FnOk P w K mg base (L2.CX P w) 1 fI fd ps (spXJ K (m.fl k1)) ∧ Binds K fd ps []
  s : ∀ (i j : Nat) (b : Bool), m.sub i j = some b → SubOk K (m.ca K i) (m.ca K j) b
  er0 : ∀ y, m.mk_ y = some [] → PySem.W.excIn K (m.ca K y) veB "ValueError.__new__" = true ∧ PySem.W.keepIn K (.ref (m.ca K y)) = true ∧ PySem.W.subIn K (.ref (m.ca K y)) (.type "BaseException") = some true ∧ PySem.W.typeIn K (.ref (m.ca K y)) = some (.type "type")
theorem fl_inj (hN : m.flds.Nodup) {f g : Nat} (hf : f < m.flds.length) (hg : g < m.flds.length) (e : m.fl f = m.fl g) : f = g := by
  unfold Modu.fl at e
  rw [List.getElem?_eq_getElem hf, List.getElem?_eq_getElem hg] at e
  have e : m.flds[f] = m.flds[g] := e
  have hp := List.pairwise_iff_getElem.mp hN
  rcases Nat.lt_trichotomy f g with z | z | z
  · exact absurd e (hp f g hf hg z)
  · exact z
  · exact absurd e.symm (hp g f hg hf z)
theorem ModOk.good (M : ModOk P w K mg base m) : (m.pg P w K).Good := by
  refine ⟨⟨fun c f g hf hg e => fl_inj M.fN (M.fH c f hf) (M.fH c g hg) e⟩, fun i d h => M.d i d h, fun x ks ds h => ?_, rfl, M.cf, fun c k f n h1 h2 e => ?_, fun y ns h => ?_, fun i j b h => ?_⟩
  · have h : m.dvs[x]? = some (ks, ds) := h
    exact fun d hd => List.all_eq_true.mp (List.all_eq_true.mp M.dv (ks, ds) (List.mem_of_getElem? h)) d hd
  · have e : m.fl n = m.mn k := e
    have hn := M.fH c n h2
    obtain ⟨z1, z2⟩ := M.fM (m.fl n) (by unfold Modu.fl; rw [List.getElem?_eq_getElem hn]; exact List.getElem_mem hn)
    unfold Modu.mn at e
    cases q : m.mths[k]? with
    | none => rw [q] at e; exact z1 e
    | some x =>
      rw [q] at e
      exact z2 (e ▸ List.mem_of_getElem? q)
  · obtain ⟨h1, h2, h3, _⟩ := M.er y ns h
    exact ⟨h2, h3, h1⟩
  · have q := M.s i j b h
    exact ⟨q.x, q.k⟩
/-- all defs at one level -/
def Lv_ (P : Program) (w : World) (K : PySem.W.Frag) (mg : Str → Option Value) (base : Heap) (m : Modu) (k : Nat) : Prop := ∀ (i : Nat) (fn : Fn), m.code[i]? = some fn → ∃ (fd : FuncData) (ps : List Str), FnOk P w K mg base (L2.CX P w) (k + 2) (m.fa K i) fd ps (spC ((m.pg P w K).rc k) i) ∧ PySem.W.keepIn K (.ref (m.fa K i)) = true ∧ Binds K fd ps [] ∧ ∀ ds ∈ m.dfl i, ∃ us, Vals (ds.map vD) us ∧ Binds K fd ps us
/-- all defs one level below -/
def LvL (P : Program) (w : World) (K : PySem.W.Frag) (mg : Str → Option Value) (base : Heap) (m : Modu) (k : Nat) : Prop := ∀ (i : Nat) (fn : Fn), m.code[i]? = some fn → ∃ (fd : FuncData) (ps : List Str), FnOk P w K mg base (L2.CX P w) (k + 1) (m.fa K i) fd ps (spC ((m.pg P w K).rc k).lo i) ∧ PySem.W.keepIn K (.ref (m.fa K i)) = true ∧ Binds K fd ps [] ∧ ∀ ds ∈ m.dfl i, ∃ us, Vals (ds.map vD) us ∧ Binds K fd ps us
theorem DefOk.up (M : ModOk P w K mg base m) {k i : Nat} {x q : Str} {fn : Fn} {fd : FuncData} {dvs : List V} {N ps : List Str} {st : Stmt} (D : DefOk P w K mg base m i x q fn fd dvs N ps st) (hi : m.code[i]? = some fn)
    (ih : Lv_ P w K mg base m k) (il : LvL P w K mg base m k) : FnOk P w K mg base (L2.CX P w) (k + 2 + 1) (m.fa K i) fd ps (spC ((m.pg P w K).rc (k + 1)) i) := by
  refine fn_up (p := m.pg P w K) (i := i) M.good D.F D.S hi D.n D.p fun cdv A outer s H E hr => ?_
  refine D.body k cdv A outer s H E ⟨⟨rfl, rfl, rfl⟩, D.S.nd, room_u hr, takes_of rfl rfl rfl rfl, passes_of rfl⟩ ⟨fun i x e => ?_, M.b⟩ ⟨hr, fun i x e hx => ?_, fun j i x ds e1 e hx => ?_, fun c k' f h => ?_, fun j k' ds e c f h => ?_, fun i x e hx => ?_, fun c f h => ?_, fun c f x h e => ?_, fun i x e => M.dg i x e⟩ ⟨fun i x e => ?_, fun y ns h => ?_, fun y ns h k' hk => ?_⟩ ⟨fun y k1 k2 h => ?_, fun y k1 h => ?_, fun y h => ⟨h, (M.er0 y h).1, (M.er0 y h).2.1, (M.er0 y h).2.2.1, (M.er0 y h).2.2.2⟩⟩
  · obtain ⟨u, h1, h2⟩ := M.c i x e
    refine ⟨u, h1, ?_⟩
    show RelV (gvK K (m.cons[i]?.getD "")) u
    rw [e]
    exact h2
  · obtain ⟨h1, fn', h2⟩ := M.g i x e hx
    obtain ⟨fd, ps, F, kp, b, _⟩ := ih i fn' h2
    exact ⟨⟨fd, ps, [], F, .nil, b⟩, hr.mono (by omega), h1, kp⟩
  · obtain ⟨h1, fn', h2⟩ := M.g i x e hx
    obtain ⟨fd, ps, F, kp, _, b⟩ := ih i fn' h2
    obtain ⟨us, b1, b2⟩ := b ds (dfl_f e1)
    exact ⟨⟨fd, ps, us, F, b1, b2⟩, hr.mono (by omega), h1, kp⟩
  · obtain ⟨h1, h2, fn', h3⟩ := M.mt c k' f h
    obtain ⟨fd, ps, F, kp, b, _⟩ := ih f fn' h3
    exact ⟨h1, h2, fd, ps, [], F, .nil, b⟩
  · obtain ⟨h1, h2, fn', h3⟩ := M.mt c k' f h
    obtain ⟨fd, ps, F, kp, _, b⟩ := ih f fn' h3
    obtain ⟨us, b1, b2⟩ := b ds (dfl_m e h)
    exact ⟨h1, h2, fd, ps, us, F, b1, b2⟩
  · obtain ⟨h1, fn', h2⟩ := M.g i x e hx
    obtain ⟨fd, ps, F, kp, b, _⟩ := il i fn' h2
    exact ⟨fd, ps, F, b⟩
  · obtain ⟨h1, fn', h3⟩ := M.ini c f h
    obtain ⟨fd, ps, F, kp, b, _⟩ := il f fn' h3
    exact ⟨h, h1, fd, ps, [], F, .nil, b⟩
  · have := M.e c x e
    show mg x = some (.ref (clsK K (m.clss[c]?.getD "")))
    rw [e]
    exact this
  · have := M.e i x e
    show mg x = some (.ref (clsK K (m.clss[i]?.getD "")))
    rw [e]
    exact this
  · have h1 := (M.er y ns h).1
    exact ⟨h1.hg, h1.hk, h1.hs, h1.hd⟩
  · exact (M.er y ns h).2.2.2 k' hk
  · obtain ⟨_, _, h3, _⟩ := M.er y [k1, k2] h
    obtain ⟨h1, fI, fd, ps, h4, h5, h6, h7⟩ := M.er2 y k1 k2 h
    exact ⟨h, h1, h3 k1 (by simp), h3 k2 (by simp), fI, fd, ps, h4, h5, h6, hr.mono (by omega), h7⟩
  · obtain ⟨_, _, h3, _⟩ := M.er y [k1] h
    obtain ⟨h1, fI, fd, ps, h4, h5, h6, h7⟩ := M.er1 y k1 h
    exact ⟨h, h1, h3 k1 (by simp), fI, fd, ps, h4, h5, h6, hr.mono (by omega), h7⟩
theorem fn_zeroL {p : Pg} {f : Addr} {fd : FuncData} {ps : List Str} {i k : Nat} : FnOk P w p.K.K mg base (L2.CX P w) k f fd ps (spC (p.rc 0).lo i) :=
  ⟨fun vs H Q E h => by
    obtain ⟨_, G, as, AA, o, h⟩ := spC_post h
    exact h.elim, fun A outer s H args us vs Q E _ _ _ _ h => by
    obtain ⟨_, G, as, AA, o, h⟩ := spC_post h
    exact h.elim⟩
theorem ModOk.both (M : ModOk P w K mg base m) : ∀ (k : Nat), Lv_ P w K mg base m k ∧ LvL P w K mg base m k
  | 0 => ⟨fun i fn e => by
    obtain ⟨x, q, fd, dvs, N, ps, st, D⟩ := M.f i fn e
    exact ⟨fd, ps, fn_zero (p := m.pg P w K), D.F.kp, D.b, D.bd⟩, fun i fn e => by
    obtain ⟨x, q, fd, dvs, N, ps, st, D⟩ := M.f i fn e
    exact ⟨fd, ps, fn_zeroL (p := m.pg P w K), D.F.kp, D.b, D.bd⟩⟩
  | k + 1 => ⟨fun i fn e => by
    obtain ⟨x, q, fd, dvs, N, ps, st, D⟩ := M.f i fn e
    exact ⟨fd, ps, D.up M e (ModOk.both M k).1 (ModOk.both M k).2, D.F.kp, D.b, D.bd⟩, fun i fn e => (ModOk.both M k).1 i fn e⟩
theorem ModOk.all (M : ModOk P w K mg base m) (k : Nat) : Lv_ P w K mg base m k := (M.both k).1
end
/-! ### defs of the text -/
section
variable {K : PySem.W.Frag}
theorem fun_d0 {x qual : Str} {st : Stmt} {f : Addr} {oc : Value} {od an : Option Addr} {osl : Array (Option Value)} {kV doc pm cdv ct : Value} (l : K.lookup f = some ⟨oc, od, .func (PySem.W.fnOf x qual (defArgs st) (defBody st) (defScope st) .none kV doc pm an cdv ct), osl⟩)
    (c : PySem.W.codeIn K cdv qual = true) (k : PySem.W.keepIn K (.ref f) = true) : FunD K x qual (defArgs st) (defBody st) (defScope st) [] [] f (PySem.W.fnOf x qual (defArgs st) (defBody st) (defScope st) .none kV doc pm an cdv ct) := ⟨⟨oc, od, .none, kV, doc, pm, an, cdv, ct, osl, rfl, l, c, .inl ⟨rfl, rfl⟩, .inl rfl⟩, k⟩
theorem absDs_vD : ∀ {us : List Value} {ds : List D}, us.map absD = ds.map some → Vals (ds.map vD) us
  | [], [], _ => .nil
  | u :: us, d :: ds, h => by
    injection h with h1 h2
    exact .cons (absD_vD h1) (absDs_vD h2)
  | [], _ :: _, h => by cases h
  | _ :: _, [], h => by cases h
theorem fun_d1 {x qual : Str} {st : Stmt} {f T : Addr} {oc oc' : Value} {od an od' : Option Addr} {osl osl' : Array (Option Value)} {kV doc pm cdv ct : Value} {its : Array Value} {n : Nat} {ds : List D} (l : K.lookup f = some ⟨oc, od, .func (PySem.W.fnOf x qual (defArgs st) (defBody st) (defScope st) (.ref T) kV doc pm an cdv ct), osl⟩)
    (c : PySem.W.codeIn K cdv qual = true) (k : PySem.W.keepIn K (.ref f) = true) (lT : K.lookup T = some ⟨oc', od', .seq its n, osl'⟩) (hv : its.toList.map absD = ds.map some) (h0 : ds ≠ []) : FunD K x qual (defArgs st) (defBody st) (defScope st) (ds.map vD) [] f (PySem.W.fnOf x qual (defArgs st) (defBody st) (defScope st) (.ref T) kV doc pm an cdv ct) :=
  ⟨⟨oc, od, .ref T, kV, doc, pm, an, cdv, ct, osl, rfl, l, c, .inr ⟨fun z => h0 (List.map_eq_nil_iff.mp z), T, _, its.toList, n, rfl, lT, by simp, absDs_vD hv⟩, .inl rfl⟩, k⟩
theorem vals_nil {ds : List Value} (h : Vals [] ds) : ds = [] := by cases h; rfl
end
/-! ### tables -/
theorem tab1 {α : Type} {l : List (Option α)} {P : Nat → α → Prop} (h : AllI (fun i o => ∀ b, o = some b → P i b) 0 l) (i : Nat) (b : α) (e : (l[i]?).join = some b) : P i b := by
  cases q : l[i]? with
  | none => rw [q] at e; cases e
  | some o => rw [q] at e; exact h.get q b e
theorem tab2 {α : Type} {l : List (List (Option α))} {P : Nat → Nat → α → Prop} (h : AllI (fun i row => AllI (fun j o => ∀ b, o = some b → P i j b) 0 row) 0 l) (i j : Nat) (b : α) (e : ((l[i]?).bind fun r => r[j]?).join = some b) : P i j b := by
  cases q : l[i]? with
  | none => rw [q] at e; cases e
  | some r => rw [q] at e; exact tab1 (h.get q) j b e
theorem hf_of {m : Modu} {P : Nat → Nat → Prop} (h : AllI (fun c l => ∀ f ∈ l, P c f) 0 m.hft) (c f : Nat) (e : m.hf c f = true) : P c f := by
  unfold Modu.hf at e
  split at e
  · rename_i l q
    exact h.get q f (List.contains_iff_mem.mp e)
  · cases e
/-! ### the law -/
theorem ints_rps {K : Kx} {G : Hp} : ∀ ns : List Int, Rps K G (ns.map D.int) (ns.map V.int)
  | [] => rfl
  | n :: ns => ⟨.int n, ns.map V.int, rfl, rfl, ints_rps ns⟩
theorem law_sp {P : Program} {w : World} {K : PySem.W.Frag} {m : Modu} {i k : Nat} {H : Hp} {a : Addr} {ns : List Int} {fn : Fn} (hi : m.code[i]? = some fn) (h1 : fn.ps = 1) (hS : SqL K H a (ns.map V.int))
    (h : ∃ as', callN m k i [.da (.fls (ns.map D.int))] = .ok (.da (.bl true)) as') :
    spC ((m.pg P w K).rc k) i [.ref a] H (fun v _ => v = .bl true) fun _ _ _ => False := by
  obtain ⟨as', h⟩ := h
  refine ⟨?_, H, [.da (.fls (ns.map D.int))], [], ⟨Ex.refl H, ⟨some (.ref a), [], [], [], rfl, rfl, ⟨.ref a, rfl, rfl, a, _, rfl, hS, ints_rps ns⟩, rfl, rfl⟩, List.nodup_nil, (fun _ z => nomatch z), (fun q hq => nomatch hq), fun j e => ?_, fun _ _ z => nomatch z⟩, ?_⟩
  · show 1 = (m.pg P w K).ar i
    unfold Pg.ar
    show 1 = match m.code[i]? with | some fn => fn.ps | none => 0
    rw [hi]
    exact h1.symm
  · match j, e with
    | 0, e => cases e
    | j + 1, e => cases e
  · show match callN m k i [.da (.fls (ns.map D.int))] with
      | .no => False
      | .ok r as' => ∀ v G' H' A', Aft (m.kx P w K) Pin.nil [some (V.ref a)] [.da (.fls (ns.map D.int))] H H [] [some (V.ref a)] as' G' H' A' → RetOk (m.kx P w K) H G' H' [] A' r v → v = .bl true
      | .er x as' => ∀ cls d G' H' A', Aft (m.kx P w K) Pin.nil [some (V.ref a)] [.da (.fls (ns.map D.int))] H H [] [some (V.ref a)] as' G' H' A' → ((m.pg P w K).rc k).xr x cls d H' → False
    rw [h]
    exact fun v G' H' A' _ r => r
theorem walk_mp {l : PySem.W.OpenLaw} {k i : Nat} {q : Program} {loose : List Str} {XP : (Str → Option Value) → Heap → Prop} {YP : World → Heap → Prop} {d : DefRec} {K : Params → PySem.W.Frag} {x : Str} {m : Modu} {fn : Fn}
    (hn : l.most = some 63) (hdf : d.params.defaults = []) (hr : Room (k + 2) callerA)
    (hY : ∀ (w : World) (h : Heap), YP w h → (K w.params).In h)
    (hi : m.code[i]? = some fn) (h1 : fn.ps = 1)
    (hrun : ∀ ns : List Int, ns.length ≤ 63 → ∃ as', callN m k i [.da (.fls (ns.map D.int))] = .ok (.da (.bl true)) as')
    (F : ∀ (w : World) (mg : Str → Option Value) (fa : Addr) (h : Heap), (K w.params).In h → h.Ns mainGlobals mg → mg d.name = some (.ref fa) →
      ∃ fd : FuncData, (∀ (s : Shared) (u : Value), BindsTo s fd ⟨[u], []⟩ [(x, u)]) ∧
        ∀ base : Heap, (K w.params).In base → base.Ns mainGlobals mg → FnOk l.prog w (K w.params) mg base (L2.CX l.prog w) (k + 2) fa fd [x] (spC ((m.pg l.prog w (K w.params)).rc k) i)) :
    PySem.W.WalkO q loose XP YP l.row.toRowW d [] (fun f vs => PySem.call f vs) :=
  walk_of (CX := fun w => L2.CX l.prog w) (sp := fun w => spC ((m.pg l.prog w (K w.params)).rc k) i) hn (by decide) hdf hr hY F (fun w H a ns hl _ hS => law_sp hi h1 hS (hrun ns hl)) fun w H s e s' h => by
    obtain ⟨_, _, _, _, _, _, _, _, _, _, _, _, z⟩ := h
    exact z.elim
end Mq
/-! A small language over HandS, 24: runs, statement by statement (no run stands under a binder). -/
namespace Mq
open PySem
def sqR (x : R Fl) (c : Cn) (io : Io) (r : Ss) : R Fl := x.bind fun fl ε1 => match fl with
  | .nxt => r.run c io ε1
  | fl => .ok fl ε1
theorem Ss_cons (c : Cn) (io : Io) (s : S_) (r : Ss) (ε : En) : Ss.run c io (.cons s r) ε = sqR (s.run c io ε) c io r := by
  conv => lhs; unfold Ss.run
  rfl
theorem Ss_nil (c : Cn) (io : Io) (ε : En) : Ss.run c io .nil ε = .ok .nxt ε := by
  conv => lhs; unfold Ss.run
theorem sq_nxt (c : Cn) (io : Io) (r : Ss) (ε : En) : sqR (.ok .nxt ε) c io r = r.run c io ε := rfl
theorem sq_ret (c : Cn) (io : Io) (r : Ss) (ε : En) (x : Sl) : sqR (.ok (.ret x) ε) c io r = .ok (.ret x) ε := rfl
theorem sq_brk (c : Cn) (io : Io) (r : Ss) (ε : En) : sqR (.ok .brk ε) c io r = .ok .brk ε := rfl
theorem sq_cnt (c : Cn) (io : Io) (r : Ss) (ε : En) : sqR (.ok .cnt ε) c io r = .ok .cnt ε := rfl
theorem sq_er (c : Cn) (io : Io) (r : Ss) (x : Er) (ε : En) : sqR (.er x ε) c io r = .er x ε := rfl
def itR (x : R Bool) (c : Cn) (io : Io) (a b : Ss) : R Fl := x.bind fun k ε1 => if k then a.run c io ε1 else b.run c io ε1
theorem S_ite (c : Cn) (io : Io) (t : T) (a b : Ss) (ε : En) : S_.run c io (.ite t a b) ε = itR (t.run c io ε) c io a b := by
  conv => lhs; unfold S_.run
  rfl
theorem it_t (c : Cn) (io : Io) (a b : Ss) (ε : En) : itR (.ok true ε) c io a b = a.run c io ε := rfl
theorem it_f (c : Cn) (io : Io) (a b : Ss) (ε : En) : itR (.ok false ε) c io a b = b.run c io ε := rfl
theorem it_er (c : Cn) (io : Io) (a b : Ss) (x : Er) (ε : En) : itR (.er x ε) c io a b = .er x ε := rfl
/-- `and`, `or` -/
def anR (x : R Bool) (c : Cn) (io : Io) (b : T) : R Bool := x.bind fun k ε1 => if k then b.run c io ε1 else .ok false ε1
def orR (x : R Bool) (c : Cn) (io : Io) (b : T) : R Bool := x.bind fun k ε1 => if k then .ok true ε1 else b.run c io ε1
theorem T_and (c : Cn) (io : Io) (a b : T) (ε : En) : T.run c io (.and a b) ε = anR (a.run c io ε) c io b := by
  conv => lhs; unfold T.run
  rfl
theorem T_or (c : Cn) (io : Io) (a b : T) (ε : En) : T.run c io (.or a b) ε = orR (a.run c io ε) c io b := by
  conv => lhs; unfold T.run
  rfl
theorem an_t (c : Cn) (io : Io) (b : T) (ε : En) : anR (.ok true ε) c io b = b.run c io ε := rfl
theorem an_f (c : Cn) (io : Io) (b : T) (ε : En) : anR (.ok false ε) c io b = .ok false ε := rfl
theorem or_t (c : Cn) (io : Io) (b : T) (ε : En) : orR (.ok true ε) c io b = .ok true ε := rfl
theorem or_f (c : Cn) (io : Io) (b : T) (ε : En) : orR (.ok false ε) c io b = b.run c io ε := rfl
/-- tuples and arguments -/
def esR (x : R D) (c : Cn) (io : Io) (es : Es) : R (List D) := x.bind fun x ε1 => (es.run c io ε1).bind fun xs ε2 => .ok (x :: xs) ε2
def esR2 (x : D) (r : R (List D)) : R (List D) := r.bind fun xs ε2 => .ok (x :: xs) ε2
theorem Es_cons (c : Cn) (io : Io) (e : E) (es : Es) (ε : En) : Es.run c io (.cons e es) ε = esR (e.run c io ε) c io es := by
  conv => lhs; unfold Es.run
  rfl
theorem es_ok (c : Cn) (io : Io) (x : D) (es : Es) (ε : En) : esR (.ok x ε) c io es = esR2 x (es.run c io ε) := rfl
theorem es2_ok (x : D) (xs : List D) (ε : En) : esR2 x (.ok xs ε) = .ok (x :: xs) ε := rfl
def op2R (x : R D) (c : Cn) (io : Io) (o : Op2) (b : E) : R D := x.bind fun x ε1 => (b.run c io ε1).bind fun y ε2 => R.of ε2 (o.run x y)
def op2R2 (o : Op2) (x : D) (r : R D) : R D := r.bind fun y ε2 => R.of ε2 (o.run x y)
theorem E_op2 (c : Cn) (io : Io) (o : Op2) (a b : E) (ε : En) : E.run c io (.op2 o a b) ε = op2R (a.run c io ε) c io o b := by
  conv => lhs; unfold E.run
  rfl
theorem op2_ok (c : Cn) (io : Io) (o : Op2) (x : D) (b : E) (ε : En) : op2R (.ok x ε) c io o b = op2R2 o x (b.run c io ε) := rfl
theorem op22_ok (o : Op2) (x y : D) (ε : En) : op2R2 o x (.ok y ε) = R.of ε (o.run x y) := rfl
theorem runF_ex {c : Cn} {fn : Fn} {as as' : En} {r : Sl} (h1 : as.length = fn.ps ∧ ioOk fn.io as = true) (h : ∃ ε, Ss.run c { l := fn.io } fn.body (as ++ List.replicate (fn.n - fn.ps) .no) = .ok (.ret r) ε ∧ outs fn.io as ε = as') : runF c fn as = .ok r as' := by
  obtain ⟨ε, h2, h3⟩ := h
  unfold runF
  rw [if_pos h1, h2, ← h3]
theorem runF_exn {c : Cn} {fn : Fn} {as as' : En} (h1 : as.length = fn.ps ∧ ioOk fn.io as = true) (h : ∃ ε, Ss.run c { l := fn.io } fn.body (as ++ List.replicate (fn.n - fn.ps) .no) = .ok .nxt ε ∧ outs fn.io as ε = as') : runF c fn as = .ok (.da .non) as' := by
  obtain ⟨ε, h2, h3⟩ := h
  unfold runF
  rw [if_pos h1, h2, ← h3]
theorem es_er (c : Cn) (io : Io) (x : Er) (es : Es) (ε : En) : esR (.er x ε) c io es = .er x ε := rfl
theorem es2_er (x : D) (y : Er) (ε : En) : esR2 x (.er y ε) = .er y ε := rfl
theorem op2_er (c : Cn) (io : Io) (o : Op2) (x : Er) (b : E) (ε : En) : op2R (.er x ε) c io o b = .er x ε := rfl
theorem op22_er (o : Op2) (x : D) (y : Er) (ε : En) : op2R2 o x (.er y ε) = .er y ε := rfl
theorem an_er (c : Cn) (io : Io) (b : T) (x : Er) (ε : En) : anR (.er x ε) c io b = .er x ε := rfl
theorem or_er (c : Cn) (io : Io) (b : T) (x : Er) (ε : En) : orR (.er x ε) c io b = .er x ε := rfl
theorem runF_exe {c : Cn} {fn : Fn} {as as' : En} {x : Er} (h1 : as.length = fn.ps ∧ ioOk fn.io as = true) (h : ∃ ε, Ss.run c { l := fn.io } fn.body (as ++ List.replicate (fn.n - fn.ps) .no) = .er x ε ∧ outs fn.io as ε = as') : runF c fn as = .er x as' := by
  obtain ⟨ε, h2, h3⟩ := h
  unfold runF
  rw [if_pos h1, h2, ← h3]
theorem for_s {io : Io} {p : Mq.Pt} {b : En → R Fl} {d : D} {ds : List D} {ε ε1 ε2 : En} (hp : p.run io d ε = .ok () ε1) (hb : b ε1 = .ok .nxt ε2) : forRun io p b (d :: ds) ε = forRun io p b ds ε2 := by
  conv => lhs; unfold forRun
  rw [hp]
  show (b ε1).bind _ = _
  rw [hb]
  rfl
theorem for_e {io : Io} {p : Mq.Pt} {b : En → R Fl} {d : D} {ds : List D} {ε ε1 ε2 : En} {x : Er} (hp : p.run io d ε = .ok () ε1) (hb : b ε1 = .er x ε2) : forRun io p b (d :: ds) ε = .er x ε2 := by
  conv => lhs; unfold forRun
  rw [hp]
  show (b ε1).bind _ = _
  rw [hb]
  rfl
theorem for_n {io : Io} {p : Mq.Pt} {b : En → R Fl} {ε : En} : forRun io p b [] ε = .ok .nxt ε := rfl
theorem whl_t {t : En → R Bool} {b : En → R Fl} {n : Nat} {ε ε1 ε2 : En} (h1 : t ε = .ok true ε1) (h2 : b ε1 = .ok .nxt ε2) : whlRun t b (n + 1) ε = whlRun t b n ε2 := by
  conv => lhs; unfold whlRun
  rw [h1]
  show (b ε1).bind _ = _
  rw [h2]
  rfl
theorem whl_f {t : En → R Bool} {b : En → R Fl} {n : Nat} {ε ε1 : En} (h1 : t ε = .ok false ε1) : whlRun t b (n + 1) ε = .ok .nxt ε1 := by
  conv => lhs; unfold whlRun
  rw [h1]
  rfl
end Mq
/-! The codes of the defs of law_k31_lines_that_are_bad, in the small language (printed by gen2.py). -/
namespace K31
open Mq PySem
def code__law_mix : Ss := (.cons (.asg (.nm 2) (.op2 .mod (.bif .int (.cons (.op2 .add (.op2 .add (.op2 .mul (.var 0) (.cst (.int 48271))) (.op2 .mul (.var 1) (.cst (.int 69621)))) (.cst (.int 11))) .nil)) (.cst (.int 2147483647)))) (.cons (.ret (.op2 .mod (.op2 .mod (.bif .int (.cons (.op2 .add (.op2 .add (.op2 .add (.op2 .mul (.var 2) (.var 2)) (.op2 .mul (.var 0) (.cst (.int 40692)))) (.op2 .mul (.var 1) (.cst (.int 7)))) (.cst (.int 3))) .nil)) (.cst (.int 1000003))) (.cst (.int 1000)))) .nil))
def fn__law_mix : Fn := ⟨3, 2, [], code__law_mix⟩
abbrev i__law_mix : Nat := 0
def b1__law_stream : Ss := (.cons (.ite (.and (.val (.op2 .gt (.var 4) (.cst (.int 0)))) (.val (.op2 .lt (.bifo .len (.cons (.p ⟨2, []⟩) .nil)) (.var 1)))) (.cons (.app ⟨2, []⟩ (.op2 .mod (.bif .int (.cons (.var 4) .nil)) (.cst (.int 1000)))) (.cons (.asg (.nm 4) (.op2 .fdiv (.var 4) (.cst (.int 1000)))) .nil)) .nil) .nil)
def b2__law_stream : Ss := (.cons (.ite (.val (.op2 .lt (.bifo .len (.cons (.p ⟨2, []⟩) .nil)) (.var 1))) (.cons (.app ⟨2, []⟩ (.call 0 (.cons (.e (.var 4)) (.cons (.e (.op2 .add (.op2 .mul (.cst (.int 64)) (.var 5)) (.var 3))) .nil)))) .nil) .nil) .nil)
def b3__law_stream : Ss := (.cons (.asg (.nm 4) (.op2 .idx (.var 0) (.var 3))) (.cons (.ite (.val (.op2 .ge (.var 4) (.op2 .pow (.cst (.int 10)) (.cst (.int 18))))) (.cons (.for_ (.nm 5) (.r1 (.cst (.int 60))) b1__law_stream) .nil) (.cons (.for_ (.nm 5) (.r1 (.cst (.int 3))) b2__law_stream) .nil)) .nil))
def code__law_stream : Ss := (.cons (.own 2 (.lst .nil)) (.cons (.for_ (.nm 3) (.r1 (.bif .min2 (.cons (.bif .len (.cons (.var 0) .nil)) (.cons (.cst (.int 63)) .nil)))) b3__law_stream) (.cons (.retm (.dct (.cons (.str [114, 111, 119]) (.frz ⟨2, []⟩) (.cons (.str [97, 116]) (.cst (.int 0)) (.cons (.str [115, 101, 101, 100]) (.bifo .len (.cons (.p ⟨2, []⟩) .nil)) .nil))))) .nil)))
def fn__law_stream : Fn := ⟨6, 2, [], code__law_stream⟩
abbrev i__law_stream : Nat := 1
def code_Line____init__ : Ss := (.cons (.fset ⟨0, []⟩ 1 (.var 1)) (.cons (.fset ⟨0, []⟩ 0 (.cst (.int 0))) .nil))
def fn_Line____init__ : Fn := ⟨2, 2, [0], code_Line____init__⟩
abbrev i_Line____init__ : Nat := 2
def code_Line__next : Ss := (.cons (.ret (.slc (.pth ⟨0, [.f 1]⟩) (.so (.pth ⟨0, [.f 0]⟩)) (.so (.op2 .add (.pth ⟨0, [.f 0]⟩) (.cst (.int 1)))))) .nil)
def fn_Line__next : Fn := ⟨1, 1, [0], code_Line__next⟩
abbrev i_Line__next : Nat := 3
def t1_Line__skip_spaces : T := (.val (.op2 .eq (.meth ⟨0, []⟩ 0 .nil) (.cst (.str [32]))))
def b2_Line__skip_spaces : Ss := (.cons (.faug ⟨0, []⟩ 0 .add (.cst (.int 1))) .nil)
def code_Line__skip_spaces : Ss := (.cons (.whl t1_Line__skip_spaces b2_Line__skip_spaces) .nil)
def fn_Line__skip_spaces : Fn := ⟨1, 1, [0], code_Line__skip_spaces⟩
abbrev i_Line__skip_spaces : Nat := 4
def code_Line__expect : Ss := (.cons (.ite (.val (.op2 .ne (.meth ⟨0, []⟩ 0 .nil) (.var 1))) (.cons (.rs 0 .nil) .nil) .nil) (.cons (.faug ⟨0, []⟩ 0 .add (.cst (.int 1))) .nil))
def fn_Line__expect : Fn := ⟨2, 2, [0], code_Line__expect⟩
abbrev i_Line__expect : Nat := 5
def b1_is_number : Ss := (.cons (.ite (.val (.op2 .nin (.var 1) (.glb 1))) (.cons (.ret (.cst (.bl false))) .nil) .nil) .nil)
def code_is_number : Ss := (.cons (.ite (.or (.val (.op2 .eq (.var 0) (.cst (.str [])))) (.or (.val (.op2 .gt (.bif .len (.cons (.var 0) .nil)) (.cst (.int 13)))) (.and (.val (.op2 .eq (.op2 .idx (.var 0) (.cst (.int 0))) (.cst (.str [48])))) (.val (.op2 .gt (.bif .len (.cons (.var 0) .nil)) (.cst (.int 1))))))) (.cons (.ret (.cst (.bl false))) .nil) .nil) (.cons (.for_ (.nm 1) (.str (.var 0)) b1_is_number) (.cons (.ret (.op2 .le (.bif .int (.cons (.var 0) .nil)) (.glb 0))) .nil)))
def fn_is_number : Fn := ⟨2, 1, [], code_is_number⟩
abbrev i_is_number : Nat := 6
def t1_Line__time : T := (.and (.val (.op2 .ne (.meth ⟨0, []⟩ 0 .nil) (.cst (.str [])))) (.val (.op2 .inn (.meth ⟨0, []⟩ 0 .nil) (.glb 1))))
def b2_Line__time : Ss := (.cons (.faug ⟨0, []⟩ 0 .add (.cst (.int 1))) .nil)
def code_Line__time : Ss := (.cons (.asg (.nm 1) (.pth ⟨0, [.f 0]⟩)) (.cons (.whl t1_Line__time b2_Line__time) (.cons (.asg (.nm 2) (.slc (.pth ⟨0, [.f 1]⟩) (.so (.var 1)) (.so (.pth ⟨0, [.f 0]⟩)))) (.cons (.ite (.not (.tru (.call 6 (.cons (.e (.var 2)) .nil)))) (.cons (.rs 0 .nil) .nil) .nil) (.cons (.ret (.bif .int (.cons (.var 2) .nil))) .nil)))))
def fn_Line__time : Fn := ⟨3, 1, [0], code_Line__time⟩
abbrev i_Line__time : Nat := 7
def t1_word_end : T := (.and (.val (.op2 .lt (.var 2) (.bif .len (.cons (.var 0) .nil)))) (.or (.val (.op2 .inn (.op2 .idx (.var 0) (.var 2)) (.glb 2))) (.or (.val (.op2 .inn (.op2 .idx (.var 0) (.var 2)) (.glb 1))) (.val (.op2 .eq (.op2 .idx (.var 0) (.var 2)) (.cst (.str [95])))))))
def b2_word_end : Ss := (.cons (.aug 2 .add (.cst (.int 1))) .nil)
def code_word_end : Ss := (.cons (.asg (.nm 2) (.var 1)) (.cons (.whl t1_word_end b2_word_end) (.cons (.ret (.var 2)) .nil)))
def fn_word_end : Fn := ⟨3, 2, [], code_word_end⟩
abbrev i_word_end : Nat := 8
def code_Line__word : Ss := (.cons (.asg (.nm 1) (.call 8 (.cons (.e (.pth ⟨0, [.f 1]⟩)) (.cons (.e (.pth ⟨0, [.f 0]⟩)) .nil)))) (.cons (.asg (.nm 2) (.slc (.pth ⟨0, [.f 1]⟩) (.so (.pth ⟨0, [.f 0]⟩)) (.so (.var 1)))) (.cons (.fset ⟨0, []⟩ 0 (.var 1)) (.cons (.ret (.var 2)) .nil))))
def fn_Line__word : Fn := ⟨3, 1, [0], code_Line__word⟩
abbrev i_Line__word : Nat := 9
def code_Line__number : Ss := (.cons (.asg (.nm 1) (.meth ⟨0, []⟩ 1 .nil)) (.cons (.ite (.not (.tru (.call 6 (.cons (.e (.var 1)) .nil)))) (.cons (.rs 0 .nil) .nil) .nil) (.cons (.ret (.bif .int (.cons (.var 1) .nil))) .nil)))
def fn_Line__number : Fn := ⟨2, 1, [0], code_Line__number⟩
abbrev i_Line__number : Nat := 10
def code_is_sign : Ss := (.cons (.ret (.and (.chain .le .le (.cst (.str [32])) (.var 0) (.cst (.str [126]))) (.and (.op2 .ne (.bif .ord (.cons (.var 0) .nil)) (.glb 3)) (.op2 .ne (.bif .ord (.cons (.var 0) .nil)) (.glb 4))))) .nil)
def fn_is_sign : Fn := ⟨1, 1, [], code_is_sign⟩
abbrev i_is_sign : Nat := 11
def b1_Line__quoted : Ss := (.cons (.ite (.not (.tru (.call 11 (.cons (.e (.var 3)) .nil)))) (.cons (.rs 0 .nil) .nil) .nil) .nil)
def code_Line__quoted : Ss := (.cons (.asg (.nm 1) (.mth .find3 (.e (.pth ⟨0, [.f 1]⟩)) (.cons (.cst (.str [34])) (.cons (.op2 .add (.pth ⟨0, [.f 0]⟩) (.cst (.int 1))) .nil)))) (.cons (.ite (.or (.val (.op2 .lt (.var 1) (.cst (.int 0)))) (.val (.op2 .gt (.op2 .sub (.op2 .sub (.var 1) (.pth ⟨0, [.f 0]⟩)) (.cst (.int 1))) (.glb 5)))) (.cons (.rs 0 .nil) .nil) .nil) (.cons (.asg (.nm 2) (.slc (.pth ⟨0, [.f 1]⟩) (.so (.op2 .add (.pth ⟨0, [.f 0]⟩) (.cst (.int 1)))) (.so (.var 1)))) (.cons (.for_ (.nm 3) (.str (.var 2)) b1_Line__quoted) (.cons (.fset ⟨0, []⟩ 0 (.op2 .add (.var 1) (.cst (.int 1)))) (.cons (.ret (.var 2)) .nil))))))
def fn_Line__quoted : Fn := ⟨4, 1, [0], code_Line__quoted⟩
abbrev i_Line__quoted : Nat := 12
def code_Line__value : Ss := (.cons (.ite (.val (.op2 .eq (.meth ⟨0, []⟩ 0 .nil) (.cst (.str [34])))) (.cons (.ite (.val (.op2 .ne (.var 1) (.cst (.str [119, 111, 114, 100])))) (.cons (.rs 0 .nil) .nil) .nil) (.cons (.ret (.meth ⟨0, []⟩ 3 .nil)) .nil)) .nil) (.cons (.ite (.val (.op2 .ne (.var 1) (.cst (.str [110, 117, 109, 98, 101, 114])))) (.cons (.rs 0 .nil) .nil) .nil) (.cons (.ite (.val (.op2 .eq (.meth ⟨0, []⟩ 0 .nil) (.cst (.str [45])))) (.cons (.faug ⟨0, []⟩ 0 .add (.cst (.int 1))) (.cons (.asg (.nm 2) (.meth ⟨0, []⟩ 2 .nil)) (.cons (.ite (.val (.op2 .eq (.var 2) (.cst (.int 0)))) (.cons (.rs 0 .nil) .nil) .nil) (.cons (.ret (.neg (.var 2))) .nil)))) .nil) (.cons (.ret (.meth ⟨0, []⟩ 2 .nil)) .nil))))
def fn_Line__value : Fn := ⟨3, 2, [0], code_Line__value⟩
abbrev i_Line__value : Nat := 13
def b1_Line__values : Ss := (.cons (.ite (.val (.op2 .gt (.var 3) (.cst (.int 0)))) (.cons (.drop (.meth ⟨0, []⟩ 4 (.cons (.e (.cst (.str [44]))) .nil))) .nil) .nil) (.cons (.drop (.meth ⟨0, []⟩ 5 .nil)) (.cons (.app ⟨2, []⟩ (.meth ⟨0, []⟩ 6 (.cons (.e (.op2 .idx (.var 1) (.var 3))) .nil))) (.cons (.drop (.meth ⟨0, []⟩ 5 .nil)) .nil))))
def code_Line__values : Ss := (.cons (.drop (.meth ⟨0, []⟩ 4 (.cons (.e (.cst (.str [40]))) .nil))) (.cons (.own 2 (.lst .nil)) (.cons (.for_ (.nm 3) (.r1 (.bif .len (.cons (.var 1) .nil))) b1_Line__values) (.cons (.drop (.meth ⟨0, []⟩ 5 .nil)) (.cons (.drop (.meth ⟨0, []⟩ 4 (.cons (.e (.cst (.str [41]))) .nil))) (.cons (.ret (.bifo .tuple (.cons (.p ⟨2, []⟩) .nil))) .nil))))))
def fn_Line__values : Fn := ⟨4, 2, [0], code_Line__values⟩
abbrev i_Line__values : Nat := 14
def code_order_of : Ss := (.cons (.ite (.tru (.bif .isi (.cons (.var 0) (.cons (.cst (.ty "int")) .nil)))) (.cons (.ret (.tup (.cons (.cst (.int 0)) (.cons (.var 0) .nil)))) .nil) .nil) (.cons (.ret (.tup (.cons (.cst (.int 1)) (.cons (.var 0) .nil)))) .nil))
def fn_order_of : Fn := ⟨1, 1, [], code_order_of⟩
abbrev i_order_of : Nat := 15
def code_row_order : Ss := (.cons (.ret (.bif .tuple (.cons (.mk (.lc [1] (.nm 1) (.tup (.var 0)) .nil (.call 15 (.cons (.e (.var 1)) .nil)))) .nil))) .nil)
def fn_row_order : Fn := ⟨2, 1, [], code_row_order⟩
abbrev i_row_order : Nat := 16
def t1_read_line : T := (.val (.op2 .lt (.pth ⟨2, [.f 0]⟩) (.bif .len (.cons (.var 0) .nil))))
def b2_read_line : Ss := (.cons (.asg (.nm 5) (.meth ⟨2, []⟩ 1 .nil)) (.cons (.ite (.val (.op2 .nin (.var 5) (.var 1))) (.cons (.rs 0 .nil) .nil) .nil) (.cons (.drop (.meth ⟨2, []⟩ 5 .nil)) (.cons (.sdset 4 (.var 5) (.meth ⟨2, []⟩ 7 (.cons (.e (.op2 .idx (.var 1) (.var 5))) .nil)) (.cst (.bl true))) (.cons (.drop (.meth ⟨2, []⟩ 5 .nil)) .nil)))))
def code_read_line : Ss := (.cons (.own 2 (.new 2 (.cons (.e (.var 0)) .nil))) (.cons (.drop (.meth ⟨2, []⟩ 5 .nil)) (.cons (.drop (.meth ⟨2, []⟩ 4 (.cons (.e (.cst (.str [64]))) .nil))) (.cons (.asg (.nm 3) (.meth ⟨2, []⟩ 8 .nil)) (.cons (.own 4 (.dct .nil)) (.cons (.drop (.meth ⟨2, []⟩ 5 .nil)) (.cons (.whl t1_read_line b2_read_line) (.cons (.asg (.nm 6) (.mk (.lc [5] (.nm 5) (.lst (.bif .sorted (.cons (.frz ⟨4, []⟩) .nil))) .nil (.tup (.cons (.var 5) (.cons (.bif .tuple (.cons (.mk (.srtk 16 (.op2 .idx (.frz ⟨4, []⟩) (.var 5)))) .nil)) .nil)))))) (.cons (.ret (.tup (.cons (.var 3) (.cons (.bif .tuple (.cons (.var 6) .nil)) .nil)))) .nil)))))))))
def fn_read_line : Fn := ⟨7, 2, [], code_read_line⟩
abbrev i_read_line : Nat := 17
def code__law_events : Ss := (.cons (.retm (.dct (.cons (.str [103, 111]) (.tup .nil) (.cons (.str [112]) (.tup (.cons (.cst (.str [110, 117, 109, 98, 101, 114])) .nil)) (.cons (.str [113]) (.tup (.cons (.cst (.str [110, 117, 109, 98, 101, 114])) (.cons (.cst (.str [119, 111, 114, 100])) .nil))) .nil))))) .nil)
def fn__law_events : Fn := ⟨0, 0, [], code__law_events⟩
abbrev i__law_events : Nat := 18
def code__law_told : Ss := (.cons (.try_ (.cons (.ret (.tup (.cons (.cst (.str [112, 111, 105, 110, 116])) (.cons (.call 17 (.cons (.e (.var 0)) (.cons (.e (.mk (.call 18 .nil))) .nil))) .nil)))) .nil) (.cons 0 1 (.cons (.ret (.tup (.cons (.cst (.str [98, 97, 100])) (.cons (.and (.xi 1 3) (.and (.xi 1 4) (.not (.xi 1 1)))) .nil)))) .nil) .nil)) .nil)
def fn__law_told : Fn := ⟨2, 1, [], code__law_told⟩
abbrev i__law_told : Nat := 19
def code__law_pick : Ss := (.cons (.asg (.nm 2) (.opo .idx (.p ⟨0, []⟩) (.e (.cst (.str [97, 116]))))) (.cons (.dset ⟨0, []⟩ (.cst (.str [97, 116])) (.op2 .add (.var 2) (.cst (.int 1)))) (.cons (.asg (.nm 3) (.call 0 (.cons (.e (.opo .idx (.p ⟨0, []⟩) (.e (.cst (.str [115, 101, 101, 100]))))) (.cons (.e (.var 2)) .nil)))) (.cons (.ite (.val (.op2 .lt (.var 2) (.bif .len (.cons (.opo .idx (.p ⟨0, []⟩) (.e (.cst (.str [114, 111, 119])))) .nil)))) (.cons (.asg (.nm 3) (.op2 .idx (.opo .idx (.p ⟨0, []⟩) (.e (.cst (.str [114, 111, 119])))) (.var 2))) .nil) .nil) (.cons (.ret (.op2 .mod (.bif .int (.cons (.var 3) .nil)) (.var 1))) .nil)))))
def fn__law_pick : Fn := ⟨4, 2, [0], code__law_pick⟩
abbrev i__law_pick : Nat := 20
def b1_read_log : Ss := (.cons (.asg (.nm 5) (.call 17 (.cons (.e (.var 4)) (.cons (.e (.var 1)) .nil)))) (.cons (.ite (.and (.val (.opo .ne (.p ⟨3, []⟩) (.e (.mk (.lst .nil))))) (.val (.op2 .lt (.op2 .idx (.var 5) (.cst (.int 0))) (.op2 .idx (.opo .idx (.p ⟨3, []⟩) (.e (.neg (.cst (.int 1))))) (.cst (.int 0)))))) (.cons (.rs 1 .nil) .nil) .nil) (.cons (.app ⟨3, []⟩ (.var 5)) .nil)))
def code_read_log : Ss := (.cons (.asg (.nm 2) (.mth .split (.e (.var 0)) (.cons (.cst (.str [10])) .nil))) (.cons (.ite (.val (.op2 .eq (.op2 .idx (.var 2) (.neg (.cst (.int 1)))) (.cst (.str [])))) (.cons (.asg (.nm 2) (.slc (.var 2) .no (.so (.neg (.cst (.int 1)))))) .nil) .nil) (.cons (.own 3 (.lst .nil)) (.cons (.for_ (.nm 4) (.lst (.var 2)) b1_read_log) (.cons (.ret (.frz ⟨3, []⟩)) .nil)))))
def fn_read_log : Fn := ⟨6, 2, [], code_read_log⟩
abbrev i_read_log : Nat := 21
def code__law_log : Ss := (.cons (.try_ (.cons (.ret (.bif .len (.cons (.call 21 (.cons (.e (.var 0)) (.cons (.e (.mk (.call 18 .nil))) .nil))) .nil))) .nil) (.cons 0 1 (.cons (.ret (.tup (.cons (.cst (.str [108, 105, 110, 101])) (.cons (.xi 1 3) .nil)))) .nil) (.cons 1 1 (.cons (.ret (.tup (.cons (.cst (.str [116, 105, 109, 101])) (.cons (.xi 1 3) .nil)))) .nil) .nil))) .nil)
def fn__law_log : Fn := ⟨2, 1, [], code__law_log⟩
abbrev i__law_log : Nat := 22
def code__law_good : Ss := (.cons (.asg (.nm 2) (.mk (.lst (.cons (.cst (.str [])) (.cons (.cst (.str [32, 103, 111, 40, 41])) (.cons (.cst (.str [32, 112, 40, 51, 41, 32, 112, 40, 45, 52, 41])) (.cons (.cst (.str [32, 113, 40, 48, 44, 34, 97, 32, 98, 34, 41])) (.cons (.cst (.str [32, 112, 40, 32, 49, 50, 32, 41, 103, 111, 32, 40, 32, 41])) (.cons (.cst (.str [32, 113, 32, 40, 32, 45, 49, 32, 44, 32, 34, 34, 41, 32])) (.cons (.cst (.str [32, 32, 32])) .nil)))))))))) (.cons (.ret (.op2 .add (.op2 .add (.cst (.str [64])) (.bif .str (.cons (.var 1) .nil))) (.op2 .idx (.var 2) (.call 20 (.cons (.p ⟨0, []⟩) (.cons (.e (.cst (.int 7))) .nil)))))) .nil))
def fn__law_good : Fn := ⟨3, 2, [0], code__law_good⟩
abbrev i__law_good : Nat := 23
def b1__law_bad : Ss := (.cons (.asg (.nm 1) (.op2 .add (.var 1) (.mk (.lst (.cons (.op2 .add (.op2 .add (.cst (.str [64, 53])) (.var 2)) (.cst (.str [103, 111, 40, 41]))) (.cons (.op2 .add (.op2 .add (.cst (.str [64, 53, 32, 112, 40, 49])) (.var 2)) (.cst (.str [41]))) (.cons (.op2 .add (.op2 .add (.cst (.str [64, 53, 32, 113, 40, 49, 44, 39, 97])) (.var 2)) (.cst (.str [39, 41]))) .nil))))))) .nil)
def code__law_bad : Ss := (.cons (.asg (.nm 1) (.mk (.lst (.cons (.cst (.str [])) (.cons (.cst (.str [32])) (.cons (.cst (.str [49, 50])) (.cons (.cst (.str [103, 111, 40, 41])) (.cons (.cst (.str [64])) (.cons (.cst (.str [64, 32, 49, 50])) (.cons (.cst (.str [64, 120])) (.cons (.cst (.str [64, 48, 49, 50])) (.cons (.cst (.str [64, 45, 49])) (.cons (.cst (.str [64, 49, 97])) (.cons (.cst (.str [64, 49, 48, 48, 48, 48, 48, 48, 48, 48, 48, 48, 48, 49])) (.cons (.cst (.str [64, 53, 44])) (.cons (.cst (.str [64, 53, 32, 112])) (.cons (.cst (.str [64, 53, 32, 112, 40])) (.cons (.cst (.str [64, 53, 32, 112, 40, 41])) (.cons (.cst (.str [64, 53, 32, 112, 40, 49])) (.cons (.cst (.str [64, 53, 32, 112, 32, 49])) .nil)))))))))))))))))))) (.cons (.asg (.nm 1) (.op2 .add (.var 1) (.mk (.lst (.cons (.cst (.str [64, 53, 32, 112, 40, 49, 44, 41])) (.cons (.cst (.str [64, 53, 32, 112, 40, 44, 49, 41])) (.cons (.cst (.str [64, 53, 32, 112, 40, 49, 44, 50, 41])) (.cons (.cst (.str [64, 53, 32, 112, 40, 49, 41, 41])) (.cons (.cst (.str [64, 53, 32, 112, 40, 40, 49, 41])) (.cons (.cst (.str [64, 53, 32, 112, 40, 34, 49, 34, 41])) (.cons (.cst (.str [64, 53, 32, 112, 40, 120, 41])) (.cons (.cst (.str [64, 53, 32, 112, 40, 48, 49, 41])) (.cons (.cst (.str [64, 53, 32, 112, 40, 45, 48, 41])) (.cons (.cst (.str [64, 53, 32, 112, 40, 45, 45, 49, 41])) (.cons (.cst (.str [64, 53, 32, 112, 40, 45, 32, 49, 41])) .nil))))))))))))))) (.cons (.asg (.nm 1) (.op2 .add (.var 1) (.mk (.lst (.cons (.cst (.str [64, 53, 32, 112, 40, 43, 49, 41])) (.cons (.cst (.str [64, 53, 32, 112, 40, 49, 32, 50, 41])) (.cons (.cst (.str [64, 53, 32, 112, 40, 49, 48, 48, 48, 48, 48, 48, 48, 48, 48, 48, 48, 49, 41])) (.cons (.cst (.str [64, 53, 32, 112, 40, 45, 49, 48, 48, 48, 48, 48, 48, 48, 48, 48, 48, 48, 49, 41])) (.cons (.cst (.str [64, 53, 32, 112, 40, 45, 48, 49, 41])) (.cons (.cst (.str [64, 53, 32, 114, 40, 49, 41])) (.cons (.cst (.str [64, 53, 32, 80, 40, 49, 41])) (.cons (.cst (.str [64, 53, 32, 112, 112, 40, 49, 41])) (.cons (.cst (.str [64, 53, 32, 112, 40, 49, 41, 44])) (.cons (.cst (.str [64, 53, 32, 112, 40, 49, 41, 46, 112, 40, 50, 41])) .nil)))))))))))))) (.cons (.asg (.nm 1) (.op2 .add (.var 1) (.mk (.lst (.cons (.cst (.str [64, 53, 32, 103, 111, 40, 49, 41])) (.cons (.cst (.str [64, 53, 32, 103, 111, 40, 34, 34, 41])) (.cons (.cst (.str [64, 53, 32, 103, 111])) (.cons (.cst (.str [64, 53, 32, 103, 111, 41])) (.cons (.cst (.str [64, 53, 32, 113, 40, 49, 41])) (.cons (.cst (.str [64, 53, 32, 113, 40, 34, 97, 34, 44, 49, 41])) (.cons (.cst (.str [64, 53, 32, 113, 40, 49, 44, 34, 97, 34, 44, 34, 98, 34, 41])) (.cons (.cst (.str [64, 53, 32, 113, 40, 49, 44, 97, 41])) (.cons (.cst (.str [64, 53, 32, 113, 40, 49, 44, 34, 97, 41])) (.cons (.cst (.str [64, 53, 32, 113, 40, 49, 44, 97, 34, 41])) (.cons (.cst (.str [64, 53, 32, 113, 40, 49, 32, 34, 97, 34, 41])) .nil))))))))))))))) (.cons (.asg (.nm 1) (.op2 .add (.var 1) (.mk (.lst (.cons (.cst (.str [64, 53, 32, 113, 40, 49, 44, 34, 97, 34, 98, 41])) (.cons (.cst (.str [64, 53, 32, 113, 40, 49, 44, 34, 97, 9, 98, 34, 41])) (.cons (.op2 .add (.op2 .add (.cst (.str [64, 53, 32, 113, 40, 49, 44, 34])) (.op2 .mul (.cst (.str [97])) (.cst (.int 41)))) (.cst (.str [34, 41]))) (.cons (.cst (.str [64, 53, 32, 113, 40, 49, 44, 50, 41])) (.cons (.cst (.str [64, 53, 9, 103, 111, 40, 41])) (.cons (.cst (.str [64, 53, 32, 64, 54])) (.cons (.cst (.str [64, 64, 53])) (.cons (.cst (.str [64, 53, 32, 53])) (.cons (.cst (.str [64, 53, 32, 35, 32, 120])) (.cons (.cst (.str [64, 53, 32, 112, 40, 49, 101, 51, 41])) .nil)))))))))))))) (.cons (.for_ (.nm 2) (.lst (.mk (.lst (.cons (.cst (.str [92])) (.cons (.cst (.str [63])) (.cons (.cst (.str [47])) (.cons (.cst (.str [96])) (.cons (.cst (.str [39])) .nil)))))))) b1__law_bad) (.cons (.asg (.nm 1) (.op2 .add (.var 1) (.mk (.lst (.cons (.cst (.str [64, 53, 32, 113, 40, 49, 44, 34, 97, 92, 98, 34, 41])) (.cons (.cst (.str [64, 53, 32, 113, 40, 49, 44, 34, 92, 34, 41])) .nil)))))) (.cons (.ret (.op2 .idx (.var 1) (.call 20 (.cons (.p ⟨0, []⟩) (.cons (.e (.bif .len (.cons (.var 1) .nil))) .nil))))) .nil))))))))
def fn__law_bad : Fn := ⟨3, 1, [0], code__law_bad⟩
abbrev i__law_bad : Nat := 24
def b1_law : Ss := (.cons (.asg (.nm 9) (.call 20 (.cons (.p ⟨1, []⟩) (.cons (.e (.cst (.int 9))) .nil)))) (.cons (.ite (.val (.op2 .eq (.var 9) (.cst (.int 0)))) (.cons (.app ⟨6, []⟩ (.rep0 (.call 24 (.cons (.p ⟨1, []⟩) .nil)) 10 [40])) (.cons (.asg (.nm 7) (.op2 .idx (.mk (.lst (.cons (.var 7) (.cons (.tup (.cons (.cst (.str [108, 105, 110, 101])) (.cons (.cst (.bl true)) .nil))) .nil)))) (.bif .int (.cons (.op2 .isn (.var 7) (.cst .non)) .nil)))) .nil)) (.cons (.ite (.and (.val (.op2 .eq (.var 9) (.cst (.int 1)))) (.val (.op2 .gt (.var 8) (.cst (.int 0))))) (.cons (.app ⟨6, []⟩ (.call 23 (.cons (.p ⟨1, []⟩) (.cons (.e (.op2 .sub (.var 5) (.cst (.int 1)))) .nil)))) (.cons (.asg (.nm 7) (.op2 .idx (.mk (.lst (.cons (.var 7) (.cons (.tup (.cons (.cst (.str [116, 105, 109, 101])) (.cons (.cst (.bl true)) .nil))) .nil)))) (.bif .int (.cons (.op2 .isn (.var 7) (.cst .non)) .nil)))) .nil)) (.cons (.asg (.nm 5) (.op2 .add (.var 5) (.call 20 (.cons (.p ⟨1, []⟩) (.cons (.e (.cst (.int 3))) .nil))))) (.cons (.app ⟨6, []⟩ (.call 23 (.cons (.p ⟨1, []⟩) (.cons (.e (.var 5)) .nil)))) .nil))) .nil)) .nil))
def b2_law : Ss := (.cons (.asg (.tp [3, 4]) (.call 19 (.cons (.e (.call 23 (.cons (.p ⟨1, []⟩) (.cons (.e (.var 2)) .nil)))) .nil))) (.cons (.ite (.or (.val (.op2 .ne (.call 19 (.cons (.e (.call 24 (.cons (.p ⟨1, []⟩) .nil))) .nil)) (.tup (.cons (.cst (.str [98, 97, 100])) (.cons (.cst (.bl true)) .nil))))) (.or (.val (.op2 .ne (.var 3) (.cst (.str [112, 111, 105, 110, 116])))) (.not (.tru (.bif .isi (.cons (.var 4) (.cons (.cst (.ty "tuple")) .nil))))))) (.cons (.ret (.cst (.bl false))) .nil) .nil) .nil))
def code_law : Ss := (.cons (.own 1 (.call 1 (.cons (.e (.var 0)) (.cons (.e (.cst (.int 200))) .nil)))) (.cons (.for_ (.nm 2) (.r1 (.bif .min2 (.cons (.cst (.int 40)) (.cons (.op2 .add (.cst (.int 6)) (.op2 .fdiv (.bif .len (.cons (.opo .idx (.p ⟨1, []⟩) (.e (.cst (.str [114, 111, 119])))) .nil)) (.cst (.int 2)))) .nil)))) b2_law) (.cons (.asg (.nm 5) (.cst (.int 50))) (.cons (.own 6 (.lst .nil)) (.cons (.asg (.nm 7) (.cst .non)) (.cons (.for_ (.nm 8) (.r1 (.call 20 (.cons (.p ⟨1, []⟩) (.cons (.e (.cst (.int 9))) .nil)))) b1_law) (.cons (.ite (.val (.op2 .isn (.var 7) (.cst .non))) (.cons (.asg (.nm 7) (.bifo .len (.cons (.p ⟨6, []⟩) .nil))) .nil) .nil) (.cons (.ret (.op2 .eq (.call 22 (.cons (.e (.mth .join (.e (.cst (.str []))) (.cons (.mk (.lc [10] (.nm 10) (.lst (.frz ⟨6, []⟩)) .nil (.op2 .add (.var 10) (.cst (.str [10]))))) .nil))) .nil)) (.var 7))) .nil))))))))
def fn_law : Fn := ⟨11, 1, [], code_law⟩
abbrev i_law : Nat := 25
def md : Modu where
  fns := [("_law_mix" : Str), ("_law_stream" : Str), ("" : Str), ("" : Str), ("" : Str), ("" : Str), ("is_number" : Str), ("" : Str), ("word_end" : Str), ("" : Str), ("" : Str), ("is_sign" : Str), ("" : Str), ("" : Str), ("" : Str), ("order_of" : Str), ("row_order" : Str), ("read_line" : Str), ("_law_events" : Str), ("_law_told" : Str), ("_law_pick" : Str), ("read_log" : Str), ("_law_log" : Str), ("_law_good" : Str), ("_law_bad" : Str), ("law" : Str)]
  code := [fn__law_mix, fn__law_stream, fn_Line____init__, fn_Line__next, fn_Line__skip_spaces, fn_Line__expect, fn_is_number, fn_Line__time, fn_word_end, fn_Line__word, fn_Line__number, fn_is_sign, fn_Line__quoted, fn_Line__value, fn_Line__values, fn_order_of, fn_row_order, fn_read_line, fn__law_events, fn__law_told, fn__law_pick, fn_read_log, fn__law_log, fn__law_good, fn__law_bad, fn_law]
  cons := [("MOST" : Str), ("DIGITS" : Str), ("LETTERS" : Str), ("PERCENT" : Str), ("BACKSLASH" : Str), ("LONGEST" : Str)]
  vals := [(.int 1000000000000), (.str [48, 49, 50, 51, 52, 53, 54, 55, 56, 57]), (.str [97, 98, 99, 100, 101, 102, 103, 104, 105, 106, 107, 108, 109, 110, 111, 112, 113, 114, 115, 116, 117, 118, 119, 120, 121, 122, 65, 66, 67, 68, 69, 70, 71, 72, 73, 74, 75, 76, 77, 78, 79, 80, 81, 82, 83, 84, 85, 86, 87, 88, 89, 90]), (.int 37), (.int 92), (.int 40)]
  dcts := []
  dvs := []
  blts := [("int" : Str), ("len" : Str), ("range" : Str), ("min" : Str), ("ord" : Str), ("tuple" : Str), ("isinstance" : Str), ("sorted" : Str), ("str" : Str)]
  flds := [("at" : Str), ("text" : Str)]
  mths := [("next" : Str), ("word" : Str), ("number" : Str), ("quoted" : Str), ("expect" : Str), ("skip_spaces" : Str), ("value" : Str), ("values" : Str), ("time" : Str)]
  clss := [("BadLine" : Str), ("BadTime" : Str), ("Line" : Str), ("LogError" : Str), ("WatchError" : Str)]
  mtab := [[none, none, none, none, none, none, none, none, none], [none, none, none, none, none, none, none, none, none], [some 3, some 9, some 10, some 12, some 5, some 4, some 13, some 14, some 7], [none, none, none, none, none, none, none, none, none], [none, none, none, none, none, none, none, none, none]]
  hft := [[], [], [1, 0], [], []]
  inis := [none, none, some 2, none, none]
  subs := [[some true, some false, none, some true, some true], [some false, some true, none, some true, some true]]
  mks := [some [], some []]
  dms := []
  efs := []
  org := [(.inl ("_law_mix" : Str) : Sum Str (Str × Str)), (.inl ("_law_stream" : Str) : Sum Str (Str × Str)), (.inr (("Line" : Str), ("__init__" : Str)) : Sum Str (Str × Str)), (.inr (("Line" : Str), ("next" : Str)) : Sum Str (Str × Str)), (.inr (("Line" : Str), ("skip_spaces" : Str)) : Sum Str (Str × Str)), (.inr (("Line" : Str), ("expect" : Str)) : Sum Str (Str × Str)), (.inl ("is_number" : Str) : Sum Str (Str × Str)), (.inr (("Line" : Str), ("time" : Str)) : Sum Str (Str × Str)), (.inl ("word_end" : Str) : Sum Str (Str × Str)), (.inr (("Line" : Str), ("word" : Str)) : Sum Str (Str × Str)), (.inr (("Line" : Str), ("number" : Str)) : Sum Str (Str × Str)), (.inl ("is_sign" : Str) : Sum Str (Str × Str)), (.inr (("Line" : Str), ("quoted" : Str)) : Sum Str (Str × Str)), (.inr (("Line" : Str), ("value" : Str)) : Sum Str (Str × Str)), (.inr (("Line" : Str), ("values" : Str)) : Sum Str (Str × Str)), (.inl ("order_of" : Str) : Sum Str (Str × Str)), (.inl ("row_order" : Str) : Sum Str (Str × Str)), (.inl ("read_line" : Str) : Sum Str (Str × Str)), (.inl ("_law_events" : Str) : Sum Str (Str × Str)), (.inl ("_law_told" : Str) : Sum Str (Str × Str)), (.inl ("_law_pick" : Str) : Sum Str (Str × Str)), (.inl ("read_log" : Str) : Sum Str (Str × Str)), (.inl ("_law_log" : Str) : Sum Str (Str × Str)), (.inl ("_law_good" : Str) : Sum Str (Str × Str)), (.inl ("_law_bad" : Str) : Sum Str (Str × Str)), (.inl ("law" : Str) : Sum Str (Str × Str))]
end K31
/-! The derivations of law_k31_lines_that_are_bad (printed by gen2.py). -/
namespace K31
open PySem PySem.Spec PyProof.Rows L2 Mq
def topS (i : Nat) : Stmt := PySem.Challenge.pw_sheetwatch_k31_lines_that_are_bad.main.body.getD i (.Pass ⟨0, 0, 0, 0⟩)
abbrev s__law_mix : Stmt := topS 23
theorem sc__law_mix : FnScope ["cell", "k", "low"] ["cell", "k"] (defScope s__law_mix) := ⟨rfl, rfl, rfl, by decide +kernel, rfl, by decide +kernel, by decide +kernel⟩
abbrev s__law_stream : Stmt := topS 24
theorem sc__law_stream : FnScope ["script", "most", "row", "k", "rest", "j"] ["script", "most"] (defScope s__law_stream) := ⟨rfl, rfl, rfl, by decide +kernel, rfl, by decide +kernel, by decide +kernel⟩
abbrev s_Line____init__ : Stmt := inClass (topS 19) 0
theorem sc_Line____init__ : FnScope ["self", "text"] ["self", "text"] (defScope s_Line____init__) := ⟨rfl, rfl, rfl, by decide +kernel, rfl, by decide +kernel, by decide +kernel⟩
abbrev s_Line__next : Stmt := inClass (topS 19) 1
theorem sc_Line__next : FnScope ["self"] ["self"] (defScope s_Line__next) := ⟨rfl, rfl, rfl, by decide +kernel, rfl, by decide +kernel, by decide +kernel⟩
abbrev s_Line__skip_spaces : Stmt := inClass (topS 19) 2
theorem sc_Line__skip_spaces : FnScope ["self"] ["self"] (defScope s_Line__skip_spaces) := ⟨rfl, rfl, rfl, by decide +kernel, rfl, by decide +kernel, by decide +kernel⟩
abbrev s_Line__expect : Stmt := inClass (topS 19) 3
theorem sc_Line__expect : FnScope ["self", "char"] ["self", "char"] (defScope s_Line__expect) := ⟨rfl, rfl, rfl, by decide +kernel, rfl, by decide +kernel, by decide +kernel⟩
abbrev s_is_number : Stmt := topS 17
theorem sc_is_number : FnScope ["word", "char"] ["word"] (defScope s_is_number) := ⟨rfl, rfl, rfl, by decide +kernel, rfl, by decide +kernel, by decide +kernel⟩
abbrev s_Line__time : Stmt := inClass (topS 19) 6
theorem sc_Line__time : FnScope ["self", "begin", "word"] ["self"] (defScope s_Line__time) := ⟨rfl, rfl, rfl, by decide +kernel, rfl, by decide +kernel, by decide +kernel⟩
abbrev s_word_end : Stmt := topS 16
theorem sc_word_end : FnScope ["text", "start", "end"] ["text", "start"] (defScope s_word_end) := ⟨rfl, rfl, rfl, by decide +kernel, rfl, by decide +kernel, by decide +kernel⟩
abbrev s_Line__word : Stmt := inClass (topS 19) 4
theorem sc_Line__word : FnScope ["self", "end", "found"] ["self"] (defScope s_Line__word) := ⟨rfl, rfl, rfl, by decide +kernel, rfl, by decide +kernel, by decide +kernel⟩
abbrev s_Line__number : Stmt := inClass (topS 19) 5
theorem sc_Line__number : FnScope ["self", "word"] ["self"] (defScope s_Line__number) := ⟨rfl, rfl, rfl, by decide +kernel, rfl, by decide +kernel, by decide +kernel⟩
abbrev s_is_sign : Stmt := topS 15
theorem sc_is_sign : FnScope ["char"] ["char"] (defScope s_is_sign) := ⟨rfl, rfl, rfl, by decide +kernel, rfl, by decide +kernel, by decide +kernel⟩
abbrev s_Line__quoted : Stmt := inClass (topS 19) 7
theorem sc_Line__quoted : FnScope ["self", "end", "found", "char"] ["self"] (defScope s_Line__quoted) := ⟨rfl, rfl, rfl, by decide +kernel, rfl, by decide +kernel, by decide +kernel⟩
abbrev s_Line__value : Stmt := inClass (topS 19) 8
theorem sc_Line__value : FnScope ["self", "kind", "number"] ["self", "kind"] (defScope s_Line__value) := ⟨rfl, rfl, rfl, by decide +kernel, rfl, by decide +kernel, by decide +kernel⟩
abbrev s_Line__values : Stmt := inClass (topS 19) 9
theorem sc_Line__values : FnScope ["self", "kinds", "found", "at"] ["self", "kinds"] (defScope s_Line__values) := ⟨rfl, rfl, rfl, by decide +kernel, rfl, by decide +kernel, by decide +kernel⟩
abbrev s_order_of : Stmt := topS 6
theorem sc_order_of : FnScope ["value"] ["value"] (defScope s_order_of) := ⟨rfl, rfl, rfl, by decide +kernel, rfl, by decide +kernel, by decide +kernel⟩
abbrev s_row_order : Stmt := topS 7
theorem sc_row_order : FnScope ["row", "value"] ["row"] (defScope s_row_order) := ⟨rfl, rfl, rfl, by decide +kernel, rfl, by decide +kernel, by decide +kernel⟩
abbrev s_read_line : Stmt := topS 20
theorem sc_read_line : FnScope ["text", "events", "line", "time", "found", "name", "rows"] ["text", "events"] (defScope s_read_line) := ⟨rfl, rfl, rfl, by decide +kernel, rfl, by decide +kernel, by decide +kernel⟩
abbrev s__law_events : Stmt := topS 26
theorem sc__law_events : FnScope [] [] (defScope s__law_events) := ⟨rfl, rfl, rfl, by decide +kernel, rfl, by decide +kernel, by decide +kernel⟩
abbrev s__law_told : Stmt := topS 29
theorem sc__law_told : FnScope ["line", "e"] ["line"] (defScope s__law_told) := ⟨rfl, rfl, rfl, by decide +kernel, rfl, by decide +kernel, by decide +kernel⟩
abbrev s__law_pick : Stmt := topS 25
theorem sc__law_pick : FnScope ["draws", "many", "at", "number"] ["draws", "many"] (defScope s__law_pick) := ⟨rfl, rfl, rfl, by decide +kernel, rfl, by decide +kernel, by decide +kernel⟩
abbrev s_read_log : Stmt := topS 21
theorem sc_read_log : FnScope ["text", "events", "lines", "log", "line", "point"] ["text", "events"] (defScope s_read_log) := ⟨rfl, rfl, rfl, by decide +kernel, rfl, by decide +kernel, by decide +kernel⟩
abbrev s__law_log : Stmt := topS 30
theorem sc__law_log : FnScope ["text", "e"] ["text"] (defScope s__law_log) := ⟨rfl, rfl, rfl, by decide +kernel, rfl, by decide +kernel, by decide +kernel⟩
abbrev s__law_good : Stmt := topS 27
theorem sc__law_good : FnScope ["draws", "time", "rows"] ["draws", "time"] (defScope s__law_good) := ⟨rfl, rfl, rfl, by decide +kernel, rfl, by decide +kernel, by decide +kernel⟩
abbrev s__law_bad : Stmt := topS 28
theorem sc__law_bad : FnScope ["draws", "rows", "sign"] ["draws"] (defScope s__law_bad) := ⟨rfl, rfl, rfl, by decide +kernel, rfl, by decide +kernel, by decide +kernel⟩
abbrev s_law : Stmt := topS 31
theorem sc_law : FnScope ["script", "draws", "turn", "word", "told", "time", "lines", "due", "k", "pick", "line"] ["script"] (defScope s_law) := ⟨rfl, rfl, rfl, by decide +kernel, rfl, by decide +kernel, by decide +kernel⟩
section
variable {P : Program} {w : World} {K : PySem.W.Frag} {mg : Str → Option Value} {base : Heap}
theorem der__law_mix (k : Nat) (cdv : Value) (A : Around) (outer : List Env) (s : Shared) (H : Hp) (E : XK) (c : Cxt (cxOf (L2.CX P w) P w K mg base ["cell", "k", "low"] "_law_mix" (defScope s__law_mix) (md.fa K 0) cdv A outer s H E) ((md.pg P w K).rc k) (fun cls d _ H => E cls d H) k)
    (m : Md (cxOf (L2.CX P w) P w K mg base ["cell", "k", "low"] "_law_mix" (defScope s__law_mix) (md.fa K 0) cdv A outer s H E) ((md.pg P w K).rc k) md.cons md.blts) (mf : Mf (cxOf (L2.CX P w) P w K mg base ["cell", "k", "low"] "_law_mix" (defScope s__law_mix) (md.fa K 0) cdv A outer s H E) ((md.pg P w K).rc k) k md) (me : Me (cxOf (L2.CX P w) P w K mg base ["cell", "k", "low"] "_law_mix" (defScope s__law_mix) (md.fa K 0) cdv A outer s H E) ((md.pg P w K).rc k) md.clss md.efs) (mr : Mr (cxOf (L2.CX P w) P w K mg base ["cell", "k", "low"] "_law_mix" (defScope s__law_mix) (md.fa K 0) cdv A outer s H E) ((md.pg P w K).rc k)) : PSs (cxOf (L2.CX P w) P w K mg base ["cell", "k", "low"] "_law_mix" (defScope s__law_mix) (md.fa K 0) cdv A outer s H E) (defBody s__law_mix) (code__law_mix.rd ((md.pg P w K).rc k) (fun cls d _ H => E cls d H)) :=
  (ss_cons (z_asg c 2 (d_bin (j_mod c) (d_bif m (b_int c) 0 (s_cons (d_bin (j_add c) (d_bin (j_add c) (d_bin (j_mul c) (d_var 0) d_int) (d_bin (j_mul c) (d_var 1) d_int)) d_int) s_nil)) d_int)) (ss_cons (z_ret (d_bin (j_mod c) (d_bin (j_mod c) (d_bif m (b_int c) 0 (s_cons (d_bin (j_add c) (d_bin (j_add c) (d_bin (j_add c) (d_bin (j_mul c) (d_var 2) (d_var 2)) (d_bin (j_mul c) (d_var 0) d_int)) (d_bin (j_mul c) (d_var 1) d_int)) d_int) s_nil)) d_int) d_int)) ss_nil))
theorem der__law_stream (k : Nat) (cdv : Value) (A : Around) (outer : List Env) (s : Shared) (H : Hp) (E : XK) (c : Cxt (cxOf (L2.CX P w) P w K mg base ["script", "most", "row", "k", "rest", "j"] "_law_stream" (defScope s__law_stream) (md.fa K 1) cdv A outer s H E) ((md.pg P w K).rc k) (fun cls d _ H => E cls d H) k)
    (m : Md (cxOf (L2.CX P w) P w K mg base ["script", "most", "row", "k", "rest", "j"] "_law_stream" (defScope s__law_stream) (md.fa K 1) cdv A outer s H E) ((md.pg P w K).rc k) md.cons md.blts) (mf : Mf (cxOf (L2.CX P w) P w K mg base ["script", "most", "row", "k", "rest", "j"] "_law_stream" (defScope s__law_stream) (md.fa K 1) cdv A outer s H E) ((md.pg P w K).rc k) k md) (me : Me (cxOf (L2.CX P w) P w K mg base ["script", "most", "row", "k", "rest", "j"] "_law_stream" (defScope s__law_stream) (md.fa K 1) cdv A outer s H E) ((md.pg P w K).rc k) md.clss md.efs) (mr : Mr (cxOf (L2.CX P w) P w K mg base ["script", "most", "row", "k", "rest", "j"] "_law_stream" (defScope s__law_stream) (md.fa K 1) cdv A outer s H E) ((md.pg P w K).rc k)) : PSs (cxOf (L2.CX P w) P w K mg base ["script", "most", "row", "k", "rest", "j"] "_law_stream" (defScope s__law_stream) (md.fa K 1) cdv A outer s H E) (defBody s__law_stream) (code__law_stream.rd ((md.pg P w K).rc k) (fun cls d _ H => E cls d H)) :=
  (ss_cons (z_own c 2 (f_lst s_nil)) (ss_cons (z_for c (i_r1 m 2 (d_bif m (b_min c) 3 (s_cons (d_bif m (b_len c) 1 (s_cons (d_var 0) s_nil)) (s_cons d_int s_nil)))) (g_nm c 3) (ss_cons (z_asg c 4 (d_ix c (d_var 0) (d_var 3))) (ss_cons (z_if (t_cmp (k_ge c) (d_var 4) (d_bin (j_pow c) d_int d_int)) (ss_cons (z_for c (i_r1 m 2 d_int) (g_nm c 5) (ss_cons (z_if (PW.pt (w_and (t_cmp (k_gt c) (d_var 4) d_int) (w_and1 (t_cmp (k_lt c) (d_bifo m (b_len c) 1 (a_c (o_p (q_var 2)) a_nil)) (d_var 1))))) (ss_cons (z_app c (q_var 2) (d_bin (j_mod c) (d_bif m (b_int c) 0 (s_cons (d_var 4) s_nil)) d_int)) (ss_cons (z_asg c 4 (d_bin (j_fdiv c) (d_var 4) d_int)) ss_nil)) ss_nil) ss_nil)) ss_nil) (ss_cons (z_for c (i_r1 m 2 d_int) (g_nm c 5) (ss_cons (z_if (t_cmp (k_lt c) (d_bifo m (b_len c) 1 (a_c (o_p (q_var 2)) a_nil)) (d_var 1)) (ss_cons (z_app c (q_var 2) (d_call c mf 0 (a_c (o_e (d_var 4)) (a_c (o_e (d_bin (j_add c) (d_bin (j_mul c) d_int (d_var 5)) (d_var 3))) a_nil)))) ss_nil) ss_nil) ss_nil)) ss_nil)) ss_nil))) (ss_cons (z_retm (f_dct (p_cons p_str (d_frz (q_var 2)) (p_cons p_str d_int (p_cons p_str (d_bifo m (b_len c) 1 (a_c (o_p (q_var 2)) a_nil)) p_nil))))) ss_nil)))
theorem der_Line____init__ (k : Nat) (cdv : Value) (A : Around) (outer : List Env) (s : Shared) (H : Hp) (E : XK) (c : Cxt (cxOf (L2.CX P w) P w K mg base ["self", "text"] "Line.__init__" (defScope s_Line____init__) (md.fa K 2) cdv A outer s H E) ((md.pg P w K).rc k) (fun cls d _ H => E cls d H) k)
    (m : Md (cxOf (L2.CX P w) P w K mg base ["self", "text"] "Line.__init__" (defScope s_Line____init__) (md.fa K 2) cdv A outer s H E) ((md.pg P w K).rc k) md.cons md.blts) (mf : Mf (cxOf (L2.CX P w) P w K mg base ["self", "text"] "Line.__init__" (defScope s_Line____init__) (md.fa K 2) cdv A outer s H E) ((md.pg P w K).rc k) k md) (me : Me (cxOf (L2.CX P w) P w K mg base ["self", "text"] "Line.__init__" (defScope s_Line____init__) (md.fa K 2) cdv A outer s H E) ((md.pg P w K).rc k) md.clss md.efs) (mr : Mr (cxOf (L2.CX P w) P w K mg base ["self", "text"] "Line.__init__" (defScope s_Line____init__) (md.fa K 2) cdv A outer s H E) ((md.pg P w K).rc k)) : PSs (cxOf (L2.CX P w) P w K mg base ["self", "text"] "Line.__init__" (defScope s_Line____init__) (md.fa K 2) cdv A outer s H E) (defBody s_Line____init__) (code_Line____init__.rd ((md.pg P w K).rc k) (fun cls d _ H => E cls d H)) :=
  (ss_cons (z_fset c 1 (q_var 0) (d_var 1)) (ss_cons (z_fset c 0 (q_var 0) d_int) ss_nil))
theorem der_Line__next (k : Nat) (cdv : Value) (A : Around) (outer : List Env) (s : Shared) (H : Hp) (E : XK) (c : Cxt (cxOf (L2.CX P w) P w K mg base ["self"] "Line.next" (defScope s_Line__next) (md.fa K 3) cdv A outer s H E) ((md.pg P w K).rc k) (fun cls d _ H => E cls d H) k)
    (m : Md (cxOf (L2.CX P w) P w K mg base ["self"] "Line.next" (defScope s_Line__next) (md.fa K 3) cdv A outer s H E) ((md.pg P w K).rc k) md.cons md.blts) (mf : Mf (cxOf (L2.CX P w) P w K mg base ["self"] "Line.next" (defScope s_Line__next) (md.fa K 3) cdv A outer s H E) ((md.pg P w K).rc k) k md) (me : Me (cxOf (L2.CX P w) P w K mg base ["self"] "Line.next" (defScope s_Line__next) (md.fa K 3) cdv A outer s H E) ((md.pg P w K).rc k) md.clss md.efs) (mr : Mr (cxOf (L2.CX P w) P w K mg base ["self"] "Line.next" (defScope s_Line__next) (md.fa K 3) cdv A outer s H E) ((md.pg P w K).rc k)) : PSs (cxOf (L2.CX P w) P w K mg base ["self"] "Line.next" (defScope s_Line__next) (md.fa K 3) cdv A outer s H E) (defBody s_Line__next) (code_Line__next.rd ((md.pg P w K).rc k) (fun cls d _ H => E cls d H)) :=
  (ss_cons (z_ret (d_slc c (d_pth (q_f c 1 (q_var 0))) (o_so (d_pth (q_f c 0 (q_var 0)))) (o_so (d_bin (j_add c) (d_pth (q_f c 0 (q_var 0))) d_int)))) ss_nil)
theorem der_Line__skip_spaces (k : Nat) (cdv : Value) (A : Around) (outer : List Env) (s : Shared) (H : Hp) (E : XK) (c : Cxt (cxOf (L2.CX P w) P w K mg base ["self"] "Line.skip_spaces" (defScope s_Line__skip_spaces) (md.fa K 4) cdv A outer s H E) ((md.pg P w K).rc k) (fun cls d _ H => E cls d H) k)
    (m : Md (cxOf (L2.CX P w) P w K mg base ["self"] "Line.skip_spaces" (defScope s_Line__skip_spaces) (md.fa K 4) cdv A outer s H E) ((md.pg P w K).rc k) md.cons md.blts) (mf : Mf (cxOf (L2.CX P w) P w K mg base ["self"] "Line.skip_spaces" (defScope s_Line__skip_spaces) (md.fa K 4) cdv A outer s H E) ((md.pg P w K).rc k) k md) (me : Me (cxOf (L2.CX P w) P w K mg base ["self"] "Line.skip_spaces" (defScope s_Line__skip_spaces) (md.fa K 4) cdv A outer s H E) ((md.pg P w K).rc k) md.clss md.efs) (mr : Mr (cxOf (L2.CX P w) P w K mg base ["self"] "Line.skip_spaces" (defScope s_Line__skip_spaces) (md.fa K 4) cdv A outer s H E) ((md.pg P w K).rc k)) : PSs (cxOf (L2.CX P w) P w K mg base ["self"] "Line.skip_spaces" (defScope s_Line__skip_spaces) (md.fa K 4) cdv A outer s H E) (defBody s_Line__skip_spaces) (code_Line__skip_spaces.rd ((md.pg P w K).rc k) (fun cls d _ H => E cls d H)) :=
  (ss_cons (z_whl c (t_cmp (k_eq c) (d_meth0 c mf 0 (q_var 0)) d_str) (ss_cons (z_fadd c 0 (q_var 0) d_int) ss_nil)) ss_nil)
theorem der_Line__expect (k : Nat) (cdv : Value) (A : Around) (outer : List Env) (s : Shared) (H : Hp) (E : XK) (c : Cxt (cxOf (L2.CX P w) P w K mg base ["self", "char"] "Line.expect" (defScope s_Line__expect) (md.fa K 5) cdv A outer s H E) ((md.pg P w K).rc k) (fun cls d _ H => E cls d H) k)
    (m : Md (cxOf (L2.CX P w) P w K mg base ["self", "char"] "Line.expect" (defScope s_Line__expect) (md.fa K 5) cdv A outer s H E) ((md.pg P w K).rc k) md.cons md.blts) (mf : Mf (cxOf (L2.CX P w) P w K mg base ["self", "char"] "Line.expect" (defScope s_Line__expect) (md.fa K 5) cdv A outer s H E) ((md.pg P w K).rc k) k md) (me : Me (cxOf (L2.CX P w) P w K mg base ["self", "char"] "Line.expect" (defScope s_Line__expect) (md.fa K 5) cdv A outer s H E) ((md.pg P w K).rc k) md.clss md.efs) (mr : Mr (cxOf (L2.CX P w) P w K mg base ["self", "char"] "Line.expect" (defScope s_Line__expect) (md.fa K 5) cdv A outer s H E) ((md.pg P w K).rc k)) : PSs (cxOf (L2.CX P w) P w K mg base ["self", "char"] "Line.expect" (defScope s_Line__expect) (md.fa K 5) cdv A outer s H E) (defBody s_Line__expect) (code_Line__expect.rd ((md.pg P w K).rc k) (fun cls d _ H => E cls d H)) :=
  (ss_cons (z_if (t_cmp (k_ne c) (d_meth0 c mf 0 (q_var 0)) (d_var 1)) (ss_cons (z_rs0 c me mr 0) ss_nil) ss_nil) (ss_cons (z_fadd c 0 (q_var 0) d_int) ss_nil))
theorem der_is_number (k : Nat) (cdv : Value) (A : Around) (outer : List Env) (s : Shared) (H : Hp) (E : XK) (c : Cxt (cxOf (L2.CX P w) P w K mg base ["word", "char"] "is_number" (defScope s_is_number) (md.fa K 6) cdv A outer s H E) ((md.pg P w K).rc k) (fun cls d _ H => E cls d H) k)
    (m : Md (cxOf (L2.CX P w) P w K mg base ["word", "char"] "is_number" (defScope s_is_number) (md.fa K 6) cdv A outer s H E) ((md.pg P w K).rc k) md.cons md.blts) (mf : Mf (cxOf (L2.CX P w) P w K mg base ["word", "char"] "is_number" (defScope s_is_number) (md.fa K 6) cdv A outer s H E) ((md.pg P w K).rc k) k md) (me : Me (cxOf (L2.CX P w) P w K mg base ["word", "char"] "is_number" (defScope s_is_number) (md.fa K 6) cdv A outer s H E) ((md.pg P w K).rc k) md.clss md.efs) (mr : Mr (cxOf (L2.CX P w) P w K mg base ["word", "char"] "is_number" (defScope s_is_number) (md.fa K 6) cdv A outer s H E) ((md.pg P w K).rc k)) : PSs (cxOf (L2.CX P w) P w K mg base ["word", "char"] "is_number" (defScope s_is_number) (md.fa K 6) cdv A outer s H E) (defBody s_is_number) (code_is_number.rd ((md.pg P w K).rc k) (fun cls d _ H => E cls d H)) :=
  (ss_cons (z_if (PW.pt (w_or (t_cmp (k_eq c) (d_var 0) d_str) (w_or (t_cmp (k_gt c) (d_bif m (b_len c) 1 (s_cons (d_var 0) s_nil)) d_int) (w_or1 (PW.pt (w_and (t_cmp (k_eq c) (d_ix c (d_var 0) d_int) d_str) (w_and1 (t_cmp (k_gt c) (d_bif m (b_len c) 1 (s_cons (d_var 0) s_nil)) d_int)))))))) (ss_cons (z_ret d_bl) ss_nil) ss_nil) (ss_cons (z_for c (i_str (d_var 0)) (g_nm c 1) (ss_cons (z_if (t_cmp (k_nin c) (d_var 1) (d_glb m 1)) (ss_cons (z_ret d_bl) ss_nil) ss_nil) ss_nil)) (ss_cons (z_ret (d_cmp (k_le c) (d_bif m (b_int c) 0 (s_cons (d_var 0) s_nil)) (d_glb m 0))) ss_nil)))
theorem der_Line__time (k : Nat) (cdv : Value) (A : Around) (outer : List Env) (s : Shared) (H : Hp) (E : XK) (c : Cxt (cxOf (L2.CX P w) P w K mg base ["self", "begin", "word"] "Line.time" (defScope s_Line__time) (md.fa K 7) cdv A outer s H E) ((md.pg P w K).rc k) (fun cls d _ H => E cls d H) k)
    (m : Md (cxOf (L2.CX P w) P w K mg base ["self", "begin", "word"] "Line.time" (defScope s_Line__time) (md.fa K 7) cdv A outer s H E) ((md.pg P w K).rc k) md.cons md.blts) (mf : Mf (cxOf (L2.CX P w) P w K mg base ["self", "begin", "word"] "Line.time" (defScope s_Line__time) (md.fa K 7) cdv A outer s H E) ((md.pg P w K).rc k) k md) (me : Me (cxOf (L2.CX P w) P w K mg base ["self", "begin", "word"] "Line.time" (defScope s_Line__time) (md.fa K 7) cdv A outer s H E) ((md.pg P w K).rc k) md.clss md.efs) (mr : Mr (cxOf (L2.CX P w) P w K mg base ["self", "begin", "word"] "Line.time" (defScope s_Line__time) (md.fa K 7) cdv A outer s H E) ((md.pg P w K).rc k)) : PSs (cxOf (L2.CX P w) P w K mg base ["self", "begin", "word"] "Line.time" (defScope s_Line__time) (md.fa K 7) cdv A outer s H E) (defBody s_Line__time) (code_Line__time.rd ((md.pg P w K).rc k) (fun cls d _ H => E cls d H)) :=
  (ss_cons (z_asg c 1 (d_pth (q_f c 0 (q_var 0)))) (ss_cons (z_whl c (PW.pt (w_and (t_cmp (k_ne c) (d_meth0 c mf 0 (q_var 0)) d_str) (w_and1 (t_cmp (k_in c) (d_meth0 c mf 0 (q_var 0)) (d_glb m 1))))) (ss_cons (z_fadd c 0 (q_var 0) d_int) ss_nil)) (ss_cons (z_asg c 2 (d_slc c (d_pth (q_f c 1 (q_var 0))) (o_so (d_var 1)) (o_so (d_pth (q_f c 0 (q_var 0)))))) (ss_cons (z_if (t_not (t_tru c (d_call c mf 6 (a_c (o_e (d_var 2)) a_nil)))) (ss_cons (z_rs0 c me mr 0) ss_nil) ss_nil) (ss_cons (z_ret (d_bif m (b_int c) 0 (s_cons (d_var 2) s_nil))) ss_nil)))))
theorem der_word_end (k : Nat) (cdv : Value) (A : Around) (outer : List Env) (s : Shared) (H : Hp) (E : XK) (c : Cxt (cxOf (L2.CX P w) P w K mg base ["text", "start", "end"] "word_end" (defScope s_word_end) (md.fa K 8) cdv A outer s H E) ((md.pg P w K).rc k) (fun cls d _ H => E cls d H) k)
    (m : Md (cxOf (L2.CX P w) P w K mg base ["text", "start", "end"] "word_end" (defScope s_word_end) (md.fa K 8) cdv A outer s H E) ((md.pg P w K).rc k) md.cons md.blts) (mf : Mf (cxOf (L2.CX P w) P w K mg base ["text", "start", "end"] "word_end" (defScope s_word_end) (md.fa K 8) cdv A outer s H E) ((md.pg P w K).rc k) k md) (me : Me (cxOf (L2.CX P w) P w K mg base ["text", "start", "end"] "word_end" (defScope s_word_end) (md.fa K 8) cdv A outer s H E) ((md.pg P w K).rc k) md.clss md.efs) (mr : Mr (cxOf (L2.CX P w) P w K mg base ["text", "start", "end"] "word_end" (defScope s_word_end) (md.fa K 8) cdv A outer s H E) ((md.pg P w K).rc k)) : PSs (cxOf (L2.CX P w) P w K mg base ["text", "start", "end"] "word_end" (defScope s_word_end) (md.fa K 8) cdv A outer s H E) (defBody s_word_end) (code_word_end.rd ((md.pg P w K).rc k) (fun cls d _ H => E cls d H)) :=
  (ss_cons (z_asg c 2 (d_var 1)) (ss_cons (z_whl c (PW.pt (w_and (t_cmp (k_lt c) (d_var 2) (d_bif m (b_len c) 1 (s_cons (d_var 0) s_nil))) (w_and1 (PW.pt (w_or (t_cmp (k_in c) (d_ix c (d_var 0) (d_var 2)) (d_glb m 2)) (w_or (t_cmp (k_in c) (d_ix c (d_var 0) (d_var 2)) (d_glb m 1)) (w_or1 (t_cmp (k_eq c) (d_ix c (d_var 0) (d_var 2)) d_str)))))))) (ss_cons (z_add c 2 d_int) ss_nil)) (ss_cons (z_ret (d_var 2)) ss_nil)))
theorem der_Line__word (k : Nat) (cdv : Value) (A : Around) (outer : List Env) (s : Shared) (H : Hp) (E : XK) (c : Cxt (cxOf (L2.CX P w) P w K mg base ["self", "end", "found"] "Line.word" (defScope s_Line__word) (md.fa K 9) cdv A outer s H E) ((md.pg P w K).rc k) (fun cls d _ H => E cls d H) k)
    (m : Md (cxOf (L2.CX P w) P w K mg base ["self", "end", "found"] "Line.word" (defScope s_Line__word) (md.fa K 9) cdv A outer s H E) ((md.pg P w K).rc k) md.cons md.blts) (mf : Mf (cxOf (L2.CX P w) P w K mg base ["self", "end", "found"] "Line.word" (defScope s_Line__word) (md.fa K 9) cdv A outer s H E) ((md.pg P w K).rc k) k md) (me : Me (cxOf (L2.CX P w) P w K mg base ["self", "end", "found"] "Line.word" (defScope s_Line__word) (md.fa K 9) cdv A outer s H E) ((md.pg P w K).rc k) md.clss md.efs) (mr : Mr (cxOf (L2.CX P w) P w K mg base ["self", "end", "found"] "Line.word" (defScope s_Line__word) (md.fa K 9) cdv A outer s H E) ((md.pg P w K).rc k)) : PSs (cxOf (L2.CX P w) P w K mg base ["self", "end", "found"] "Line.word" (defScope s_Line__word) (md.fa K 9) cdv A outer s H E) (defBody s_Line__word) (code_Line__word.rd ((md.pg P w K).rc k) (fun cls d _ H => E cls d H)) :=
  (ss_cons (z_asg c 1 (d_call c mf 8 (a_c (o_e (d_pth (q_f c 1 (q_var 0)))) (a_c (o_e (d_pth (q_f c 0 (q_var 0)))) a_nil)))) (ss_cons (z_asg c 2 (d_slc c (d_pth (q_f c 1 (q_var 0))) (o_so (d_pth (q_f c 0 (q_var 0)))) (o_so (d_var 1)))) (ss_cons (z_fset c 0 (q_var 0) (d_var 1)) (ss_cons (z_ret (d_var 2)) ss_nil))))
theorem der_Line__number (k : Nat) (cdv : Value) (A : Around) (outer : List Env) (s : Shared) (H : Hp) (E : XK) (c : Cxt (cxOf (L2.CX P w) P w K mg base ["self", "word"] "Line.number" (defScope s_Line__number) (md.fa K 10) cdv A outer s H E) ((md.pg P w K).rc k) (fun cls d _ H => E cls d H) k)
    (m : Md (cxOf (L2.CX P w) P w K mg base ["self", "word"] "Line.number" (defScope s_Line__number) (md.fa K 10) cdv A outer s H E) ((md.pg P w K).rc k) md.cons md.blts) (mf : Mf (cxOf (L2.CX P w) P w K mg base ["self", "word"] "Line.number" (defScope s_Line__number) (md.fa K 10) cdv A outer s H E) ((md.pg P w K).rc k) k md) (me : Me (cxOf (L2.CX P w) P w K mg base ["self", "word"] "Line.number" (defScope s_Line__number) (md.fa K 10) cdv A outer s H E) ((md.pg P w K).rc k) md.clss md.efs) (mr : Mr (cxOf (L2.CX P w) P w K mg base ["self", "word"] "Line.number" (defScope s_Line__number) (md.fa K 10) cdv A outer s H E) ((md.pg P w K).rc k)) : PSs (cxOf (L2.CX P w) P w K mg base ["self", "word"] "Line.number" (defScope s_Line__number) (md.fa K 10) cdv A outer s H E) (defBody s_Line__number) (code_Line__number.rd ((md.pg P w K).rc k) (fun cls d _ H => E cls d H)) :=
  (ss_cons (z_asg c 1 (d_meth0 c mf 1 (q_var 0))) (ss_cons (z_if (t_not (t_tru c (d_call c mf 6 (a_c (o_e (d_var 1)) a_nil)))) (ss_cons (z_rs0 c me mr 0) ss_nil) ss_nil) (ss_cons (z_ret (d_bif m (b_int c) 0 (s_cons (d_var 1) s_nil))) ss_nil)))
theorem der_is_sign (k : Nat) (cdv : Value) (A : Around) (outer : List Env) (s : Shared) (H : Hp) (E : XK) (c : Cxt (cxOf (L2.CX P w) P w K mg base ["char"] "is_sign" (defScope s_is_sign) (md.fa K 11) cdv A outer s H E) ((md.pg P w K).rc k) (fun cls d _ H => E cls d H) k)
    (m : Md (cxOf (L2.CX P w) P w K mg base ["char"] "is_sign" (defScope s_is_sign) (md.fa K 11) cdv A outer s H E) ((md.pg P w K).rc k) md.cons md.blts) (mf : Mf (cxOf (L2.CX P w) P w K mg base ["char"] "is_sign" (defScope s_is_sign) (md.fa K 11) cdv A outer s H E) ((md.pg P w K).rc k) k md) (me : Me (cxOf (L2.CX P w) P w K mg base ["char"] "is_sign" (defScope s_is_sign) (md.fa K 11) cdv A outer s H E) ((md.pg P w K).rc k) md.clss md.efs) (mr : Mr (cxOf (L2.CX P w) P w K mg base ["char"] "is_sign" (defScope s_is_sign) (md.fa K 11) cdv A outer s H E) ((md.pg P w K).rc k)) : PSs (cxOf (L2.CX P w) P w K mg base ["char"] "is_sign" (defScope s_is_sign) (md.fa K 11) cdv A outer s H E) (defBody s_is_sign) (code_is_sign.rd ((md.pg P w K).rc k) (fun cls d _ H => E cls d H)) :=
  (ss_cons (z_ret (d_and c (d_chain (k_le c) (k_le c) d_str (d_var 0) d_str) (d_and c (d_cmp (k_ne c) (d_bif m (b_ord c) 4 (s_cons (d_var 0) s_nil)) (d_glb m 3)) (d_one (d_cmp (k_ne c) (d_bif m (b_ord c) 4 (s_cons (d_var 0) s_nil)) (d_glb m 4)))))) ss_nil)
theorem der_Line__quoted (k : Nat) (cdv : Value) (A : Around) (outer : List Env) (s : Shared) (H : Hp) (E : XK) (c : Cxt (cxOf (L2.CX P w) P w K mg base ["self", "end", "found", "char"] "Line.quoted" (defScope s_Line__quoted) (md.fa K 12) cdv A outer s H E) ((md.pg P w K).rc k) (fun cls d _ H => E cls d H) k)
    (m : Md (cxOf (L2.CX P w) P w K mg base ["self", "end", "found", "char"] "Line.quoted" (defScope s_Line__quoted) (md.fa K 12) cdv A outer s H E) ((md.pg P w K).rc k) md.cons md.blts) (mf : Mf (cxOf (L2.CX P w) P w K mg base ["self", "end", "found", "char"] "Line.quoted" (defScope s_Line__quoted) (md.fa K 12) cdv A outer s H E) ((md.pg P w K).rc k) k md) (me : Me (cxOf (L2.CX P w) P w K mg base ["self", "end", "found", "char"] "Line.quoted" (defScope s_Line__quoted) (md.fa K 12) cdv A outer s H E) ((md.pg P w K).rc k) md.clss md.efs) (mr : Mr (cxOf (L2.CX P w) P w K mg base ["self", "end", "found", "char"] "Line.quoted" (defScope s_Line__quoted) (md.fa K 12) cdv A outer s H E) ((md.pg P w K).rc k)) : PSs (cxOf (L2.CX P w) P w K mg base ["self", "end", "found", "char"] "Line.quoted" (defScope s_Line__quoted) (md.fa K 12) cdv A outer s H E) (defBody s_Line__quoted) (code_Line__quoted.rd ((md.pg P w K).rc k) (fun cls d _ H => E cls d H)) :=
  (ss_cons (z_asg c 1 (d_mth c (m_find3 c) (o_e (d_pth (q_f c 1 (q_var 0)))) (s_cons d_str (s_cons (d_bin (j_add c) (d_pth (q_f c 0 (q_var 0))) d_int) s_nil)))) (ss_cons (z_if (PW.pt (w_or (t_cmp (k_lt c) (d_var 1) d_int) (w_or1 (t_cmp (k_gt c) (d_bin (j_sub c) (d_bin (j_sub c) (d_var 1) (d_pth (q_f c 0 (q_var 0)))) d_int) (d_glb m 5))))) (ss_cons (z_rs0 c me mr 0) ss_nil) ss_nil) (ss_cons (z_asg c 2 (d_slc c (d_pth (q_f c 1 (q_var 0))) (o_so (d_bin (j_add c) (d_pth (q_f c 0 (q_var 0))) d_int)) (o_so (d_var 1)))) (ss_cons (z_for c (i_str (d_var 2)) (g_nm c 3) (ss_cons (z_if (t_not (t_tru c (d_call c mf 11 (a_c (o_e (d_var 3)) a_nil)))) (ss_cons (z_rs0 c me mr 0) ss_nil) ss_nil) ss_nil)) (ss_cons (z_fset c 0 (q_var 0) (d_bin (j_add c) (d_var 1) d_int)) (ss_cons (z_ret (d_var 2)) ss_nil))))))
theorem der_Line__value (k : Nat) (cdv : Value) (A : Around) (outer : List Env) (s : Shared) (H : Hp) (E : XK) (c : Cxt (cxOf (L2.CX P w) P w K mg base ["self", "kind", "number"] "Line.value" (defScope s_Line__value) (md.fa K 13) cdv A outer s H E) ((md.pg P w K).rc k) (fun cls d _ H => E cls d H) k)
    (m : Md (cxOf (L2.CX P w) P w K mg base ["self", "kind", "number"] "Line.value" (defScope s_Line__value) (md.fa K 13) cdv A outer s H E) ((md.pg P w K).rc k) md.cons md.blts) (mf : Mf (cxOf (L2.CX P w) P w K mg base ["self", "kind", "number"] "Line.value" (defScope s_Line__value) (md.fa K 13) cdv A outer s H E) ((md.pg P w K).rc k) k md) (me : Me (cxOf (L2.CX P w) P w K mg base ["self", "kind", "number"] "Line.value" (defScope s_Line__value) (md.fa K 13) cdv A outer s H E) ((md.pg P w K).rc k) md.clss md.efs) (mr : Mr (cxOf (L2.CX P w) P w K mg base ["self", "kind", "number"] "Line.value" (defScope s_Line__value) (md.fa K 13) cdv A outer s H E) ((md.pg P w K).rc k)) : PSs (cxOf (L2.CX P w) P w K mg base ["self", "kind", "number"] "Line.value" (defScope s_Line__value) (md.fa K 13) cdv A outer s H E) (defBody s_Line__value) (code_Line__value.rd ((md.pg P w K).rc k) (fun cls d _ H => E cls d H)) :=
  (ss_cons (z_if (t_cmp (k_eq c) (d_meth0 c mf 0 (q_var 0)) d_str) (ss_cons (z_if (t_cmp (k_ne c) (d_var 1) d_str) (ss_cons (z_rs0 c me mr 0) ss_nil) ss_nil) (ss_cons (z_ret (d_meth0 c mf 3 (q_var 0))) ss_nil)) ss_nil) (ss_cons (z_if (t_cmp (k_ne c) (d_var 1) d_str) (ss_cons (z_rs0 c me mr 0) ss_nil) ss_nil) (ss_cons (z_if (t_cmp (k_eq c) (d_meth0 c mf 0 (q_var 0)) d_str) (ss_cons (z_fadd c 0 (q_var 0) d_int) (ss_cons (z_asg c 2 (d_meth0 c mf 2 (q_var 0))) (ss_cons (z_if (t_cmp (k_eq c) (d_var 2) d_int) (ss_cons (z_rs0 c me mr 0) ss_nil) ss_nil) (ss_cons (z_ret (d_neg (d_var 2))) ss_nil)))) ss_nil) (ss_cons (z_ret (d_meth0 c mf 2 (q_var 0))) ss_nil))))
theorem der_Line__values (k : Nat) (cdv : Value) (A : Around) (outer : List Env) (s : Shared) (H : Hp) (E : XK) (c : Cxt (cxOf (L2.CX P w) P w K mg base ["self", "kinds", "found", "at"] "Line.values" (defScope s_Line__values) (md.fa K 14) cdv A outer s H E) ((md.pg P w K).rc k) (fun cls d _ H => E cls d H) k)
    (m : Md (cxOf (L2.CX P w) P w K mg base ["self", "kinds", "found", "at"] "Line.values" (defScope s_Line__values) (md.fa K 14) cdv A outer s H E) ((md.pg P w K).rc k) md.cons md.blts) (mf : Mf (cxOf (L2.CX P w) P w K mg base ["self", "kinds", "found", "at"] "Line.values" (defScope s_Line__values) (md.fa K 14) cdv A outer s H E) ((md.pg P w K).rc k) k md) (me : Me (cxOf (L2.CX P w) P w K mg base ["self", "kinds", "found", "at"] "Line.values" (defScope s_Line__values) (md.fa K 14) cdv A outer s H E) ((md.pg P w K).rc k) md.clss md.efs) (mr : Mr (cxOf (L2.CX P w) P w K mg base ["self", "kinds", "found", "at"] "Line.values" (defScope s_Line__values) (md.fa K 14) cdv A outer s H E) ((md.pg P w K).rc k)) : PSs (cxOf (L2.CX P w) P w K mg base ["self", "kinds", "found", "at"] "Line.values" (defScope s_Line__values) (md.fa K 14) cdv A outer s H E) (defBody s_Line__values) (code_Line__values.rd ((md.pg P w K).rc k) (fun cls d _ H => E cls d H)) :=
  (ss_cons (z_drop (d_meth c mf 4 (q_var 0) (a_c (o_e d_str) a_nil))) (ss_cons (z_own c 2 (f_lst s_nil)) (ss_cons (z_for c (i_r1 m 2 (d_bif m (b_len c) 1 (s_cons (d_var 1) s_nil))) (g_nm c 3) (ss_cons (z_if (t_cmp (k_gt c) (d_var 3) d_int) (ss_cons (z_drop (d_meth c mf 4 (q_var 0) (a_c (o_e d_str) a_nil))) ss_nil) ss_nil) (ss_cons (z_drop (d_meth0 c mf 5 (q_var 0))) (ss_cons (z_app c (q_var 2) (d_meth c mf 6 (q_var 0) (a_c (o_e (d_ix c (d_var 1) (d_var 3))) a_nil))) (ss_cons (z_drop (d_meth0 c mf 5 (q_var 0))) ss_nil))))) (ss_cons (z_drop (d_meth0 c mf 5 (q_var 0))) (ss_cons (z_drop (d_meth c mf 4 (q_var 0) (a_c (o_e d_str) a_nil))) (ss_cons (z_ret (d_bifo m (b_tuple c) 5 (a_c (o_p (q_var 2)) a_nil))) ss_nil))))))
theorem der_order_of (k : Nat) (cdv : Value) (A : Around) (outer : List Env) (s : Shared) (H : Hp) (E : XK) (c : Cxt (cxOf (L2.CX P w) P w K mg base ["value"] "order_of" (defScope s_order_of) (md.fa K 15) cdv A outer s H E) ((md.pg P w K).rc k) (fun cls d _ H => E cls d H) k)
    (m : Md (cxOf (L2.CX P w) P w K mg base ["value"] "order_of" (defScope s_order_of) (md.fa K 15) cdv A outer s H E) ((md.pg P w K).rc k) md.cons md.blts) (mf : Mf (cxOf (L2.CX P w) P w K mg base ["value"] "order_of" (defScope s_order_of) (md.fa K 15) cdv A outer s H E) ((md.pg P w K).rc k) k md) (me : Me (cxOf (L2.CX P w) P w K mg base ["value"] "order_of" (defScope s_order_of) (md.fa K 15) cdv A outer s H E) ((md.pg P w K).rc k) md.clss md.efs) (mr : Mr (cxOf (L2.CX P w) P w K mg base ["value"] "order_of" (defScope s_order_of) (md.fa K 15) cdv A outer s H E) ((md.pg P w K).rc k)) : PSs (cxOf (L2.CX P w) P w K mg base ["value"] "order_of" (defScope s_order_of) (md.fa K 15) cdv A outer s H E) (defBody s_order_of) (code_order_of.rd ((md.pg P w K).rc k) (fun cls d _ H => E cls d H)) :=
  (ss_cons (z_if (t_tru c (d_bif m (b_isi c) 6 (s_cons (d_var 0) (s_cons (d_ty m 0) s_nil)))) (ss_cons (z_ret (d_tup (s_cons d_int (s_cons (d_var 0) s_nil)))) ss_nil) ss_nil) (ss_cons (z_ret (d_tup (s_cons d_int (s_cons (d_var 0) s_nil)))) ss_nil))
theorem der_row_order (k : Nat) (cdv : Value) (A : Around) (outer : List Env) (s : Shared) (H : Hp) (E : XK) (c : Cxt (cxOf (L2.CX P w) P w K mg base ["row", "value"] "row_order" (defScope s_row_order) (md.fa K 16) cdv A outer s H E) ((md.pg P w K).rc k) (fun cls d _ H => E cls d H) k)
    (m : Md (cxOf (L2.CX P w) P w K mg base ["row", "value"] "row_order" (defScope s_row_order) (md.fa K 16) cdv A outer s H E) ((md.pg P w K).rc k) md.cons md.blts) (mf : Mf (cxOf (L2.CX P w) P w K mg base ["row", "value"] "row_order" (defScope s_row_order) (md.fa K 16) cdv A outer s H E) ((md.pg P w K).rc k) k md) (me : Me (cxOf (L2.CX P w) P w K mg base ["row", "value"] "row_order" (defScope s_row_order) (md.fa K 16) cdv A outer s H E) ((md.pg P w K).rc k) md.clss md.efs) (mr : Mr (cxOf (L2.CX P w) P w K mg base ["row", "value"] "row_order" (defScope s_row_order) (md.fa K 16) cdv A outer s H E) ((md.pg P w K).rc k)) : PSs (cxOf (L2.CX P w) P w K mg base ["row", "value"] "row_order" (defScope s_row_order) (md.fa K 16) cdv A outer s H E) (defBody s_row_order) (code_row_order.rd ((md.pg P w K).rc k) (fun cls d _ H => E cls d H)) :=
  (ss_cons (z_ret (d_bif m (b_tuple c) 5 (s_cons (d_mk (f_lc c [("value", 1)] (i_tup c (d_var 0)) (fun s1 H1 C1 cl1 fp1 c => have mf := Mf.blk (s := s1) (H := H1) (fp := fp1) mf; ⟨(g_nm c 1), ts_nil, (d_call c mf 15 (a_c (o_e (d_var 1)) a_nil))⟩))) s_nil))) ss_nil)
theorem der_read_line (k : Nat) (cdv : Value) (A : Around) (outer : List Env) (s : Shared) (H : Hp) (E : XK) (c : Cxt (cxOf (L2.CX P w) P w K mg base ["text", "events", "line", "time", "found", "name", "rows"] "read_line" (defScope s_read_line) (md.fa K 17) cdv A outer s H E) ((md.pg P w K).rc k) (fun cls d _ H => E cls d H) k)
    (m : Md (cxOf (L2.CX P w) P w K mg base ["text", "events", "line", "time", "found", "name", "rows"] "read_line" (defScope s_read_line) (md.fa K 17) cdv A outer s H E) ((md.pg P w K).rc k) md.cons md.blts) (mf : Mf (cxOf (L2.CX P w) P w K mg base ["text", "events", "line", "time", "found", "name", "rows"] "read_line" (defScope s_read_line) (md.fa K 17) cdv A outer s H E) ((md.pg P w K).rc k) k md) (me : Me (cxOf (L2.CX P w) P w K mg base ["text", "events", "line", "time", "found", "name", "rows"] "read_line" (defScope s_read_line) (md.fa K 17) cdv A outer s H E) ((md.pg P w K).rc k) md.clss md.efs) (mr : Mr (cxOf (L2.CX P w) P w K mg base ["text", "events", "line", "time", "found", "name", "rows"] "read_line" (defScope s_read_line) (md.fa K 17) cdv A outer s H E) ((md.pg P w K).rc k)) : PSs (cxOf (L2.CX P w) P w K mg base ["text", "events", "line", "time", "found", "name", "rows"] "read_line" (defScope s_read_line) (md.fa K 17) cdv A outer s H E) (defBody s_read_line) (code_read_line.rd ((md.pg P w K).rc k) (fun cls d _ H => E cls d H)) :=
  (ss_cons (z_own c 2 (f_new c mf 2 2 (a_c (o_e (d_var 0)) a_nil))) (ss_cons (z_drop (d_meth0 c mf 5 (q_var 2))) (ss_cons (z_drop (d_meth c mf 4 (q_var 2) (a_c (o_e d_str) a_nil))) (ss_cons (z_asg c 3 (d_meth0 c mf 8 (q_var 2))) (ss_cons (z_own c 4 f_dnew) (ss_cons (z_drop (d_meth0 c mf 5 (q_var 2))) (ss_cons (z_whl c (t_cmp (k_lt c) (d_pth (q_f c 0 (q_var 2))) (d_bif m (b_len c) 1 (s_cons (d_var 0) s_nil))) (ss_cons (z_asg c 5 (d_meth0 c mf 1 (q_var 2))) (ss_cons (z_if (t_cmp (k_nin c) (d_var 5) (d_var 1)) (ss_cons (z_rs0 c me mr 0) ss_nil) ss_nil) (ss_cons (z_drop (d_meth0 c mf 5 (q_var 2))) (ss_cons (z_sdset c 4 (q_var 4) (d_var 5) (d_meth c mf 7 (q_var 2) (a_c (o_e (d_ix c (d_var 1) (d_var 5))) a_nil)) d_bl) (ss_cons (z_drop (d_meth0 c mf 5 (q_var 2))) ss_nil)))))) (ss_cons (z_asgLc c 6 [("name", 5)] (i_lst c (d_bif m (b_sorted c) 7 (s_cons (d_frz (q_var 4)) s_nil))) (fun s1 H1 C1 cl1 fp1 c => have m := Md.blk (s := s1) (H := H1) (fp := fp1) m; have mf := Mf.blk (s := s1) (H := H1) (fp := fp1) mf; ⟨(g_nm c 5), ts_nil, (d_tup (s_cons (d_var 5) (s_cons (d_bif m (b_tuple c) 5 (s_cons (d_mk (f_srtk c m mf 16 7 (d_ix c (d_frz (q_var 4)) (d_var 5)))) s_nil)) s_nil)))⟩)) (ss_cons (z_ret (d_tup (s_cons (d_var 3) (s_cons (d_bif m (b_tuple c) 5 (s_cons (d_var 6) s_nil)) s_nil)))) ss_nil)))))))))
theorem der__law_events (k : Nat) (cdv : Value) (A : Around) (outer : List Env) (s : Shared) (H : Hp) (E : XK) (c : Cxt (cxOf (L2.CX P w) P w K mg base [] "_law_events" (defScope s__law_events) (md.fa K 18) cdv A outer s H E) ((md.pg P w K).rc k) (fun cls d _ H => E cls d H) k)
    (m : Md (cxOf (L2.CX P w) P w K mg base [] "_law_events" (defScope s__law_events) (md.fa K 18) cdv A outer s H E) ((md.pg P w K).rc k) md.cons md.blts) (mf : Mf (cxOf (L2.CX P w) P w K mg base [] "_law_events" (defScope s__law_events) (md.fa K 18) cdv A outer s H E) ((md.pg P w K).rc k) k md) (me : Me (cxOf (L2.CX P w) P w K mg base [] "_law_events" (defScope s__law_events) (md.fa K 18) cdv A outer s H E) ((md.pg P w K).rc k) md.clss md.efs) (mr : Mr (cxOf (L2.CX P w) P w K mg base [] "_law_events" (defScope s__law_events) (md.fa K 18) cdv A outer s H E) ((md.pg P w K).rc k)) : PSs (cxOf (L2.CX P w) P w K mg base [] "_law_events" (defScope s__law_events) (md.fa K 18) cdv A outer s H E) (defBody s__law_events) (code__law_events.rd ((md.pg P w K).rc k) (fun cls d _ H => E cls d H)) :=
  (ss_cons (z_retm (f_dct (p_cons p_str (d_tup s_nil) (p_cons p_str (d_tup (s_cons d_str s_nil)) (p_cons p_str (d_tup (s_cons d_str (s_cons d_str s_nil))) p_nil))))) ss_nil)
theorem der__law_told (k : Nat) (cdv : Value) (A : Around) (outer : List Env) (s : Shared) (H : Hp) (E : XK) (c : Cxt (cxOf (L2.CX P w) P w K mg base ["line", "e"] "_law_told" (defScope s__law_told) (md.fa K 19) cdv A outer s H E) ((md.pg P w K).rc k) (fun cls d _ H => E cls d H) k)
    (m : Md (cxOf (L2.CX P w) P w K mg base ["line", "e"] "_law_told" (defScope s__law_told) (md.fa K 19) cdv A outer s H E) ((md.pg P w K).rc k) md.cons md.blts) (mf : Mf (cxOf (L2.CX P w) P w K mg base ["line", "e"] "_law_told" (defScope s__law_told) (md.fa K 19) cdv A outer s H E) ((md.pg P w K).rc k) k md) (me : Me (cxOf (L2.CX P w) P w K mg base ["line", "e"] "_law_told" (defScope s__law_told) (md.fa K 19) cdv A outer s H E) ((md.pg P w K).rc k) md.clss md.efs) (mr : Mr (cxOf (L2.CX P w) P w K mg base ["line", "e"] "_law_told" (defScope s__law_told) (md.fa K 19) cdv A outer s H E) ((md.pg P w K).rc k)) : PSs (cxOf (L2.CX P w) P w K mg base ["line", "e"] "_law_told" (defScope s__law_told) (md.fa K 19) cdv A outer s H E) (defBody s__law_told) (code__law_told.rd ((md.pg P w K).rc k) (fun cls d _ H => E cls d H)) :=
  (ss_cons (z_try c (fun W1 pl1 xe1 c => have m := Md.tr (pl := pl1) (xe := xe1) m; have mf := Mf.tr (pl := pl1) (xe := xe1) mf; have me := Me.tr (pl := pl1) (xe := xe1) me; have mr := Mr.tr (pl := pl1) (xe := xe1) mr; (ss_cons (z_ret (d_tup (s_cons d_str (s_cons (d_call c mf 17 (a_c (o_e (d_var 0)) (a_c (o_e (d_mk (f_call0 c mf 18))) a_nil))) s_nil)))) ss_nil)) (h_cons c m me 0 1 (fun a1 oe1 cls1 d1 pl1 c m me cz => (ss_cons (z_ret (d_tup (s_cons d_str (s_cons (d_and c (d_xi cz m me 1 3 6 (q_var 1)) (d_and c (d_xi cz m me 1 4 6 (q_var 1)) (d_one (d_not c (d_xi cz m me 1 1 6 (q_var 1)))))) s_nil)))) ss_nil)) h_nil)) ss_nil)
theorem der__law_pick (k : Nat) (cdv : Value) (A : Around) (outer : List Env) (s : Shared) (H : Hp) (E : XK) (c : Cxt (cxOf (L2.CX P w) P w K mg base ["draws", "many", "at", "number"] "_law_pick" (defScope s__law_pick) (md.fa K 20) cdv A outer s H E) ((md.pg P w K).rc k) (fun cls d _ H => E cls d H) k)
    (m : Md (cxOf (L2.CX P w) P w K mg base ["draws", "many", "at", "number"] "_law_pick" (defScope s__law_pick) (md.fa K 20) cdv A outer s H E) ((md.pg P w K).rc k) md.cons md.blts) (mf : Mf (cxOf (L2.CX P w) P w K mg base ["draws", "many", "at", "number"] "_law_pick" (defScope s__law_pick) (md.fa K 20) cdv A outer s H E) ((md.pg P w K).rc k) k md) (me : Me (cxOf (L2.CX P w) P w K mg base ["draws", "many", "at", "number"] "_law_pick" (defScope s__law_pick) (md.fa K 20) cdv A outer s H E) ((md.pg P w K).rc k) md.clss md.efs) (mr : Mr (cxOf (L2.CX P w) P w K mg base ["draws", "many", "at", "number"] "_law_pick" (defScope s__law_pick) (md.fa K 20) cdv A outer s H E) ((md.pg P w K).rc k)) : PSs (cxOf (L2.CX P w) P w K mg base ["draws", "many", "at", "number"] "_law_pick" (defScope s__law_pick) (md.fa K 20) cdv A outer s H E) (defBody s__law_pick) (code__law_pick.rd ((md.pg P w K).rc k) (fun cls d _ H => E cls d H)) :=
  (ss_cons (z_asg c 2 (d_ixo c (o_p (q_var 0)) (o_e d_str))) (ss_cons (z_dset c (q_var 0) d_str (d_bin (j_add c) (d_var 2) d_int)) (ss_cons (z_asg c 3 (d_call c mf 0 (a_c (o_e (d_ixo c (o_p (q_var 0)) (o_e d_str))) (a_c (o_e (d_var 2)) a_nil)))) (ss_cons (z_if (t_cmp (k_lt c) (d_var 2) (d_bif m (b_len c) 1 (s_cons (d_ixo c (o_p (q_var 0)) (o_e d_str)) s_nil))) (ss_cons (z_asg c 3 (d_ix c (d_ixo c (o_p (q_var 0)) (o_e d_str)) (d_var 2))) ss_nil) ss_nil) (ss_cons (z_ret (d_bin (j_mod c) (d_bif m (b_int c) 0 (s_cons (d_var 3) s_nil)) (d_var 1))) ss_nil)))))
theorem der_read_log (k : Nat) (cdv : Value) (A : Around) (outer : List Env) (s : Shared) (H : Hp) (E : XK) (c : Cxt (cxOf (L2.CX P w) P w K mg base ["text", "events", "lines", "log", "line", "point"] "read_log" (defScope s_read_log) (md.fa K 21) cdv A outer s H E) ((md.pg P w K).rc k) (fun cls d _ H => E cls d H) k)
    (m : Md (cxOf (L2.CX P w) P w K mg base ["text", "events", "lines", "log", "line", "point"] "read_log" (defScope s_read_log) (md.fa K 21) cdv A outer s H E) ((md.pg P w K).rc k) md.cons md.blts) (mf : Mf (cxOf (L2.CX P w) P w K mg base ["text", "events", "lines", "log", "line", "point"] "read_log" (defScope s_read_log) (md.fa K 21) cdv A outer s H E) ((md.pg P w K).rc k) k md) (me : Me (cxOf (L2.CX P w) P w K mg base ["text", "events", "lines", "log", "line", "point"] "read_log" (defScope s_read_log) (md.fa K 21) cdv A outer s H E) ((md.pg P w K).rc k) md.clss md.efs) (mr : Mr (cxOf (L2.CX P w) P w K mg base ["text", "events", "lines", "log", "line", "point"] "read_log" (defScope s_read_log) (md.fa K 21) cdv A outer s H E) ((md.pg P w K).rc k)) : PSs (cxOf (L2.CX P w) P w K mg base ["text", "events", "lines", "log", "line", "point"] "read_log" (defScope s_read_log) (md.fa K 21) cdv A outer s H E) (defBody s_read_log) (code_read_log.rd ((md.pg P w K).rc k) (fun cls d _ H => E cls d H)) :=
  (ss_cons (z_asg c 2 (d_mth c (m_split c) (o_e (d_var 0)) (s_cons d_str s_nil))) (ss_cons (z_if (t_cmp (k_eq c) (d_ix c (d_var 2) (d_neg d_int)) d_str) (ss_cons (z_asg c 2 (d_slc c (d_var 2) o_no (o_so (d_neg d_int)))) ss_nil) ss_nil) (ss_cons (z_own c 3 (f_lst s_nil)) (ss_cons (z_for c (i_lst c (d_var 2)) (g_nm c 4) (ss_cons (z_asg c 5 (d_call c mf 17 (a_c (o_e (d_var 4)) (a_c (o_e (d_var 1)) a_nil)))) (ss_cons (z_if (PW.pt (w_and (t_cmpo (k_ne c) (o_p (q_var 3)) (o_e (d_mk (f_lst s_nil)))) (w_and1 (t_cmp (k_lt c) (d_ix c (d_var 5) d_int) (d_ix c (d_ixo c (o_p (q_var 3)) (o_e (d_neg d_int))) d_int))))) (ss_cons (z_rs0 c me mr 1) ss_nil) ss_nil) (ss_cons (z_app c (q_var 3) (d_var 5)) ss_nil)))) (ss_cons (z_ret (d_frz (q_var 3))) ss_nil)))))
theorem der__law_log (k : Nat) (cdv : Value) (A : Around) (outer : List Env) (s : Shared) (H : Hp) (E : XK) (c : Cxt (cxOf (L2.CX P w) P w K mg base ["text", "e"] "_law_log" (defScope s__law_log) (md.fa K 22) cdv A outer s H E) ((md.pg P w K).rc k) (fun cls d _ H => E cls d H) k)
    (m : Md (cxOf (L2.CX P w) P w K mg base ["text", "e"] "_law_log" (defScope s__law_log) (md.fa K 22) cdv A outer s H E) ((md.pg P w K).rc k) md.cons md.blts) (mf : Mf (cxOf (L2.CX P w) P w K mg base ["text", "e"] "_law_log" (defScope s__law_log) (md.fa K 22) cdv A outer s H E) ((md.pg P w K).rc k) k md) (me : Me (cxOf (L2.CX P w) P w K mg base ["text", "e"] "_law_log" (defScope s__law_log) (md.fa K 22) cdv A outer s H E) ((md.pg P w K).rc k) md.clss md.efs) (mr : Mr (cxOf (L2.CX P w) P w K mg base ["text", "e"] "_law_log" (defScope s__law_log) (md.fa K 22) cdv A outer s H E) ((md.pg P w K).rc k)) : PSs (cxOf (L2.CX P w) P w K mg base ["text", "e"] "_law_log" (defScope s__law_log) (md.fa K 22) cdv A outer s H E) (defBody s__law_log) (code__law_log.rd ((md.pg P w K).rc k) (fun cls d _ H => E cls d H)) :=
  (ss_cons (z_try c (fun W1 pl1 xe1 c => have m := Md.tr (pl := pl1) (xe := xe1) m; have mf := Mf.tr (pl := pl1) (xe := xe1) mf; have me := Me.tr (pl := pl1) (xe := xe1) me; have mr := Mr.tr (pl := pl1) (xe := xe1) mr; (ss_cons (z_ret (d_bif m (b_len c) 1 (s_cons (d_call c mf 21 (a_c (o_e (d_var 0)) (a_c (o_e (d_mk (f_call0 c mf 18))) a_nil))) s_nil))) ss_nil)) (h_cons c m me 0 1 (fun a1 oe1 cls1 d1 pl1 c m me cz => (ss_cons (z_ret (d_tup (s_cons d_str (s_cons (d_xi cz m me 1 3 6 (q_var 1)) s_nil)))) ss_nil)) (h_cons c m me 1 1 (fun a1 oe1 cls1 d1 pl1 c m me cz => (ss_cons (z_ret (d_tup (s_cons d_str (s_cons (d_xi cz m me 1 3 6 (q_var 1)) s_nil)))) ss_nil)) h_nil))) ss_nil)
theorem der__law_good (k : Nat) (cdv : Value) (A : Around) (outer : List Env) (s : Shared) (H : Hp) (E : XK) (c : Cxt (cxOf (L2.CX P w) P w K mg base ["draws", "time", "rows"] "_law_good" (defScope s__law_good) (md.fa K 23) cdv A outer s H E) ((md.pg P w K).rc k) (fun cls d _ H => E cls d H) k)
    (m : Md (cxOf (L2.CX P w) P w K mg base ["draws", "time", "rows"] "_law_good" (defScope s__law_good) (md.fa K 23) cdv A outer s H E) ((md.pg P w K).rc k) md.cons md.blts) (mf : Mf (cxOf (L2.CX P w) P w K mg base ["draws", "time", "rows"] "_law_good" (defScope s__law_good) (md.fa K 23) cdv A outer s H E) ((md.pg P w K).rc k) k md) (me : Me (cxOf (L2.CX P w) P w K mg base ["draws", "time", "rows"] "_law_good" (defScope s__law_good) (md.fa K 23) cdv A outer s H E) ((md.pg P w K).rc k) md.clss md.efs) (mr : Mr (cxOf (L2.CX P w) P w K mg base ["draws", "time", "rows"] "_law_good" (defScope s__law_good) (md.fa K 23) cdv A outer s H E) ((md.pg P w K).rc k)) : PSs (cxOf (L2.CX P w) P w K mg base ["draws", "time", "rows"] "_law_good" (defScope s__law_good) (md.fa K 23) cdv A outer s H E) (defBody s__law_good) (code__law_good.rd ((md.pg P w K).rc k) (fun cls d _ H => E cls d H)) :=
  (ss_cons (z_asg c 2 (d_mk (f_lst (s_cons d_str (s_cons d_str (s_cons d_str (s_cons d_str (s_cons d_str (s_cons d_str (s_cons d_str s_nil)))))))))) (ss_cons (z_ret (d_bin (j_add c) (d_bin (j_add c) d_str (d_bif m (b_str c) 8 (s_cons (d_var 1) s_nil))) (d_ix c (d_var 2) (d_call c mf 20 (a_c (o_p (q_var 0)) (a_c (o_e d_int) a_nil)))))) ss_nil))
theorem der__law_bad (k : Nat) (cdv : Value) (A : Around) (outer : List Env) (s : Shared) (H : Hp) (E : XK) (c : Cxt (cxOf (L2.CX P w) P w K mg base ["draws", "rows", "sign"] "_law_bad" (defScope s__law_bad) (md.fa K 24) cdv A outer s H E) ((md.pg P w K).rc k) (fun cls d _ H => E cls d H) k)
    (m : Md (cxOf (L2.CX P w) P w K mg base ["draws", "rows", "sign"] "_law_bad" (defScope s__law_bad) (md.fa K 24) cdv A outer s H E) ((md.pg P w K).rc k) md.cons md.blts) (mf : Mf (cxOf (L2.CX P w) P w K mg base ["draws", "rows", "sign"] "_law_bad" (defScope s__law_bad) (md.fa K 24) cdv A outer s H E) ((md.pg P w K).rc k) k md) (me : Me (cxOf (L2.CX P w) P w K mg base ["draws", "rows", "sign"] "_law_bad" (defScope s__law_bad) (md.fa K 24) cdv A outer s H E) ((md.pg P w K).rc k) md.clss md.efs) (mr : Mr (cxOf (L2.CX P w) P w K mg base ["draws", "rows", "sign"] "_law_bad" (defScope s__law_bad) (md.fa K 24) cdv A outer s H E) ((md.pg P w K).rc k)) : PSs (cxOf (L2.CX P w) P w K mg base ["draws", "rows", "sign"] "_law_bad" (defScope s__law_bad) (md.fa K 24) cdv A outer s H E) (defBody s__law_bad) (code__law_bad.rd ((md.pg P w K).rc k) (fun cls d _ H => E cls d H)) :=
  (ss_cons (z_asg c 1 (d_mk (f_lst (s_cons d_str (s_cons d_str (s_cons d_str (s_cons d_str (s_cons d_str (s_cons d_str (s_cons d_str (s_cons d_str (s_cons d_str (s_cons d_str (s_cons d_str (s_cons d_str (s_cons d_str (s_cons d_str (s_cons d_str (s_cons d_str (s_cons d_str s_nil)))))))))))))))))))) (ss_cons (z_asg c 1 (d_bin (j_add c) (d_var 1) (d_mk (f_lst (s_cons d_str (s_cons d_str (s_cons d_str (s_cons d_str (s_cons d_str (s_cons d_str (s_cons d_str (s_cons d_str (s_cons d_str (s_cons d_str (s_cons d_str s_nil))))))))))))))) (ss_cons (z_asg c 1 (d_bin (j_add c) (d_var 1) (d_mk (f_lst (s_cons d_str (s_cons d_str (s_cons d_str (s_cons d_str (s_cons d_str (s_cons d_str (s_cons d_str (s_cons d_str (s_cons d_str (s_cons d_str s_nil)))))))))))))) (ss_cons (z_asg c 1 (d_bin (j_add c) (d_var 1) (d_mk (f_lst (s_cons d_str (s_cons d_str (s_cons d_str (s_cons d_str (s_cons d_str (s_cons d_str (s_cons d_str (s_cons d_str (s_cons d_str (s_cons d_str (s_cons d_str s_nil))))))))))))))) (ss_cons (z_asg c 1 (d_bin (j_add c) (d_var 1) (d_mk (f_lst (s_cons d_str (s_cons d_str (s_cons (d_bin (j_add c) (d_bin (j_add c) d_str (d_bin (j_mul c) d_str d_int)) d_str) (s_cons d_str (s_cons d_str (s_cons d_str (s_cons d_str (s_cons d_str (s_cons d_str (s_cons d_str s_nil)))))))))))))) (ss_cons (z_for c (i_lst c (d_mk (f_lst (s_cons d_str (s_cons d_str (s_cons d_str (s_cons d_str (s_cons d_str s_nil)))))))) (g_nm c 2) (ss_cons (z_asg c 1 (d_bin (j_add c) (d_var 1) (d_mk (f_lst (s_cons (d_bin (j_add c) (d_bin (j_add c) d_str (d_var 2)) d_str) (s_cons (d_bin (j_add c) (d_bin (j_add c) d_str (d_var 2)) d_str) (s_cons (d_bin (j_add c) (d_bin (j_add c) d_str (d_var 2)) d_str) s_nil))))))) ss_nil)) (ss_cons (z_asg c 1 (d_bin (j_add c) (d_var 1) (d_mk (f_lst (s_cons d_str (s_cons d_str s_nil)))))) (ss_cons (z_ret (d_ix c (d_var 1) (d_call c mf 20 (a_c (o_p (q_var 0)) (a_c (o_e (d_bif m (b_len c) 1 (s_cons (d_var 1) s_nil))) a_nil))))) ss_nil))))))))
theorem der_law (k : Nat) (cdv : Value) (A : Around) (outer : List Env) (s : Shared) (H : Hp) (E : XK) (c : Cxt (cxOf (L2.CX P w) P w K mg base ["script", "draws", "turn", "word", "told", "time", "lines", "due", "k", "pick", "line"] "law" (defScope s_law) (md.fa K 25) cdv A outer s H E) ((md.pg P w K).rc k) (fun cls d _ H => E cls d H) k)
    (m : Md (cxOf (L2.CX P w) P w K mg base ["script", "draws", "turn", "word", "told", "time", "lines", "due", "k", "pick", "line"] "law" (defScope s_law) (md.fa K 25) cdv A outer s H E) ((md.pg P w K).rc k) md.cons md.blts) (mf : Mf (cxOf (L2.CX P w) P w K mg base ["script", "draws", "turn", "word", "told", "time", "lines", "due", "k", "pick", "line"] "law" (defScope s_law) (md.fa K 25) cdv A outer s H E) ((md.pg P w K).rc k) k md) (me : Me (cxOf (L2.CX P w) P w K mg base ["script", "draws", "turn", "word", "told", "time", "lines", "due", "k", "pick", "line"] "law" (defScope s_law) (md.fa K 25) cdv A outer s H E) ((md.pg P w K).rc k) md.clss md.efs) (mr : Mr (cxOf (L2.CX P w) P w K mg base ["script", "draws", "turn", "word", "told", "time", "lines", "due", "k", "pick", "line"] "law" (defScope s_law) (md.fa K 25) cdv A outer s H E) ((md.pg P w K).rc k)) : PSs (cxOf (L2.CX P w) P w K mg base ["script", "draws", "turn", "word", "told", "time", "lines", "due", "k", "pick", "line"] "law" (defScope s_law) (md.fa K 25) cdv A outer s H E) (defBody s_law) (code_law.rd ((md.pg P w K).rc k) (fun cls d _ H => E cls d H)) :=
  (ss_cons (z_own c 1 (f_call c mf 1 (a_c (o_e (d_var 0)) (a_c (o_e d_int) a_nil)))) (ss_cons (z_for c (i_r1 m 2 (d_bif m (b_min c) 3 (s_cons d_int (s_cons (d_bin (j_add c) d_int (d_bin (j_fdiv c) (d_bif m (b_len c) 1 (s_cons (d_ixo c (o_p (q_var 1)) (o_e d_str)) s_nil)) d_int)) s_nil)))) (g_nm c 2) (ss_cons (z_asgt (d_call c mf 19 (a_c (o_e (d_call c mf 23 (a_c (o_p (q_var 1)) (a_c (o_e (d_var 2)) a_nil)))) a_nil)) (g_tp c (gs_cons (g_nm c 3) (gs_cons (g_nm c 4) gs_nil)))) (ss_cons (z_if (PW.pt (w_or (t_cmp (k_ne c) (d_call c mf 19 (a_c (o_e (d_call c mf 24 (a_c (o_p (q_var 1)) a_nil))) a_nil)) (d_tup (s_cons d_str (s_cons d_bl s_nil)))) (w_or (t_cmp (k_ne c) (d_var 3) d_str) (w_or1 (t_not (t_tru c (d_bif m (b_isi c) 6 (s_cons (d_var 4) (s_cons (d_ty m 5) s_nil))))))))) (ss_cons (z_ret d_bl) ss_nil) ss_nil) ss_nil))) (ss_cons (z_asg c 5 d_int) (ss_cons (z_own c 6 (f_lst s_nil)) (ss_cons (z_asg c 7 d_non) (ss_cons (z_for c (i_r1 m 2 (d_call c mf 20 (a_c (o_p (q_var 1)) (a_c (o_e d_int) a_nil)))) (g_nm c 8) (ss_cons (z_asg c 9 (d_call c mf 20 (a_c (o_p (q_var 1)) (a_c (o_e d_int) a_nil)))) (ss_cons (z_if (t_cmp (k_eq c) (d_var 9) d_int) (ss_cons (z_app c (q_var 6) (d_rep0 (r := [40]) (d_call c mf 24 (a_c (o_p (q_var 1)) a_nil)))) (ss_cons (z_asg c 7 (d_ix c (d_mk (f_lst (s_cons (d_var 7) (s_cons (d_tup (s_cons d_str (s_cons d_bl s_nil))) s_nil)))) (d_bif m (b_int c) 0 (s_cons (d_cmp (k_is c) (d_var 7) d_non) s_nil)))) ss_nil)) (ss_cons (z_if (PW.pt (w_and (t_cmp (k_eq c) (d_var 9) d_int) (w_and1 (t_cmp (k_gt c) (d_var 8) d_int)))) (ss_cons (z_app c (q_var 6) (d_call c mf 23 (a_c (o_p (q_var 1)) (a_c (o_e (d_bin (j_sub c) (d_var 5) d_int)) a_nil)))) (ss_cons (z_asg c 7 (d_ix c (d_mk (f_lst (s_cons (d_var 7) (s_cons (d_tup (s_cons d_str (s_cons d_bl s_nil))) s_nil)))) (d_bif m (b_int c) 0 (s_cons (d_cmp (k_is c) (d_var 7) d_non) s_nil)))) ss_nil)) (ss_cons (z_asg c 5 (d_bin (j_add c) (d_var 5) (d_call c mf 20 (a_c (o_p (q_var 1)) (a_c (o_e d_int) a_nil))))) (ss_cons (z_app c (q_var 6) (d_call c mf 23 (a_c (o_p (q_var 1)) (a_c (o_e (d_var 5)) a_nil)))) ss_nil))) ss_nil)) ss_nil))) (ss_cons (z_if (t_cmp (k_is c) (d_var 7) d_non) (ss_cons (z_asg c 7 (d_bifo m (b_len c) 1 (a_c (o_p (q_var 6)) a_nil))) ss_nil) ss_nil) (ss_cons (z_ret (d_cmp (k_eq c) (d_call c mf 22 (a_c (o_e (d_mth c (m_join c) (o_e d_str) (s_cons (d_mk (f_lc c [("line", 10)] (i_lst c (d_frz (q_var 6))) (fun s1 H1 C1 cl1 fp1 c => ⟨(g_nm c 10), ts_nil, (d_bin (j_add c) (d_var 10) d_str)⟩))) s_nil))) a_nil)) (d_var 7))) ss_nil))))))))
end
end K31
namespace K31
open PySem PySem.Spec PyProof.Rows L2 Mq
abbrev depth : Nat := 60
theorem all_mk {P : Program} {w : World} {K : PySem.W.Frag} {h : Heap} {mg : Str → Option Value} {fa : Addr} (X : K.In h) (G : h.Ns mainGlobals mg) (hfa : mg "law" = some (.ref fa))
    {C0 : Addr} (e0 : PySem.W.nsIn K mainGlobals "BadLine" = some (some (.ref C0)))
    (b0X : PySem.W.subIn K (.ref C0) (.type "BaseException") = some true) (h0X : PySem.W.hasDictIn K C0 = true) (t0X : PySem.W.typeIn K (.ref C0) = some (.type "type"))
    (v0E : PySem.W.excIn K C0 Mq.veB "ValueError.__new__" = true) (k0C : PySem.W.keepIn K (.ref C0) = true)
    (g0A : PySem.W.findIn K (.ref C0) "__getattribute__" = some (some (.builtin "BaseException.__getattribute__"))) (g0B : PySem.W.findIn K (.ref C0) "__getattr__" = some none) (a0C : PySem.W.findIn K (.ref C0) "__class__" = some (some (.builtin "object.__class__"))) (o0C : PySem.W.mroIn K C0 (.type "object") = some true)
    {C1 : Addr} (e1 : PySem.W.nsIn K mainGlobals "BadTime" = some (some (.ref C1)))
    (b1X : PySem.W.subIn K (.ref C1) (.type "BaseException") = some true) (h1X : PySem.W.hasDictIn K C1 = true) (t1X : PySem.W.typeIn K (.ref C1) = some (.type "type"))
    (v1E : PySem.W.excIn K C1 Mq.veB "ValueError.__new__" = true) (k1C : PySem.W.keepIn K (.ref C1) = true)
    (g1A : PySem.W.findIn K (.ref C1) "__getattribute__" = some (some (.builtin "BaseException.__getattribute__"))) (g1B : PySem.W.findIn K (.ref C1) "__getattr__" = some none) (a1C : PySem.W.findIn K (.ref C1) "__class__" = some (some (.builtin "object.__class__"))) (o1C : PySem.W.mroIn K C1 (.type "object") = some true)
    {C2 : Addr} (e2 : PySem.W.nsIn K mainGlobals "Line" = some (some (.ref C2)))
    (pg2 : PySem.W.plainGet K C2 Str.empty = true) (hd2 : PySem.W.hasDictIn K C2 = true) (po2 : PySem.W.plainOver K C2 = true) (sa2 : PySem.W.findIn K (.ref C2) "__setattr__" = some (some (.builtin "object.__setattr__")))
    (na2_1 : PySem.W.findIn K (.ref C2) "text" = some none)
    (na2_0 : PySem.W.findIn K (.ref C2) "at" = some none)
    (mk2 : PySem.W.makesIn K C2 = true) (kp2 : PySem.W.keepIn K (.ref C2) = true)
    {C3 : Addr} (e3 : PySem.W.nsIn K mainGlobals "LogError" = some (some (.ref C3)))
    (b3X : PySem.W.subIn K (.ref C3) (.type "BaseException") = some true) (h3X : PySem.W.hasDictIn K C3 = true) (t3X : PySem.W.typeIn K (.ref C3) = some (.type "type"))
    {C4 : Addr} (e4 : PySem.W.nsIn K mainGlobals "WatchError" = some (some (.ref C4)))
    (b4X : PySem.W.subIn K (.ref C4) (.type "BaseException") = some true) (h4X : PySem.W.hasDictIn K C4 = true) (t4X : PySem.W.typeIn K (.ref C4) = some (.type "type"))
    {f0 : Addr} {od0 an0 : Option Addr} {sl0 : Array (Option Value)} {oc0 kV0 dc0 pm0 cd0 ct0 : Value}
    (a0 : PySem.W.nsIn K mainGlobals "_law_mix" = some (some (.ref f0)))
    (l0 : K.lookup f0 = some ⟨oc0, od0, .func (PySem.W.fnOf "_law_mix" "_law_mix" (defArgs s__law_mix) (defBody s__law_mix) (defScope s__law_mix) .none kV0 dc0 pm0 an0 cd0 ct0), sl0⟩) (c0 : PySem.W.codeIn K cd0 "_law_mix" = true) (k0 : PySem.W.keepIn K (.ref f0) = true)
    {f1 : Addr} {od1 an1 : Option Addr} {sl1 : Array (Option Value)} {oc1 kV1 dc1 pm1 cd1 ct1 : Value}
    (a1 : PySem.W.nsIn K mainGlobals "_law_stream" = some (some (.ref f1)))
    (l1 : K.lookup f1 = some ⟨oc1, od1, .func (PySem.W.fnOf "_law_stream" "_law_stream" (defArgs s__law_stream) (defBody s__law_stream) (defScope s__law_stream) .none kV1 dc1 pm1 an1 cd1 ct1), sl1⟩) (c1 : PySem.W.codeIn K cd1 "_law_stream" = true) (k1 : PySem.W.keepIn K (.ref f1) = true)
    {f2 : Addr} {od2 an2 : Option Addr} {sl2 : Array (Option Value)} {oc2 kV2 dc2 pm2 cd2 ct2 : Value}
    (a2 : PySem.W.findIn K (.ref C2) "__init__" = some (some (.ref f2))) (g2 : PySem.W.isFn K (.ref f2) = true)
    (l2 : K.lookup f2 = some ⟨oc2, od2, .func (PySem.W.fnOf "__init__" "Line.__init__" (defArgs s_Line____init__) (defBody s_Line____init__) (defScope s_Line____init__) .none kV2 dc2 pm2 an2 cd2 ct2), sl2⟩) (c2 : PySem.W.codeIn K cd2 "Line.__init__" = true) (k2 : PySem.W.keepIn K (.ref f2) = true)
    {f3 : Addr} {od3 an3 : Option Addr} {sl3 : Array (Option Value)} {oc3 kV3 dc3 pm3 cd3 ct3 : Value}
    (a3 : PySem.W.findIn K (.ref C2) "next" = some (some (.ref f3))) (g3 : PySem.W.isFn K (.ref f3) = true)
    (l3 : K.lookup f3 = some ⟨oc3, od3, .func (PySem.W.fnOf "next" "Line.next" (defArgs s_Line__next) (defBody s_Line__next) (defScope s_Line__next) .none kV3 dc3 pm3 an3 cd3 ct3), sl3⟩) (c3 : PySem.W.codeIn K cd3 "Line.next" = true) (k3 : PySem.W.keepIn K (.ref f3) = true)
    {f4 : Addr} {od4 an4 : Option Addr} {sl4 : Array (Option Value)} {oc4 kV4 dc4 pm4 cd4 ct4 : Value}
    (a4 : PySem.W.findIn K (.ref C2) "skip_spaces" = some (some (.ref f4))) (g4 : PySem.W.isFn K (.ref f4) = true)
    (l4 : K.lookup f4 = some ⟨oc4, od4, .func (PySem.W.fnOf "skip_spaces" "Line.skip_spaces" (defArgs s_Line__skip_spaces) (defBody s_Line__skip_spaces) (defScope s_Line__skip_spaces) .none kV4 dc4 pm4 an4 cd4 ct4), sl4⟩) (c4 : PySem.W.codeIn K cd4 "Line.skip_spaces" = true) (k4 : PySem.W.keepIn K (.ref f4) = true)
    {f5 : Addr} {od5 an5 : Option Addr} {sl5 : Array (Option Value)} {oc5 kV5 dc5 pm5 cd5 ct5 : Value}
    (a5 : PySem.W.findIn K (.ref C2) "expect" = some (some (.ref f5))) (g5 : PySem.W.isFn K (.ref f5) = true)
    (l5 : K.lookup f5 = some ⟨oc5, od5, .func (PySem.W.fnOf "expect" "Line.expect" (defArgs s_Line__expect) (defBody s_Line__expect) (defScope s_Line__expect) .none kV5 dc5 pm5 an5 cd5 ct5), sl5⟩) (c5 : PySem.W.codeIn K cd5 "Line.expect" = true) (k5 : PySem.W.keepIn K (.ref f5) = true)
    {f6 : Addr} {od6 an6 : Option Addr} {sl6 : Array (Option Value)} {oc6 kV6 dc6 pm6 cd6 ct6 : Value}
    (a6 : PySem.W.nsIn K mainGlobals "is_number" = some (some (.ref f6)))
    (l6 : K.lookup f6 = some ⟨oc6, od6, .func (PySem.W.fnOf "is_number" "is_number" (defArgs s_is_number) (defBody s_is_number) (defScope s_is_number) .none kV6 dc6 pm6 an6 cd6 ct6), sl6⟩) (c6 : PySem.W.codeIn K cd6 "is_number" = true) (k6 : PySem.W.keepIn K (.ref f6) = true)
    {f7 : Addr} {od7 an7 : Option Addr} {sl7 : Array (Option Value)} {oc7 kV7 dc7 pm7 cd7 ct7 : Value}
    (a7 : PySem.W.findIn K (.ref C2) "time" = some (some (.ref f7))) (g7 : PySem.W.isFn K (.ref f7) = true)
    (l7 : K.lookup f7 = some ⟨oc7, od7, .func (PySem.W.fnOf "time" "Line.time" (defArgs s_Line__time) (defBody s_Line__time) (defScope s_Line__time) .none kV7 dc7 pm7 an7 cd7 ct7), sl7⟩) (c7 : PySem.W.codeIn K cd7 "Line.time" = true) (k7 : PySem.W.keepIn K (.ref f7) = true)
    {f8 : Addr} {od8 an8 : Option Addr} {sl8 : Array (Option Value)} {oc8 kV8 dc8 pm8 cd8 ct8 : Value}
    (a8 : PySem.W.nsIn K mainGlobals "word_end" = some (some (.ref f8)))
    (l8 : K.lookup f8 = some ⟨oc8, od8, .func (PySem.W.fnOf "word_end" "word_end" (defArgs s_word_end) (defBody s_word_end) (defScope s_word_end) .none kV8 dc8 pm8 an8 cd8 ct8), sl8⟩) (c8 : PySem.W.codeIn K cd8 "word_end" = true) (k8 : PySem.W.keepIn K (.ref f8) = true)
    {f9 : Addr} {od9 an9 : Option Addr} {sl9 : Array (Option Value)} {oc9 kV9 dc9 pm9 cd9 ct9 : Value}
    (a9 : PySem.W.findIn K (.ref C2) "word" = some (some (.ref f9))) (g9 : PySem.W.isFn K (.ref f9) = true)
    (l9 : K.lookup f9 = some ⟨oc9, od9, .func (PySem.W.fnOf "word" "Line.word" (defArgs s_Line__word) (defBody s_Line__word) (defScope s_Line__word) .none kV9 dc9 pm9 an9 cd9 ct9), sl9⟩) (c9 : PySem.W.codeIn K cd9 "Line.word" = true) (k9 : PySem.W.keepIn K (.ref f9) = true)
    {f10 : Addr} {od10 an10 : Option Addr} {sl10 : Array (Option Value)} {oc10 kV10 dc10 pm10 cd10 ct10 : Value}
    (a10 : PySem.W.findIn K (.ref C2) "number" = some (some (.ref f10))) (g10 : PySem.W.isFn K (.ref f10) = true)
    (l10 : K.lookup f10 = some ⟨oc10, od10, .func (PySem.W.fnOf "number" "Line.number" (defArgs s_Line__number) (defBody s_Line__number) (defScope s_Line__number) .none kV10 dc10 pm10 an10 cd10 ct10), sl10⟩) (c10 : PySem.W.codeIn K cd10 "Line.number" = true) (k10 : PySem.W.keepIn K (.ref f10) = true)
    {f11 : Addr} {od11 an11 : Option Addr} {sl11 : Array (Option Value)} {oc11 kV11 dc11 pm11 cd11 ct11 : Value}
    (a11 : PySem.W.nsIn K mainGlobals "is_sign" = some (some (.ref f11)))
    (l11 : K.lookup f11 = some ⟨oc11, od11, .func (PySem.W.fnOf "is_sign" "is_sign" (defArgs s_is_sign) (defBody s_is_sign) (defScope s_is_sign) .none kV11 dc11 pm11 an11 cd11 ct11), sl11⟩) (c11 : PySem.W.codeIn K cd11 "is_sign" = true) (k11 : PySem.W.keepIn K (.ref f11) = true)
    {f12 : Addr} {od12 an12 : Option Addr} {sl12 : Array (Option Value)} {oc12 kV12 dc12 pm12 cd12 ct12 : Value}
    (a12 : PySem.W.findIn K (.ref C2) "quoted" = some (some (.ref f12))) (g12 : PySem.W.isFn K (.ref f12) = true)
    (l12 : K.lookup f12 = some ⟨oc12, od12, .func (PySem.W.fnOf "quoted" "Line.quoted" (defArgs s_Line__quoted) (defBody s_Line__quoted) (defScope s_Line__quoted) .none kV12 dc12 pm12 an12 cd12 ct12), sl12⟩) (c12 : PySem.W.codeIn K cd12 "Line.quoted" = true) (k12 : PySem.W.keepIn K (.ref f12) = true)
    {f13 : Addr} {od13 an13 : Option Addr} {sl13 : Array (Option Value)} {oc13 kV13 dc13 pm13 cd13 ct13 : Value}
    (a13 : PySem.W.findIn K (.ref C2) "value" = some (some (.ref f13))) (g13 : PySem.W.isFn K (.ref f13) = true)
    (l13 : K.lookup f13 = some ⟨oc13, od13, .func (PySem.W.fnOf "value" "Line.value" (defArgs s_Line__value) (defBody s_Line__value) (defScope s_Line__value) .none kV13 dc13 pm13 an13 cd13 ct13), sl13⟩) (c13 : PySem.W.codeIn K cd13 "Line.value" = true) (k13 : PySem.W.keepIn K (.ref f13) = true)
    {f14 : Addr} {od14 an14 : Option Addr} {sl14 : Array (Option Value)} {oc14 kV14 dc14 pm14 cd14 ct14 : Value}
    (a14 : PySem.W.findIn K (.ref C2) "values" = some (some (.ref f14))) (g14 : PySem.W.isFn K (.ref f14) = true)
    (l14 : K.lookup f14 = some ⟨oc14, od14, .func (PySem.W.fnOf "values" "Line.values" (defArgs s_Line__values) (defBody s_Line__values) (defScope s_Line__values) .none kV14 dc14 pm14 an14 cd14 ct14), sl14⟩) (c14 : PySem.W.codeIn K cd14 "Line.values" = true) (k14 : PySem.W.keepIn K (.ref f14) = true)
    {f15 : Addr} {od15 an15 : Option Addr} {sl15 : Array (Option Value)} {oc15 kV15 dc15 pm15 cd15 ct15 : Value}
    (a15 : PySem.W.nsIn K mainGlobals "order_of" = some (some (.ref f15)))
    (l15 : K.lookup f15 = some ⟨oc15, od15, .func (PySem.W.fnOf "order_of" "order_of" (defArgs s_order_of) (defBody s_order_of) (defScope s_order_of) .none kV15 dc15 pm15 an15 cd15 ct15), sl15⟩) (c15 : PySem.W.codeIn K cd15 "order_of" = true) (k15 : PySem.W.keepIn K (.ref f15) = true)
    {f16 : Addr} {od16 an16 : Option Addr} {sl16 : Array (Option Value)} {oc16 kV16 dc16 pm16 cd16 ct16 : Value}
    (a16 : PySem.W.nsIn K mainGlobals "row_order" = some (some (.ref f16)))
    (l16 : K.lookup f16 = some ⟨oc16, od16, .func (PySem.W.fnOf "row_order" "row_order" (defArgs s_row_order) (defBody s_row_order) (defScope s_row_order) .none kV16 dc16 pm16 an16 cd16 ct16), sl16⟩) (c16 : PySem.W.codeIn K cd16 "row_order" = true) (k16 : PySem.W.keepIn K (.ref f16) = true)
    {f17 : Addr} {od17 an17 : Option Addr} {sl17 : Array (Option Value)} {oc17 kV17 dc17 pm17 cd17 ct17 : Value}
    (a17 : PySem.W.nsIn K mainGlobals "read_line" = some (some (.ref f17)))
    (l17 : K.lookup f17 = some ⟨oc17, od17, .func (PySem.W.fnOf "read_line" "read_line" (defArgs s_read_line) (defBody s_read_line) (defScope s_read_line) .none kV17 dc17 pm17 an17 cd17 ct17), sl17⟩) (c17 : PySem.W.codeIn K cd17 "read_line" = true) (k17 : PySem.W.keepIn K (.ref f17) = true)
    {f18 : Addr} {od18 an18 : Option Addr} {sl18 : Array (Option Value)} {oc18 kV18 dc18 pm18 cd18 ct18 : Value}
    (a18 : PySem.W.nsIn K mainGlobals "_law_events" = some (some (.ref f18)))
    (l18 : K.lookup f18 = some ⟨oc18, od18, .func (PySem.W.fnOf "_law_events" "_law_events" (defArgs s__law_events) (defBody s__law_events) (defScope s__law_events) .none kV18 dc18 pm18 an18 cd18 ct18), sl18⟩) (c18 : PySem.W.codeIn K cd18 "_law_events" = true) (k18 : PySem.W.keepIn K (.ref f18) = true)
    {f19 : Addr} {od19 an19 : Option Addr} {sl19 : Array (Option Value)} {oc19 kV19 dc19 pm19 cd19 ct19 : Value}
    (a19 : PySem.W.nsIn K mainGlobals "_law_told" = some (some (.ref f19)))
    (l19 : K.lookup f19 = some ⟨oc19, od19, .func (PySem.W.fnOf "_law_told" "_law_told" (defArgs s__law_told) (defBody s__law_told) (defScope s__law_told) .none kV19 dc19 pm19 an19 cd19 ct19), sl19⟩) (c19 : PySem.W.codeIn K cd19 "_law_told" = true) (k19 : PySem.W.keepIn K (.ref f19) = true)
    {f20 : Addr} {od20 an20 : Option Addr} {sl20 : Array (Option Value)} {oc20 kV20 dc20 pm20 cd20 ct20 : Value}
    (a20 : PySem.W.nsIn K mainGlobals "_law_pick" = some (some (.ref f20)))
    (l20 : K.lookup f20 = some ⟨oc20, od20, .func (PySem.W.fnOf "_law_pick" "_law_pick" (defArgs s__law_pick) (defBody s__law_pick) (defScope s__law_pick) .none kV20 dc20 pm20 an20 cd20 ct20), sl20⟩) (c20 : PySem.W.codeIn K cd20 "_law_pick" = true) (k20 : PySem.W.keepIn K (.ref f20) = true)
    {f21 : Addr} {od21 an21 : Option Addr} {sl21 : Array (Option Value)} {oc21 kV21 dc21 pm21 cd21 ct21 : Value}
    (a21 : PySem.W.nsIn K mainGlobals "read_log" = some (some (.ref f21)))
    (l21 : K.lookup f21 = some ⟨oc21, od21, .func (PySem.W.fnOf "read_log" "read_log" (defArgs s_read_log) (defBody s_read_log) (defScope s_read_log) .none kV21 dc21 pm21 an21 cd21 ct21), sl21⟩) (c21 : PySem.W.codeIn K cd21 "read_log" = true) (k21 : PySem.W.keepIn K (.ref f21) = true)
    {f22 : Addr} {od22 an22 : Option Addr} {sl22 : Array (Option Value)} {oc22 kV22 dc22 pm22 cd22 ct22 : Value}
    (a22 : PySem.W.nsIn K mainGlobals "_law_log" = some (some (.ref f22)))
    (l22 : K.lookup f22 = some ⟨oc22, od22, .func (PySem.W.fnOf "_law_log" "_law_log" (defArgs s__law_log) (defBody s__law_log) (defScope s__law_log) .none kV22 dc22 pm22 an22 cd22 ct22), sl22⟩) (c22 : PySem.W.codeIn K cd22 "_law_log" = true) (k22 : PySem.W.keepIn K (.ref f22) = true)
    {f23 : Addr} {od23 an23 : Option Addr} {sl23 : Array (Option Value)} {oc23 kV23 dc23 pm23 cd23 ct23 : Value}
    (a23 : PySem.W.nsIn K mainGlobals "_law_good" = some (some (.ref f23)))
    (l23 : K.lookup f23 = some ⟨oc23, od23, .func (PySem.W.fnOf "_law_good" "_law_good" (defArgs s__law_good) (defBody s__law_good) (defScope s__law_good) .none kV23 dc23 pm23 an23 cd23 ct23), sl23⟩) (c23 : PySem.W.codeIn K cd23 "_law_good" = true) (k23 : PySem.W.keepIn K (.ref f23) = true)
    {f24 : Addr} {od24 an24 : Option Addr} {sl24 : Array (Option Value)} {oc24 kV24 dc24 pm24 cd24 ct24 : Value}
    (a24 : PySem.W.nsIn K mainGlobals "_law_bad" = some (some (.ref f24)))
    (l24 : K.lookup f24 = some ⟨oc24, od24, .func (PySem.W.fnOf "_law_bad" "_law_bad" (defArgs s__law_bad) (defBody s__law_bad) (defScope s__law_bad) .none kV24 dc24 pm24 an24 cd24 ct24), sl24⟩) (c24 : PySem.W.codeIn K cd24 "_law_bad" = true) (k24 : PySem.W.keepIn K (.ref f24) = true)
    {f25 : Addr} {od25 an25 : Option Addr} {sl25 : Array (Option Value)} {oc25 kV25 dc25 pm25 cd25 ct25 : Value}
    (a25 : PySem.W.nsIn K mainGlobals "law" = some (some (.ref f25)))
    (l25 : K.lookup f25 = some ⟨oc25, od25, .func (PySem.W.fnOf "law" "law" (defArgs s_law) (defBody s_law) (defScope s_law) .none kV25 dc25 pm25 an25 cd25 ct25), sl25⟩) (c25 : PySem.W.codeIn K cd25 "law" = true) (k25 : PySem.W.keepIn K (.ref f25) = true)
    {u0 : Value} (v0 : PySem.W.nsIn K mainGlobals "MOST" = some (some u0)) (x0 : absD u0 = some (.int 1000000000000))
    {u1 : Value} (v1 : PySem.W.nsIn K mainGlobals "DIGITS" = some (some u1)) (x1 : absD u1 = some (.str [48, 49, 50, 51, 52, 53, 54, 55, 56, 57]))
    {u2 : Value} (v2 : PySem.W.nsIn K mainGlobals "LETTERS" = some (some u2)) (x2 : absD u2 = some (.str [97, 98, 99, 100, 101, 102, 103, 104, 105, 106, 107, 108, 109, 110, 111, 112, 113, 114, 115, 116, 117, 118, 119, 120, 121, 122, 65, 66, 67, 68, 69, 70, 71, 72, 73, 74, 75, 76, 77, 78, 79, 80, 81, 82, 83, 84, 85, 86, 87, 88, 89, 90]))
    {u3 : Value} (v3 : PySem.W.nsIn K mainGlobals "PERCENT" = some (some u3)) (x3 : absD u3 = some (.int 37))
    {u4 : Value} (v4 : PySem.W.nsIn K mainGlobals "BACKSLASH" = some (some u4)) (x4 : absD u4 = some (.int 92))
    {u5 : Value} (v5 : PySem.W.nsIn K mainGlobals "LONGEST" = some (some u5)) (x5 : absD u5 = some (.int 40))
    (z0 : PySem.W.nsIn K mainGlobals "int" = some none)
    (z1 : PySem.W.nsIn K mainGlobals "len" = some none)
    (z2 : PySem.W.nsIn K mainGlobals "range" = some none)
    (z3 : PySem.W.nsIn K mainGlobals "min" = some none)
    (z4 : PySem.W.nsIn K mainGlobals "ord" = some none)
    (z5 : PySem.W.nsIn K mainGlobals "tuple" = some none)
    (z6 : PySem.W.nsIn K mainGlobals "isinstance" = some none)
    (z7 : PySem.W.nsIn K mainGlobals "sorted" = some none)
    (z8 : PySem.W.nsIn K mainGlobals "str" = some none)
    (sG : PySem.W.specialIn K (.builtin "object.__class__") "__get__" = some (some (.builtin "getset_descriptor.__get__"))) (sT : PySem.W.takesIn K (.builtin "object.__class__") = some true)
    (u0_0 : PySem.W.subIn K (.ref C0) (.ref C0) = some true)
    (u0_1 : PySem.W.subIn K (.ref C0) (.ref C1) = some false)
    (u0_3 : PySem.W.subIn K (.ref C0) (.ref C3) = some true)
    (u0_4 : PySem.W.subIn K (.ref C0) (.ref C4) = some true)
    (u1_0 : PySem.W.subIn K (.ref C1) (.ref C0) = some false)
    (u1_1 : PySem.W.subIn K (.ref C1) (.ref C1) = some true)
    (u1_3 : PySem.W.subIn K (.ref C1) (.ref C3) = some true)
    (u1_4 : PySem.W.subIn K (.ref C1) (.ref C4) = some true)
    : ∃ fd : FuncData, (∀ (s : Shared) (v : Value), BindsTo s fd ⟨[v], []⟩ [("script", v)]) ∧ ∀ base : Heap, K.In base → base.Ns mainGlobals mg → FnOk P w K mg base (L2.CX P w) ((depth + 1) + 2) fa fd ["script"] (spC ((md.pg P w K).rc (depth + 1)) 25) := by
  have e := hfa.symm.trans (PySem.W.mg_of X G a25)
  cases e
  have q0 : clsK K "BadLine" = C0 := by unfold clsK; rw [e0]
  subst q0
  have q1 : clsK K "BadTime" = C1 := by unfold clsK; rw [e1]
  subst q1
  have q2 : clsK K "Line" = C2 := by unfold clsK; rw [e2]
  subst q2
  have q3 : clsK K "LogError" = C3 := by unfold clsK; rw [e3]
  subst q3
  have q4 : clsK K "WatchError" = C4 := by unfold clsK; rw [e4]
  subst q4
  have p0 : md.fa K 0 = f0 := by show clsK K "_law_mix" = f0; unfold clsK; rw [a0]
  subst p0
  have p1 : md.fa K 1 = f1 := by show clsK K "_law_stream" = f1; unfold clsK; rw [a1]
  subst p1
  have p2 : md.fa K 2 = f2 := by show methK K (clsK K "Line") "__init__" = f2; unfold methK; rw [a2]
  subst p2
  have p3 : md.fa K 3 = f3 := by show methK K (clsK K "Line") "next" = f3; unfold methK; rw [a3]
  subst p3
  have p4 : md.fa K 4 = f4 := by show methK K (clsK K "Line") "skip_spaces" = f4; unfold methK; rw [a4]
  subst p4
  have p5 : md.fa K 5 = f5 := by show methK K (clsK K "Line") "expect" = f5; unfold methK; rw [a5]
  subst p5
  have p6 : md.fa K 6 = f6 := by show clsK K "is_number" = f6; unfold clsK; rw [a6]
  subst p6
  have p7 : md.fa K 7 = f7 := by show methK K (clsK K "Line") "time" = f7; unfold methK; rw [a7]
  subst p7
  have p8 : md.fa K 8 = f8 := by show clsK K "word_end" = f8; unfold clsK; rw [a8]
  subst p8
  have p9 : md.fa K 9 = f9 := by show methK K (clsK K "Line") "word" = f9; unfold methK; rw [a9]
  subst p9
  have p10 : md.fa K 10 = f10 := by show methK K (clsK K "Line") "number" = f10; unfold methK; rw [a10]
  subst p10
  have p11 : md.fa K 11 = f11 := by show clsK K "is_sign" = f11; unfold clsK; rw [a11]
  subst p11
  have p12 : md.fa K 12 = f12 := by show methK K (clsK K "Line") "quoted" = f12; unfold methK; rw [a12]
  subst p12
  have p13 : md.fa K 13 = f13 := by show methK K (clsK K "Line") "value" = f13; unfold methK; rw [a13]
  subst p13
  have p14 : md.fa K 14 = f14 := by show methK K (clsK K "Line") "values" = f14; unfold methK; rw [a14]
  subst p14
  have p15 : md.fa K 15 = f15 := by show clsK K "order_of" = f15; unfold clsK; rw [a15]
  subst p15
  have p16 : md.fa K 16 = f16 := by show clsK K "row_order" = f16; unfold clsK; rw [a16]
  subst p16
  have p17 : md.fa K 17 = f17 := by show clsK K "read_line" = f17; unfold clsK; rw [a17]
  subst p17
  have p18 : md.fa K 18 = f18 := by show clsK K "_law_events" = f18; unfold clsK; rw [a18]
  subst p18
  have p19 : md.fa K 19 = f19 := by show clsK K "_law_told" = f19; unfold clsK; rw [a19]
  subst p19
  have p20 : md.fa K 20 = f20 := by show clsK K "_law_pick" = f20; unfold clsK; rw [a20]
  subst p20
  have p21 : md.fa K 21 = f21 := by show clsK K "read_log" = f21; unfold clsK; rw [a21]
  subst p21
  have p22 : md.fa K 22 = f22 := by show clsK K "_law_log" = f22; unfold clsK; rw [a22]
  subst p22
  have p23 : md.fa K 23 = f23 := by show clsK K "_law_good" = f23; unfold clsK; rw [a23]
  subst p23
  have p24 : md.fa K 24 = f24 := by show clsK K "_law_bad" = f24; unfold clsK; rw [a24]
  subst p24
  have p25 : md.fa K 25 = fa := by show clsK K "law" = fa; unfold clsK; rw [a25]
  subst p25
  have F0 := fun_d0 (st := s__law_mix) l0 c0 k0
  have b0 := FunD.bindsN (ps := ["cell", "k"]) F0 fun _ _ _ _ _ _ us hl => match us, hl with | [_, _], _ => rfl
  have F1 := fun_d0 (st := s__law_stream) l1 c1 k1
  have b1 := FunD.bindsN (ps := ["script", "most"]) F1 fun _ _ _ _ _ _ us hl => match us, hl with | [_, _], _ => rfl
  have F2 := fun_d0 (st := s_Line____init__) l2 c2 k2
  have b2 := FunD.bindsN (ps := ["self", "text"]) F2 fun _ _ _ _ _ _ us hl => match us, hl with | [_, _], _ => rfl
  have F3 := fun_d0 (st := s_Line__next) l3 c3 k3
  have b3 := FunD.bindsN (ps := ["self"]) F3 fun _ _ _ _ _ _ us hl => match us, hl with | [_], _ => rfl
  have F4 := fun_d0 (st := s_Line__skip_spaces) l4 c4 k4
  have b4 := FunD.bindsN (ps := ["self"]) F4 fun _ _ _ _ _ _ us hl => match us, hl with | [_], _ => rfl
  have F5 := fun_d0 (st := s_Line__expect) l5 c5 k5
  have b5 := FunD.bindsN (ps := ["self", "char"]) F5 fun _ _ _ _ _ _ us hl => match us, hl with | [_, _], _ => rfl
  have F6 := fun_d0 (st := s_is_number) l6 c6 k6
  have b6 := FunD.bindsN (ps := ["word"]) F6 fun _ _ _ _ _ _ us hl => match us, hl with | [_], _ => rfl
  have F7 := fun_d0 (st := s_Line__time) l7 c7 k7
  have b7 := FunD.bindsN (ps := ["self"]) F7 fun _ _ _ _ _ _ us hl => match us, hl with | [_], _ => rfl
  have F8 := fun_d0 (st := s_word_end) l8 c8 k8
  have b8 := FunD.bindsN (ps := ["text", "start"]) F8 fun _ _ _ _ _ _ us hl => match us, hl with | [_, _], _ => rfl
  have F9 := fun_d0 (st := s_Line__word) l9 c9 k9
  have b9 := FunD.bindsN (ps := ["self"]) F9 fun _ _ _ _ _ _ us hl => match us, hl with | [_], _ => rfl
  have F10 := fun_d0 (st := s_Line__number) l10 c10 k10
  have b10 := FunD.bindsN (ps := ["self"]) F10 fun _ _ _ _ _ _ us hl => match us, hl with | [_], _ => rfl
  have F11 := fun_d0 (st := s_is_sign) l11 c11 k11
  have b11 := FunD.bindsN (ps := ["char"]) F11 fun _ _ _ _ _ _ us hl => match us, hl with | [_], _ => rfl
  have F12 := fun_d0 (st := s_Line__quoted) l12 c12 k12
  have b12 := FunD.bindsN (ps := ["self"]) F12 fun _ _ _ _ _ _ us hl => match us, hl with | [_], _ => rfl
  have F13 := fun_d0 (st := s_Line__value) l13 c13 k13
  have b13 := FunD.bindsN (ps := ["self", "kind"]) F13 fun _ _ _ _ _ _ us hl => match us, hl with | [_, _], _ => rfl
  have F14 := fun_d0 (st := s_Line__values) l14 c14 k14
  have b14 := FunD.bindsN (ps := ["self", "kinds"]) F14 fun _ _ _ _ _ _ us hl => match us, hl with | [_, _], _ => rfl
  have F15 := fun_d0 (st := s_order_of) l15 c15 k15
  have b15 := FunD.bindsN (ps := ["value"]) F15 fun _ _ _ _ _ _ us hl => match us, hl with | [_], _ => rfl
  have F16 := fun_d0 (st := s_row_order) l16 c16 k16
  have b16 := FunD.bindsN (ps := ["row"]) F16 fun _ _ _ _ _ _ us hl => match us, hl with | [_], _ => rfl
  have F17 := fun_d0 (st := s_read_line) l17 c17 k17
  have b17 := FunD.bindsN (ps := ["text", "events"]) F17 fun _ _ _ _ _ _ us hl => match us, hl with | [_, _], _ => rfl
  have F18 := fun_d0 (st := s__law_events) l18 c18 k18
  have b18 := FunD.bindsN (ps := []) F18 fun _ _ _ _ _ _ us hl => match us, hl with | [], _ => rfl
  have F19 := fun_d0 (st := s__law_told) l19 c19 k19
  have b19 := FunD.bindsN (ps := ["line"]) F19 fun _ _ _ _ _ _ us hl => match us, hl with | [_], _ => rfl
  have F20 := fun_d0 (st := s__law_pick) l20 c20 k20
  have b20 := FunD.bindsN (ps := ["draws", "many"]) F20 fun _ _ _ _ _ _ us hl => match us, hl with | [_, _], _ => rfl
  have F21 := fun_d0 (st := s_read_log) l21 c21 k21
  have b21 := FunD.bindsN (ps := ["text", "events"]) F21 fun _ _ _ _ _ _ us hl => match us, hl with | [_, _], _ => rfl
  have F22 := fun_d0 (st := s__law_log) l22 c22 k22
  have b22 := FunD.bindsN (ps := ["text"]) F22 fun _ _ _ _ _ _ us hl => match us, hl with | [_], _ => rfl
  have F23 := fun_d0 (st := s__law_good) l23 c23 k23
  have b23 := FunD.bindsN (ps := ["draws", "time"]) F23 fun _ _ _ _ _ _ us hl => match us, hl with | [_, _], _ => rfl
  have F24 := fun_d0 (st := s__law_bad) l24 c24 k24
  have b24 := FunD.bindsN (ps := ["draws"]) F24 fun _ _ _ _ _ _ us hl => match us, hl with | [_], _ => rfl
  have F25 := fun_d0 (st := s_law) l25 c25 k25
  have b25 := FunD.bindsN (ps := ["script"]) F25 fun _ _ _ _ _ _ us hl => match us, hl with | [_], _ => rfl
  have Qc0 : ConOk (md.kx P w K) "MOST" (.int 1000000000000) := con_flat v0 x0
  have Qc1 : ConOk (md.kx P w K) "DIGITS" (.str [48, 49, 50, 51, 52, 53, 54, 55, 56, 57]) := con_flat v1 x1
  have Qc2 : ConOk (md.kx P w K) "LETTERS" (.str [97, 98, 99, 100, 101, 102, 103, 104, 105, 106, 107, 108, 109, 110, 111, 112, 113, 114, 115, 116, 117, 118, 119, 120, 121, 122, 65, 66, 67, 68, 69, 70, 71, 72, 73, 74, 75, 76, 77, 78, 79, 80, 81, 82, 83, 84, 85, 86, 87, 88, 89, 90]) := con_flat v2 x2
  have Qc3 : ConOk (md.kx P w K) "PERCENT" (.int 37) := con_flat v3 x3
  have Qc4 : ConOk (md.kx P w K) "BACKSLASH" (.int 92) := con_flat v4 x4
  have Qc5 : ConOk (md.kx P w K) "LONGEST" (.int 40) := con_flat v5 x5
  have D0 : ∀ base : Heap, ∃ x q fd dvs N ps st, DefOk P w K mg base md 0 x q fn__law_mix fd dvs N ps st := fun base => ⟨_, _, _, _, ["cell", "k", "low"], ["cell", "k"], s__law_mix, ⟨F0, b0, (fun ds hd => by rw [show md.dfl 0 = [] from rfl] at hd; cases hd), sc__law_mix, rfl, rfl, der__law_mix⟩⟩
  have D1 : ∀ base : Heap, ∃ x q fd dvs N ps st, DefOk P w K mg base md 1 x q fn__law_stream fd dvs N ps st := fun base => ⟨_, _, _, _, ["script", "most", "row", "k", "rest", "j"], ["script", "most"], s__law_stream, ⟨F1, b1, (fun ds hd => by rw [show md.dfl 1 = [] from rfl] at hd; cases hd), sc__law_stream, rfl, rfl, der__law_stream⟩⟩
  have D2 : ∀ base : Heap, ∃ x q fd dvs N ps st, DefOk P w K mg base md 2 x q fn_Line____init__ fd dvs N ps st := fun base => ⟨_, _, _, _, ["self", "text"], ["self", "text"], s_Line____init__, ⟨F2, b2, (fun ds hd => by rw [show md.dfl 2 = [] from rfl] at hd; cases hd), sc_Line____init__, rfl, rfl, der_Line____init__⟩⟩
  have D3 : ∀ base : Heap, ∃ x q fd dvs N ps st, DefOk P w K mg base md 3 x q fn_Line__next fd dvs N ps st := fun base => ⟨_, _, _, _, ["self"], ["self"], s_Line__next, ⟨F3, b3, (fun ds hd => by rw [show md.dfl 3 = [] from rfl] at hd; cases hd), sc_Line__next, rfl, rfl, der_Line__next⟩⟩
  have D4 : ∀ base : Heap, ∃ x q fd dvs N ps st, DefOk P w K mg base md 4 x q fn_Line__skip_spaces fd dvs N ps st := fun base => ⟨_, _, _, _, ["self"], ["self"], s_Line__skip_spaces, ⟨F4, b4, (fun ds hd => by rw [show md.dfl 4 = [] from rfl] at hd; cases hd), sc_Line__skip_spaces, rfl, rfl, der_Line__skip_spaces⟩⟩
  have D5 : ∀ base : Heap, ∃ x q fd dvs N ps st, DefOk P w K mg base md 5 x q fn_Line__expect fd dvs N ps st := fun base => ⟨_, _, _, _, ["self", "char"], ["self", "char"], s_Line__expect, ⟨F5, b5, (fun ds hd => by rw [show md.dfl 5 = [] from rfl] at hd; cases hd), sc_Line__expect, rfl, rfl, der_Line__expect⟩⟩
  have D6 : ∀ base : Heap, ∃ x q fd dvs N ps st, DefOk P w K mg base md 6 x q fn_is_number fd dvs N ps st := fun base => ⟨_, _, _, _, ["word", "char"], ["word"], s_is_number, ⟨F6, b6, (fun ds hd => by rw [show md.dfl 6 = [] from rfl] at hd; cases hd), sc_is_number, rfl, rfl, der_is_number⟩⟩
  have D7 : ∀ base : Heap, ∃ x q fd dvs N ps st, DefOk P w K mg base md 7 x q fn_Line__time fd dvs N ps st := fun base => ⟨_, _, _, _, ["self", "begin", "word"], ["self"], s_Line__time, ⟨F7, b7, (fun ds hd => by rw [show md.dfl 7 = [] from rfl] at hd; cases hd), sc_Line__time, rfl, rfl, der_Line__time⟩⟩
  have D8 : ∀ base : Heap, ∃ x q fd dvs N ps st, DefOk P w K mg base md 8 x q fn_word_end fd dvs N ps st := fun base => ⟨_, _, _, _, ["text", "start", "end"], ["text", "start"], s_word_end, ⟨F8, b8, (fun ds hd => by rw [show md.dfl 8 = [] from rfl] at hd; cases hd), sc_word_end, rfl, rfl, der_word_end⟩⟩
  have D9 : ∀ base : Heap, ∃ x q fd dvs N ps st, DefOk P w K mg base md 9 x q fn_Line__word fd dvs N ps st := fun base => ⟨_, _, _, _, ["self", "end", "found"], ["self"], s_Line__word, ⟨F9, b9, (fun ds hd => by rw [show md.dfl 9 = [] from rfl] at hd; cases hd), sc_Line__word, rfl, rfl, der_Line__word⟩⟩
  have D10 : ∀ base : Heap, ∃ x q fd dvs N ps st, DefOk P w K mg base md 10 x q fn_Line__number fd dvs N ps st := fun base => ⟨_, _, _, _, ["self", "word"], ["self"], s_Line__number, ⟨F10, b10, (fun ds hd => by rw [show md.dfl 10 = [] from rfl] at hd; cases hd), sc_Line__number, rfl, rfl, der_Line__number⟩⟩
  have D11 : ∀ base : Heap, ∃ x q fd dvs N ps st, DefOk P w K mg base md 11 x q fn_is_sign fd dvs N ps st := fun base => ⟨_, _, _, _, ["char"], ["char"], s_is_sign, ⟨F11, b11, (fun ds hd => by rw [show md.dfl 11 = [] from rfl] at hd; cases hd), sc_is_sign, rfl, rfl, der_is_sign⟩⟩
  have D12 : ∀ base : Heap, ∃ x q fd dvs N ps st, DefOk P w K mg base md 12 x q fn_Line__quoted fd dvs N ps st := fun base => ⟨_, _, _, _, ["self", "end", "found", "char"], ["self"], s_Line__quoted, ⟨F12, b12, (fun ds hd => by rw [show md.dfl 12 = [] from rfl] at hd; cases hd), sc_Line__quoted, rfl, rfl, der_Line__quoted⟩⟩
  have D13 : ∀ base : Heap, ∃ x q fd dvs N ps st, DefOk P w K mg base md 13 x q fn_Line__value fd dvs N ps st := fun base => ⟨_, _, _, _, ["self", "kind", "number"], ["self", "kind"], s_Line__value, ⟨F13, b13, (fun ds hd => by rw [show md.dfl 13 = [] from rfl] at hd; cases hd), sc_Line__value, rfl, rfl, der_Line__value⟩⟩
  have D14 : ∀ base : Heap, ∃ x q fd dvs N ps st, DefOk P w K mg base md 14 x q fn_Line__values fd dvs N ps st := fun base => ⟨_, _, _, _, ["self", "kinds", "found", "at"], ["self", "kinds"], s_Line__values, ⟨F14, b14, (fun ds hd => by rw [show md.dfl 14 = [] from rfl] at hd; cases hd), sc_Line__values, rfl, rfl, der_Line__values⟩⟩
  have D15 : ∀ base : Heap, ∃ x q fd dvs N ps st, DefOk P w K mg base md 15 x q fn_order_of fd dvs N ps st := fun base => ⟨_, _, _, _, ["value"], ["value"], s_order_of, ⟨F15, b15, (fun ds hd => by rw [show md.dfl 15 = [] from rfl] at hd; cases hd), sc_order_of, rfl, rfl, der_order_of⟩⟩
  have D16 : ∀ base : Heap, ∃ x q fd dvs N ps st, DefOk P w K mg base md 16 x q fn_row_order fd dvs N ps st := fun base => ⟨_, _, _, _, ["row", "value"], ["row"], s_row_order, ⟨F16, b16, (fun ds hd => by rw [show md.dfl 16 = [] from rfl] at hd; cases hd), sc_row_order, rfl, rfl, der_row_order⟩⟩
  have D17 : ∀ base : Heap, ∃ x q fd dvs N ps st, DefOk P w K mg base md 17 x q fn_read_line fd dvs N ps st := fun base => ⟨_, _, _, _, ["text", "events", "line", "time", "found", "name", "rows"], ["text", "events"], s_read_line, ⟨F17, b17, (fun ds hd => by rw [show md.dfl 17 = [] from rfl] at hd; cases hd), sc_read_line, rfl, rfl, der_read_line⟩⟩
  have D18 : ∀ base : Heap, ∃ x q fd dvs N ps st, DefOk P w K mg base md 18 x q fn__law_events fd dvs N ps st := fun base => ⟨_, _, _, _, [], [], s__law_events, ⟨F18, b18, (fun ds hd => by rw [show md.dfl 18 = [] from rfl] at hd; cases hd), sc__law_events, rfl, rfl, der__law_events⟩⟩
  have D19 : ∀ base : Heap, ∃ x q fd dvs N ps st, DefOk P w K mg base md 19 x q fn__law_told fd dvs N ps st := fun base => ⟨_, _, _, _, ["line", "e"], ["line"], s__law_told, ⟨F19, b19, (fun ds hd => by rw [show md.dfl 19 = [] from rfl] at hd; cases hd), sc__law_told, rfl, rfl, der__law_told⟩⟩
  have D20 : ∀ base : Heap, ∃ x q fd dvs N ps st, DefOk P w K mg base md 20 x q fn__law_pick fd dvs N ps st := fun base => ⟨_, _, _, _, ["draws", "many", "at", "number"], ["draws", "many"], s__law_pick, ⟨F20, b20, (fun ds hd => by rw [show md.dfl 20 = [] from rfl] at hd; cases hd), sc__law_pick, rfl, rfl, der__law_pick⟩⟩
  have D21 : ∀ base : Heap, ∃ x q fd dvs N ps st, DefOk P w K mg base md 21 x q fn_read_log fd dvs N ps st := fun base => ⟨_, _, _, _, ["text", "events", "lines", "log", "line", "point"], ["text", "events"], s_read_log, ⟨F21, b21, (fun ds hd => by rw [show md.dfl 21 = [] from rfl] at hd; cases hd), sc_read_log, rfl, rfl, der_read_log⟩⟩
  have D22 : ∀ base : Heap, ∃ x q fd dvs N ps st, DefOk P w K mg base md 22 x q fn__law_log fd dvs N ps st := fun base => ⟨_, _, _, _, ["text", "e"], ["text"], s__law_log, ⟨F22, b22, (fun ds hd => by rw [show md.dfl 22 = [] from rfl] at hd; cases hd), sc__law_log, rfl, rfl, der__law_log⟩⟩
  have D23 : ∀ base : Heap, ∃ x q fd dvs N ps st, DefOk P w K mg base md 23 x q fn__law_good fd dvs N ps st := fun base => ⟨_, _, _, _, ["draws", "time", "rows"], ["draws", "time"], s__law_good, ⟨F23, b23, (fun ds hd => by rw [show md.dfl 23 = [] from rfl] at hd; cases hd), sc__law_good, rfl, rfl, der__law_good⟩⟩
  have D24 : ∀ base : Heap, ∃ x q fd dvs N ps st, DefOk P w K mg base md 24 x q fn__law_bad fd dvs N ps st := fun base => ⟨_, _, _, _, ["draws", "rows", "sign"], ["draws"], s__law_bad, ⟨F24, b24, (fun ds hd => by rw [show md.dfl 24 = [] from rfl] at hd; cases hd), sc__law_bad, rfl, rfl, der__law_bad⟩⟩
  have D25 : ∀ base : Heap, ∃ x q fd dvs N ps st, DefOk P w K mg base md 25 x q fn_law fd dvs N ps st := fun base => ⟨_, _, _, _, ["script", "draws", "turn", "word", "told", "time", "lines", "due", "k", "pick", "line"], ["script"], s_law, ⟨F25, b25, (fun ds hd => by rw [show md.dfl 25 = [] from rfl] at hd; cases hd), sc_law, rfl, rfl, der_law⟩⟩
  have DD : ∀ base : Heap, AllI (fun i fn => ∃ x q fd dvs N ps st, DefOk P w K mg base md i x q fn fd dvs N ps st) 0 md.code := fun base => ⟨D0 base, D1 base, D2 base, D3 base, D4 base, D5 base, D6 base, D7 base, D8 base, D9 base, D10 base, D11 base, D12 base, D13 base, D14 base, D15 base, D16 base, D17 base, D18 base, D19 base, D20 base, D21 base, D22 base, D23 base, D24 base, D25 base, trivial⟩
  have Gs : AllI (fun (i : Nat) (x : Str) => x ≠ "" → mg x = some (.ref (md.fa K i)) ∧ ∃ fn, md.code[i]? = some fn) 0 md.fns := ⟨(fun _ => ⟨PySem.W.mg_of X G a0, _, rfl⟩), (fun _ => ⟨PySem.W.mg_of X G a1, _, rfl⟩), (fun h => absurd rfl h), (fun h => absurd rfl h), (fun h => absurd rfl h), (fun h => absurd rfl h), (fun _ => ⟨PySem.W.mg_of X G a6, _, rfl⟩), (fun h => absurd rfl h), (fun _ => ⟨PySem.W.mg_of X G a8, _, rfl⟩), (fun h => absurd rfl h), (fun h => absurd rfl h), (fun _ => ⟨PySem.W.mg_of X G a11, _, rfl⟩), (fun h => absurd rfl h), (fun h => absurd rfl h), (fun h => absurd rfl h), (fun _ => ⟨PySem.W.mg_of X G a15, _, rfl⟩), (fun _ => ⟨PySem.W.mg_of X G a16, _, rfl⟩), (fun _ => ⟨PySem.W.mg_of X G a17, _, rfl⟩), (fun _ => ⟨PySem.W.mg_of X G a18, _, rfl⟩), (fun _ => ⟨PySem.W.mg_of X G a19, _, rfl⟩), (fun _ => ⟨PySem.W.mg_of X G a20, _, rfl⟩), (fun _ => ⟨PySem.W.mg_of X G a21, _, rfl⟩), (fun _ => ⟨PySem.W.mg_of X G a22, _, rfl⟩), (fun _ => ⟨PySem.W.mg_of X G a23, _, rfl⟩), (fun _ => ⟨PySem.W.mg_of X G a24, _, rfl⟩), (fun _ => ⟨PySem.W.mg_of X G a25, _, rfl⟩), trivial⟩
  have Cs : AllI (fun (_ : Nat) (x : Str) => ∃ u, mg x = some u ∧ RelV (gvK K x) u) 0 md.cons := ⟨(have ⟨u, h1, h2, _⟩ := Qc0; ⟨u, PySem.W.mg_of X G h1, h2⟩), (have ⟨u, h1, h2, _⟩ := Qc1; ⟨u, PySem.W.mg_of X G h1, h2⟩), (have ⟨u, h1, h2, _⟩ := Qc2; ⟨u, PySem.W.mg_of X G h1, h2⟩), (have ⟨u, h1, h2, _⟩ := Qc3; ⟨u, PySem.W.mg_of X G h1, h2⟩), (have ⟨u, h1, h2, _⟩ := Qc4; ⟨u, PySem.W.mg_of X G h1, h2⟩), (have ⟨u, h1, h2, _⟩ := Qc5; ⟨u, PySem.W.mg_of X G h1, h2⟩), trivial⟩
  have Vs : AllI (fun i d => ∀ G, Rp (md.kx P w K) G d (gvK K (md.cons[i]?.getD ""))) 0 md.vals := ⟨(have ⟨_, _, _, h3⟩ := Qc0; h3), (have ⟨_, _, _, h3⟩ := Qc1; h3), (have ⟨_, _, _, h3⟩ := Qc2; h3), (have ⟨_, _, _, h3⟩ := Qc3; h3), (have ⟨_, _, _, h3⟩ := Qc4; h3), (have ⟨_, _, _, h3⟩ := Qc5; h3), trivial⟩
  have Bs : AllI (fun (_ : Nat) (x : Str) => mg x = none) 0 md.blts := ⟨PySem.W.mg_none_of X G z0, PySem.W.mg_none_of X G z1, PySem.W.mg_none_of X G z2, PySem.W.mg_none_of X G z3, PySem.W.mg_none_of X G z4, PySem.W.mg_none_of X G z5, PySem.W.mg_none_of X G z6, PySem.W.mg_none_of X G z7, PySem.W.mg_none_of X G z8, trivial⟩
  have Dg : AllI (fun (i : Nat) (x : Str) => ∃ d ks ds, mg x = some (.ref d) ∧ md.dvs[i]? = some (ks, ds) ∧ GdOk K w d ks ds) 0 md.dcts := trivial
  have Es : AllI (fun (_ : Nat) (x : Str) => mg x = some (.ref (clsK K x))) 0 md.clss := ⟨PySem.W.mg_of X G e0, PySem.W.mg_of X G e1, PySem.W.mg_of X G e2, PySem.W.mg_of X G e3, PySem.W.mg_of X G e4, trivial⟩
  have Hf : AllI (fun c l => ∀ f ∈ l, Cls K (md.ca K c) ∧ NoAttr K (md.ca K c) (md.fl f)) 0 md.hft := ⟨(fun _ h => nomatch h), (fun _ h => nomatch h), List.forall_mem_cons.mpr ⟨⟨⟨pg2, hd2, po2, sa2⟩, na2_1⟩, List.forall_mem_cons.mpr ⟨⟨⟨pg2, hd2, po2, sa2⟩, na2_0⟩, (fun _ h => nomatch h)⟩⟩, (fun _ h => nomatch h), (fun _ h => nomatch h), trivial⟩
  have Hl : AllI (fun _ l => ∀ f ∈ l, f < md.flds.length) 0 md.hft := ⟨(by decide), (by decide), (by decide), (by decide), (by decide), trivial⟩
  have Mt : AllI (fun c row => AllI (fun k o => ∀ f, o = some f → Cls K (md.ca K c) ∧ Meth K (md.ca K c) (md.mn k) (md.fa K f) ∧ ∃ fn, md.code[f]? = some fn) 0 row) 0 md.mtab := ⟨⟨(fun f h => by cases h), (fun f h => by cases h), (fun f h => by cases h), (fun f h => by cases h), (fun f h => by cases h), (fun f h => by cases h), (fun f h => by cases h), (fun f h => by cases h), (fun f h => by cases h), trivial⟩, ⟨(fun f h => by cases h), (fun f h => by cases h), (fun f h => by cases h), (fun f h => by cases h), (fun f h => by cases h), (fun f h => by cases h), (fun f h => by cases h), (fun f h => by cases h), (fun f h => by cases h), trivial⟩, ⟨(fun f h => by cases h; exact ⟨⟨pg2, hd2, po2, sa2⟩, ⟨a3, g3, k3⟩, _, rfl⟩), (fun f h => by cases h; exact ⟨⟨pg2, hd2, po2, sa2⟩, ⟨a9, g9, k9⟩, _, rfl⟩), (fun f h => by cases h; exact ⟨⟨pg2, hd2, po2, sa2⟩, ⟨a10, g10, k10⟩, _, rfl⟩), (fun f h => by cases h; exact ⟨⟨pg2, hd2, po2, sa2⟩, ⟨a12, g12, k12⟩, _, rfl⟩), (fun f h => by cases h; exact ⟨⟨pg2, hd2, po2, sa2⟩, ⟨a5, g5, k5⟩, _, rfl⟩), (fun f h => by cases h; exact ⟨⟨pg2, hd2, po2, sa2⟩, ⟨a4, g4, k4⟩, _, rfl⟩), (fun f h => by cases h; exact ⟨⟨pg2, hd2, po2, sa2⟩, ⟨a13, g13, k13⟩, _, rfl⟩), (fun f h => by cases h; exact ⟨⟨pg2, hd2, po2, sa2⟩, ⟨a14, g14, k14⟩, _, rfl⟩), (fun f h => by cases h; exact ⟨⟨pg2, hd2, po2, sa2⟩, ⟨a7, g7, k7⟩, _, rfl⟩), trivial⟩, ⟨(fun f h => by cases h), (fun f h => by cases h), (fun f h => by cases h), (fun f h => by cases h), (fun f h => by cases h), (fun f h => by cases h), (fun f h => by cases h), (fun f h => by cases h), (fun f h => by cases h), trivial⟩, ⟨(fun f h => by cases h), (fun f h => by cases h), (fun f h => by cases h), (fun f h => by cases h), (fun f h => by cases h), (fun f h => by cases h), (fun f h => by cases h), (fun f h => by cases h), (fun f h => by cases h), trivial⟩, trivial⟩
  have In : AllI (fun c o => ∀ f, o = some f → L2.Mk K (md.ca K c) (md.fa K f) ∧ ∃ fn, md.code[f]? = some fn) 0 md.inis := ⟨(fun f h => by cases h), (fun f h => by cases h), (fun f h => by cases h; exact ⟨⟨mk2, a2, g2, kp2⟩, _, rfl⟩), (fun f h => by cases h), (fun f h => by cases h), trivial⟩
  have X0 : ExcC K (clsK K "BadLine") := ⟨g0A, g0B, b0X, h0X, a0C, sG, sT, o0C⟩
  have X1 : ExcC K (clsK K "BadTime") := ⟨g1A, g1B, b1X, h1X, a1C, sG, sT, o1C⟩
  have Er : AllI (fun y o => ∀ ns, o = some ns → ExcC K (md.ca K y) ∧ (ns.map md.fl).Nodup ∧ (∀ n ∈ ns, PySem.W.findIn K (.ref (md.ca K y)) (md.fl n) = some none) ∧ ∀ n ∈ md.efs, PySem.W.findIn K (.ref (md.ca K y)) (md.fl n) = some none) 0 md.mks := ⟨(fun ns h => by cases h; exact ⟨X0, (by decide), (fun _ h => nomatch h), (fun _ h => nomatch h)⟩), (fun ns h => by cases h; exact ⟨X1, (by decide), (fun _ h => nomatch h), (fun _ h => nomatch h)⟩), trivial⟩
  have E2 : ∀ base : Heap, AllI (fun y o => ∀ ns, o = some ns → ∀ k1 k2, ns = [k1, k2] → OexC K (md.ca K y) ∧ ∃ (fI : Addr) (fd : FuncData) (ps : List Str), PySem.W.findIn K (.ref (md.ca K y)) "__init__" = some (some (.ref fI)) ∧ PySem.W.typeIn K (.ref fI) = some (.type "function") ∧ FnOk P w K mg base (L2.CX P w) 1 fI fd ps (spXI K (md.fl k1) (md.fl k2)) ∧ Binds K fd ps []) 0 md.mks := fun base => ⟨(fun ns h k1 k2 h2 => by cases h; cases h2), (fun ns h k1 k2 h2 => by cases h; cases h2), trivial⟩
  have E1 : ∀ base : Heap, AllI (fun y o => ∀ ns, o = some ns → ∀ k1, ns = [k1] → OexC K (md.ca K y) ∧ ∃ (fI : Addr) (fd : FuncData) (ps : List Str), PySem.W.findIn K (.ref (md.ca K y)) "__init__" = some (some (.ref fI)) ∧ PySem.W.typeIn K (.ref fI) = some (.type "function") ∧ FnOk P w K mg base (L2.CX P w) 1 fI fd ps (spXJ K (md.fl k1)) ∧ Binds K fd ps []) 0 md.mks := fun base => ⟨(fun ns h k1 h2 => by cases h; cases h2), (fun ns h k1 h2 => by cases h; cases h2), trivial⟩
  have Su : AllI (fun i row => AllI (fun j o => ∀ b, o = some b → SubOk K (md.ca K i) (md.ca K j) b) 0 row) 0 md.subs := ⟨⟨(fun b h => by cases h; exact sub_mk b0X h0X t0X u0_0 u0_0), (fun b h => by cases h; exact sub_mk b1X h1X t1X u0_0 u0_1), (fun b h => by cases h), (fun b h => by cases h; exact sub_mk b3X h3X t3X u0_0 u0_3), (fun b h => by cases h; exact sub_mk b4X h4X t4X u0_0 u0_4), trivial⟩, ⟨(fun b h => by cases h; exact sub_mk b0X h0X t0X u1_1 u1_0), (fun b h => by cases h; exact sub_mk b1X h1X t1X u1_1 u1_1), (fun b h => by cases h), (fun b h => by cases h; exact sub_mk b3X h3X t3X u1_1 u1_3), (fun b h => by cases h; exact sub_mk b4X h4X t4X u1_1 u1_4), trivial⟩, trivial⟩
  have E0 : AllI (fun y o => ∀ ns, o = some ns → ns = [] → PySem.W.excIn K (md.ca K y) veB "ValueError.__new__" = true ∧ PySem.W.keepIn K (.ref (md.ca K y)) = true ∧ PySem.W.subIn K (.ref (md.ca K y)) (.type "BaseException") = some true ∧ PySem.W.typeIn K (.ref (md.ca K y)) = some (.type "type")) 0 md.mks := ⟨(fun ns h h2 => ⟨v0E, k0C, b0X, t0X⟩), (fun ns h h2 => ⟨v1E, k1C, b1X, t1X⟩), trivial⟩
  have M : ∀ base : Heap, ModOk P w K mg base md := fun base => ⟨fun i fn e => (DD base).get e, fun i x e => Gs.get e, fun i x e => Cs.get e, fun i d e => Vs.get e, fun i x e => Bs.get e, fun i x e => Es.get e, by decide, hf_of Hl, by decide, hf_of Hf, (fun c k f h => tab2 Mt c k f h), (fun c f h => tab1 In c f h), rfl, (fun i x e => Dg.get e), (fun y ns h => tab1 Er y ns h), (fun y k1 k2 h => tab1 (E2 base) y _ h k1 k2 rfl), (fun y k1 h => tab1 (E1 base) y _ h k1 rfl), (fun i j b h => tab2 Su i j b h), (fun y h => tab1 E0 y _ h rfl)⟩
  exact ⟨_, fun s v => .of_eq rfl, fun base _ _ => DefOk.up (M base) (k := depth) (fn := fn_law) ⟨F25, b25, (fun ds hd => by rw [show md.dfl 25 = [] from rfl] at hd; cases hd), sc_law, rfl, rfl, der_law⟩ rfl (ModOk.both (M base) depth).1 (ModOk.both (M base) depth).2⟩
end K31
/-! Sheetwatch k31: what the defs of the law's own side compute. -/
namespace K31
open Mq PySem L2
abbrev C (k : Nat) : Cn := md.cn (callN md k) (callL md k)
theorem C_call {k f : Nat} {fn : Fn} {as : En} (h : md.code[f]? = some fn) : (C (k + 1)).call f as = runF (C k) fn as := by
  show callN md (k + 1) f as = _
  rw [callN_s, h]
theorem mkc_C (k f : Nat) (as : En) : (C (k + 1)).mkc f as = (C k).call f as := rfl
def mix (a b : Int) : Int := ((((a * 48271 + b * 69621 + 11) % 2147483647) * ((a * 48271 + b * 69621 + 11) % 2147483647) + a * 40692 + b * 7 + 3) % 1000003) % 1000
theorem mulR {a b : Int} (h : -(2 ^ 64) < b ∧ b < 2 ^ 64) : mulD (.int a) (.int b) = some (.int (a * b)) := by
  show (if (decide (-(2 ^ 64) < a) && decide (a < 2 ^ 64)) || (decide (-(2 ^ 64) < b) && decide (b < 2 ^ 64)) then some (D.int (a * b)) else none) = _
  rw [if_pos]
  rw [decide_eq_true h.1, decide_eq_true h.2, Bool.and_self, Bool.or_true]
theorem mix_run (c : Cn) (a b : Int) : runF c fn__law_mix [.da (.int a), .da (.int b)] = .ok (.da (.int (mix a b))) [.da (.int a), .da (.int b)] := by
  have h1 : ∀ x : Int, -(2 ^ 64) < x % 2147483647 ∧ x % 2147483647 < 2 ^ 64 := fun x => by omega
  have m1 : mulD (.int a) (.int 48271) = some (.int (a * 48271)) := mulR (by decide)
  have m2 : mulD (.int b) (.int 69621) = some (.int (b * 69621)) := mulR (by decide)
  have m3 : mulD (.int a) (.int 40692) = some (.int (a * 40692)) := mulR (by decide)
  have m4 : mulD (.int b) (.int 7) = some (.int (b * 7)) := mulR (by decide)
  have m5 : ∀ x : Int, mulD (.int (x % 2147483647)) (.int (x % 2147483647)) = some (.int (x % 2147483647 * (x % 2147483647))) := fun x => mulR (h1 x)
  simp [runF, fn__law_mix, code__law_mix, Ss.run, S_.run, E.run, Es.run, R.bind, R.of, Op2.run, addD, i2, Bif.run, ioOk, isOwS, flat, Pt.run, Io.rep, outs, m1, m2, m3, m4, m5, mix, List.range, List.range.loop]
theorem mix_call (k : Nat) (a b : Int) : (C (k + 1)).call i__law_mix [.da (.int a), .da (.int b)] = .ok (.da (.int (mix a b))) [.da (.int a), .da (.int b)] := (C_call rfl).trans (mix_run _ a b)
/-- the law's draws -/
abbrev DR (rs : List Int) (ek ev : List D) (at_ s : Int) : Sl := .dk (.str [114, 111, 119] :: .str [97, 116] :: .str [115, 101, 101, 100] :: ek) (.lst (rs.map D.int) :: .int at_ :: .int s :: ev)
def pickV (rs : List Int) (i : Nat) (s many : Int) : Int := (if i < rs.length then rs.getD i 0 else mix s i) % many
theorem pickV_lt {rs : List Int} {i : Nat} {s many : Int} (h : 0 < many) : 0 ≤ pickV rs i s many ∧ pickV rs i s many < many := ⟨Int.emod_nonneg _ (by omega), Int.emod_lt_of_pos _ h⟩
theorem atI_nat' {α : Type} (l : List α) (i : Nat) (h : i < l.length) : atI l (i : Int) = some l[i] := by
  unfold atI ixN
  simp [h]
theorem isF_s (l : List Nat) : isF (.str l) = true := rfl
theorem isF_i (i : Int) : isF (.int i) = true := rfl
/-- further keys are few texts -/
structure Ek (ek : List D) : Prop where
  n : ek.length ≤ 10
  f : (ek.all isF) = true
theorem pick_run (k : Nat) (rs : List Int) {ek : List D} (ev : List D) (he : Ek ek) (i : Nat) (s many : Int) (h : 0 < many) : runF (C (k + 1)) fn__law_pick [DR rs ek ev i s, .da (.int many)] = .ok (.da (.int (pickV rs i s many))) [DR rs ek ev (i + 1 : Nat) s, .da (.int many)] := by
  have m := mix_call k s i
  have m : callN md (k + 1) i__law_mix [.da (.int s), .da (.int i)] = .ok (.da (.int (mix s i))) [.da (.int s), .da (.int i)] := m
  have hl : ek.length + 1 + 1 + 1 < 16777216 := by have := he.n; omega
  have hf := he.f
  by_cases hi : i < rs.length
  · have g : atI (rs.map D.int) (i : Int) = some (.int (rs.getD i 0)) := by
      rw [atI_nat' _ _ (by rw [List.length_map]; exact hi)]
      simp [hi]
    have hi2 : (i : Int) < (rs.length : Int) := by omega
    simp [fn__law_pick, code__law_pick, Modu.cn, Pt.run, isF_s, isF_i, runF, Ss.run, S_.run, E.run, Od.run, odP, Es.run, As.run, Mq.T.run, Ts.run, It.run, OE.run, M.run, Ps.run, R.bind, R.of, R.noEr, Op2.run, addD, i2, Bif.run, ioOk, isOwS, flat, Io.rep, Io.add, outs, List.range, List.range.loop, Pa.res, Pa.steps, getP, setP, getS, setS, view, Ar.vw, ixk, D.keq, dkOk, isT, putKs, putV, callR, aparts, refsOf, takeOut, allD, keepOw, putBack, Sl.frz, ordD, lenD, idxD, truD, small, setAll, itemsD, Mth.run, sliceD, Sl.asLs, -List.all_eq_true, m, g, hi, hi2, pickV, h, hl, hf]
  · have hi2 : ¬ (i : Int) < (rs.length : Int) := by omega
    simp [fn__law_pick, code__law_pick, Modu.cn, Pt.run, isF_s, isF_i, runF, Ss.run, S_.run, E.run, Od.run, odP, Es.run, As.run, Mq.T.run, Ts.run, It.run, OE.run, M.run, Ps.run, R.bind, R.of, R.noEr, Op2.run, addD, i2, Bif.run, ioOk, isOwS, flat, Io.rep, Io.add, outs, List.range, List.range.loop, Pa.res, Pa.steps, getP, setP, getS, setS, view, Ar.vw, ixk, D.keq, dkOk, isT, putKs, putV, callR, aparts, refsOf, takeOut, allD, keepOw, putBack, Sl.frz, ordD, lenD, idxD, truD, small, setAll, itemsD, Mth.run, sliceD, Sl.asLs, -List.all_eq_true, m, hi, hi2, pickV, h, hl, hf]
theorem pick_call (k : Nat) (rs : List Int) {ek : List D} (ev : List D) (he : Ek ek) (i : Nat) (s many : Int) (h : 0 < many) : (C (k + 2)).call i__law_pick [DR rs ek ev i s, .da (.int many)] = .ok (.da (.int (pickV rs i s many))) [DR rs ek ev (i + 1 : Nat) s, .da (.int many)] := (C_call rfl).trans (pick_run k rs ev he i s many h)
end K31
/-! Sheetwatch k31: the draws. -/
namespace K31
open Mq PySem L2
abbrev I0 : Io := { l := [] }
theorem mulL {a b : Int} (h : -(2 ^ 64) < a ∧ a < 2 ^ 64) : mulD (.int a) (.int b) = some (.int (a * b)) := by
  show (if (decide (-(2 ^ 64) < a) && decide (a < 2 ^ 64)) || (decide (-(2 ^ 64) < b) && decide (b < 2 ^ 64)) then some (D.int (a * b)) else none) = _
  rw [if_pos]
  rw [decide_eq_true h.1, decide_eq_true h.2, Bool.and_self, Bool.true_or]
theorem b1_loop (k : Nat) (A : D) (kk : Sl) : ∀ (items : List Int) (rs : List Int) (rest : Int) (j : Sl), ∃ (rs' : List Int) (rest' : Int) (j' : Sl),
    forRun I0 (.nm 5) (b1__law_stream.run (C k) I0) (items.map D.int) [.da A, .da (.int 200), (.ls (rs.map D.int)), kk, .da (.int rest), j] = .ok .nxt [.da A, .da (.int 200), (.ls (rs'.map D.int)), kk, .da (.int rest'), j']
  | [], rs, rest, j => ⟨rs, rest, j, rfl⟩
  | i :: is, rs, rest, j => by
    have hp : Pt.run I0 (.nm 5) (.int i) [.da A, .da (.int 200), (.ls (rs.map D.int)), kk, .da (.int rest), j] = .ok () [.da A, .da (.int 200), (.ls (rs.map D.int)), kk, .da (.int rest), .da (.int i)] := rfl
    by_cases h1 : 0 < rest
    · by_cases h2 : (rs.length : Int) < 200
      · have h3 : rs.length < 16777216 := by omega
        obtain ⟨rs', rest', j', e⟩ := b1_loop k A kk is (rs ++ [rest % 1000]) (rest / 1000) (.da (.int i))
        rw [List.map_append] at e
        refine ⟨rs', rest', j', Eq.trans ?_ e⟩
        rw [List.map_cons]
        conv => lhs; unfold forRun
        rw [hp]
        simp [b1__law_stream, runF, Ss.run, S_.run, E.run, Od.run, odP, Es.run, As.run, Mq.T.run, Ts.run, It.run, OE.run, M.run, Ps.run, R.bind, R.of, R.noEr, Op2.run, addD, i2, Bif.run, ioOk, isOwS, flat, Io.rep, Io.add, outs, List.range, List.range.loop, Pa.res, Pa.steps, getP, setP, getS, setS, view, Ar.vw, ixk, D.keq, dkOk, isF, isT, putKs, putV, callR, aparts, refsOf, takeOut, allD, Modu.cn, keepOw, putBack, Sl.frz, ordD, lenD, idxD, truD, small, setAll, itemsD, Mth.run, sliceD, Sl.asLs, Pt.run, h1, h2, h3]
      · obtain ⟨rs', rest', j', e⟩ := b1_loop k A kk is rs rest (.da (.int i))
        refine ⟨rs', rest', j', Eq.trans ?_ e⟩
        rw [List.map_cons]
        conv => lhs; unfold forRun
        rw [hp]
        simp [b1__law_stream, runF, Ss.run, S_.run, E.run, Od.run, odP, Es.run, As.run, Mq.T.run, Ts.run, It.run, OE.run, M.run, Ps.run, R.bind, R.of, R.noEr, Op2.run, addD, i2, Bif.run, ioOk, isOwS, flat, Io.rep, Io.add, outs, List.range, List.range.loop, Pa.res, Pa.steps, getP, setP, getS, setS, view, Ar.vw, ixk, D.keq, dkOk, isF, isT, putKs, putV, callR, aparts, refsOf, takeOut, allD, Modu.cn, keepOw, putBack, Sl.frz, ordD, lenD, idxD, truD, small, setAll, itemsD, Mth.run, sliceD, Sl.asLs, Pt.run, h1, h2]
    · obtain ⟨rs', rest', j', e⟩ := b1_loop k A kk is rs rest (.da (.int i))
      refine ⟨rs', rest', j', Eq.trans ?_ e⟩
      rw [List.map_cons]
      conv => lhs; unfold forRun
      rw [hp]
      simp [b1__law_stream, runF, Ss.run, S_.run, E.run, Od.run, odP, Es.run, As.run, Mq.T.run, Ts.run, It.run, OE.run, M.run, Ps.run, R.bind, R.of, R.noEr, Op2.run, addD, i2, Bif.run, ioOk, isOwS, flat, Io.rep, Io.add, outs, List.range, List.range.loop, Pa.res, Pa.steps, getP, setP, getS, setS, view, Ar.vw, ixk, D.keq, dkOk, isF, isT, putKs, putV, callR, aparts, refsOf, takeOut, allD, Modu.cn, keepOw, putBack, Sl.frz, ordD, lenD, idxD, truD, small, setAll, itemsD, Mth.run, sliceD, Sl.asLs, Pt.run, h1]
theorem b2_loop (k : Nat) (A : D) (kk rest : Int) : ∀ (items : List Int) (rs : List Int) (j : Sl), ∃ (rs' : List Int) (j' : Sl),
    forRun I0 (.nm 5) (b2__law_stream.run (C (k + 1)) I0) (items.map D.int) [.da A, .da (.int 200), (.ls (rs.map D.int)), .da (.int kk), .da (.int rest), j] = .ok .nxt [.da A, .da (.int 200), (.ls (rs'.map D.int)), .da (.int kk), .da (.int rest), j']
  | [], rs, j => ⟨rs, j, rfl⟩
  | i :: is, rs, j => by
    have hp : Pt.run I0 (.nm 5) (.int i) [.da A, .da (.int 200), (.ls (rs.map D.int)), .da (.int kk), .da (.int rest), j] = .ok () [.da A, .da (.int 200), (.ls (rs.map D.int)), .da (.int kk), .da (.int rest), .da (.int i)] := rfl
    by_cases h2 : (rs.length : Int) < 200
    · have h3 : rs.length < 16777216 := by omega
      obtain ⟨rs', j', e⟩ := b2_loop k A kk rest is (rs ++ [mix rest (64 * i + kk)]) (.da (.int i))
      rw [List.map_append] at e
      have m : callN md (k + 1) 0 [.da (.int rest), .da (.int (64 * i + kk))] = .ok (.da (.int (mix rest (64 * i + kk)))) [.da (.int rest), .da (.int (64 * i + kk))] := mix_call k rest (64 * i + kk)
      have mm : mulD (.int 64) (.int i) = some (.int (64 * i)) := by
        exact mulL (by decide)
      refine ⟨rs', j', Eq.trans ?_ e⟩
      rw [List.map_cons]
      conv => lhs; unfold forRun
      rw [hp]
      simp [b2__law_stream, runF, Ss.run, S_.run, E.run, Od.run, odP, Es.run, As.run, Mq.T.run, Ts.run, It.run, OE.run, M.run, Ps.run, R.bind, R.of, R.noEr, Op2.run, addD, i2, Bif.run, ioOk, isOwS, flat, Io.rep, Io.add, outs, List.range, List.range.loop, Pa.res, Pa.steps, getP, setP, getS, setS, view, Ar.vw, ixk, D.keq, dkOk, isF, isT, putKs, putV, callR, aparts, refsOf, takeOut, allD, Modu.cn, keepOw, putBack, Sl.frz, ordD, lenD, idxD, truD, small, setAll, itemsD, Mth.run, sliceD, Sl.asLs, Pt.run, h2, h3, m, mm]
    · obtain ⟨rs', j', e⟩ := b2_loop k A kk rest is rs (.da (.int i))
      refine ⟨rs', j', Eq.trans ?_ e⟩
      rw [List.map_cons]
      conv => lhs; unfold forRun
      rw [hp]
      simp [b2__law_stream, runF, Ss.run, S_.run, E.run, Od.run, odP, Es.run, As.run, Mq.T.run, Ts.run, It.run, OE.run, M.run, Ps.run, R.bind, R.of, R.noEr, Op2.run, addD, i2, Bif.run, ioOk, isOwS, flat, Io.rep, Io.add, outs, List.range, List.range.loop, Pa.res, Pa.steps, getP, setP, getS, setS, view, Ar.vw, ixk, D.keq, dkOk, isF, isT, putKs, putV, callR, aparts, refsOf, takeOut, allD, Modu.cn, keepOw, putBack, Sl.frz, ordD, lenD, idxD, truD, small, setAll, itemsD, Mth.run, sliceD, Sl.asLs, Pt.run, h2]
theorem b3_loop (k : Nat) (ns : List Int) : ∀ (items : List Nat) (rs : List Int) (s3 s4 s5 : Sl), (∀ i ∈ items, i < ns.length) → ∃ (rs' : List Int) (s3' s4' s5' : Sl),
    forRun I0 (.nm 3) (b3__law_stream.run (C (k + 1)) I0) (items.map fun i => D.int (i : Nat)) [.da (.fls (ns.map D.int)), .da (.int 200), (.ls (rs.map D.int)), s3, s4, s5] = .ok .nxt [.da (.fls (ns.map D.int)), .da (.int 200), (.ls (rs'.map D.int)), s3', s4', s5']
  | [], rs, s3, s4, s5, _ => ⟨rs, s3, s4, s5, rfl⟩
  | i :: is, rs, s3, s4, s5, hi => by
    have hp : Pt.run I0 (.nm 3) (.int (i : Nat)) [.da (.fls (ns.map D.int)), .da (.int 200), (.ls (rs.map D.int)), s3, s4, s5] = .ok () [.da (.fls (ns.map D.int)), .da (.int 200), (.ls (rs.map D.int)), .da (.int (i : Nat)), s4, s5] := rfl
    have hlt := hi i List.mem_cons_self
    have g : atI (ns.map D.int) (i : Int) = some (.int ns[i]) := by
      rw [atI_nat' _ _ (by rw [List.length_map]; exact hlt)]
      simp
    have body : ∃ (rs' : List Int) (r' : Int) (j' : Sl), b3__law_stream.run (C (k + 1)) I0 [.da (.fls (ns.map D.int)), .da (.int 200), (.ls (rs.map D.int)), .da (.int (i : Nat)), s4, s5] = .ok .nxt [.da (.fls (ns.map D.int)), .da (.int 200), (.ls (rs'.map D.int)), .da (.int (i : Nat)), .da (.int r'), j'] := by
      have r60 : rngD 0 60 = ((List.range 60).map fun (i : Nat) => (i : Int)).map D.int := by rfl
      have r3 : rngD 0 3 = ((List.range 3).map fun (i : Nat) => (i : Int)).map D.int := by rfl
      by_cases hb : (10 : Int) ^ 18 ≤ ns[i]
      · obtain ⟨rs', r', j', e⟩ := b1_loop (k + 1) (.fls (ns.map D.int)) (.da (.int (i : Nat))) ((List.range 60).map fun (i : Nat) => (i : Int)) rs ns[i] s5
        rw [← r60] at e
        refine ⟨rs', r', j', ?_⟩
        have hb' : (1000000000000000000 : Int) ≤ ns[i] := by simpa using hb
        simp [Modu.cn] at e
        simp [b3__law_stream, runF, Ss.run, S_.run, E.run, Od.run, odP, Es.run, As.run, Mq.T.run, Ts.run, It.run, OE.run, M.run, Ps.run, R.bind, R.of, R.noEr, Op2.run, addD, i2, Bif.run, ioOk, isOwS, flat, Io.rep, Io.add, outs, List.range, List.range.loop, Pa.res, Pa.steps, getP, setP, getS, setS, view, Ar.vw, ixk, D.keq, dkOk, isF, isT, putKs, putV, callR, aparts, refsOf, takeOut, allD, Modu.cn, keepOw, putBack, Sl.frz, ordD, lenD, idxD, truD, small, setAll, itemsD, Mth.run, sliceD, Sl.asLs, Pt.run, g, hb, hb', e]
      · obtain ⟨rs', j', e⟩ := b2_loop k (.fls (ns.map D.int)) (i : Nat) ns[i] ((List.range 3).map fun (i : Nat) => (i : Int)) rs s5
        rw [← r3] at e
        refine ⟨rs', ns[i], j', ?_⟩
        have hb' : ¬ (1000000000000000000 : Int) ≤ ns[i] := by simpa using hb
        simp [Modu.cn] at e
        simp [b3__law_stream, runF, Ss.run, S_.run, E.run, Od.run, odP, Es.run, As.run, Mq.T.run, Ts.run, It.run, OE.run, M.run, Ps.run, R.bind, R.of, R.noEr, Op2.run, addD, i2, Bif.run, ioOk, isOwS, flat, Io.rep, Io.add, outs, List.range, List.range.loop, Pa.res, Pa.steps, getP, setP, getS, setS, view, Ar.vw, ixk, D.keq, dkOk, isF, isT, putKs, putV, callR, aparts, refsOf, takeOut, allD, Modu.cn, keepOw, putBack, Sl.frz, ordD, lenD, idxD, truD, small, setAll, itemsD, Mth.run, sliceD, Sl.asLs, Pt.run, g, hb, hb', e]
    obtain ⟨rs1, r1, j1, eb⟩ := body
    obtain ⟨rs', s3', s4', s5', e⟩ := b3_loop k ns is rs1 (.da (.int (i : Nat))) (.da (.int r1)) j1 (fun x hx => hi x (List.mem_cons_of_mem _ hx))
    refine ⟨rs', s3', s4', s5', Eq.trans ?_ e⟩
    rw [List.map_cons]
    conv => lhs; unfold forRun
    rw [hp]
    show (b3__law_stream.run (C (k + 1)) I0 _).bind _ = _
    rw [eb]
    rfl
end K31
/-! Sheetwatch k31: the menus. -/
namespace K31
open Mq PySem L2
theorem stream_call (k : Nat) (ns : List Int) (hn : ns.length ≤ 63) : ∃ rs : List Int, (C (k + 2)).call i__law_stream [.da (.fls (ns.map D.int)), .da (.int 200)] = .ok (DR rs [] [] 0 rs.length) [.da (.fls (ns.map D.int)), .da (.int 200)] := by
  have hmin : (if (63 : Int) < (ns.length : Int) then (63 : Int) else (ns.length : Int)) = (ns.length : Int) := if_neg (by omega)
  have hr : rngD 0 (ns.length : Int) = (List.range ns.length).map fun i => D.int (i : Nat) := by
    unfold rngD
    rw [show ((ns.length : Int) - 0).toNat = ns.length by omega]
    refine List.map_congr_left fun i _ => ?_
    rw [Int.zero_add]
  obtain ⟨rs, s3, s4, s5, e⟩ := b3_loop k ns (List.range ns.length) [] .no .no .no (fun i hi => List.mem_range.mp hi)
  rw [← hr, List.map_nil] at e
  have hs : small (ns.length : Int) = true := by
    unfold small
    rw [decide_eq_true (by omega), decide_eq_true (by omega)]
    rfl
  refine ⟨rs, (C_call rfl).trans ?_⟩
  simp [Modu.cn] at e
  simp [fn__law_stream, code__law_stream, runF, Ss.run, S_.run, E.run, Od.run, odP, Es.run, As.run, Mq.T.run, Ts.run, It.run, OE.run, M.run, Ps.run, R.bind, R.of, R.noEr, Op2.run, addD, i2, Bif.run, ioOk, isOwS, flat, Io.rep, Io.add, outs, List.range, List.range.loop, Pa.res, Pa.steps, getP, setP, getS, setS, view, Ar.vw, ixk, D.keq, dkOk, isF, isT, putKs, putV, callR, aparts, refsOf, takeOut, allD, Modu.cn, keepOw, putBack, Sl.frz, ordD, lenD, idxD, truD, setAll, itemsD, Mth.run, sliceD, Sl.asLs, hmin, hs, e]
theorem eqI (a b : Int) : eqD (.int a) (.int b) = some (decide (a = b)) := rfl
def ok1 (a : List Nat) : Bool := a.all (fun c => decide (c < 1114112))
theorem shpS {a : List Nat} (h : ok1 a = true) : shp (.str a) = true := by
  have h1 := List.all_eq_true.mp h
  simp [shp, D.py, SeqAt.shaped, PyData.canLay0, PyData.depth, PyData.strOk, SX.S]
  intro x hx
  exact of_decide_eq_true (h1 x hx)
theorem eqS {a b : List Nat} (ha : ok1 a = true) (hb : ok1 b = true) : eqD (.str a) (.str b) = some (decide (a = b)) := by
  unfold eqD
  rw [shpS ha, shpS hb, Bool.and_self, if_pos rfl]
  show some (SX.S a == SX.S b) = _
  by_cases h : a = b
  · rw [decide_eq_true h, h, beq_self_eq_true]
  · rw [decide_eq_false h, beq_eq_false_iff_ne.mpr fun z => h (SX.S_inj z)]
theorem pick_any (k : Nat) (rs : List Int) {ek : List D} (ev : List D) (he : Ek ek) {i : Int} (s : Int) {many : Int} (hi : 0 ≤ i) (h : 0 < many) : ∃ r j : Int, 0 ≤ r ∧ r < many ∧ 0 ≤ j ∧ (C (k + 2)).call i__law_pick [DR rs ek ev i s, .da (.int many)] = .ok (.da (.int r)) [DR rs ek ev j s, .da (.int many)] := by
  obtain ⟨n, rfl⟩ : ∃ n : Nat, i = n := ⟨i.toNat, by omega⟩
  exact ⟨_, ((n + 1 : Nat) : Int), (pickV_lt h).1, (pickV_lt h).2, by omega, pick_call k rs ev he n s many h⟩
theorem menu (ws : List (List Nat)) {r : Int} (h0 : 0 ≤ r) (h1 : r < ws.length) : ∃ w ∈ ws, atI (ws.map D.str) r = some (.str w) := by
  obtain ⟨i, rfl⟩ : ∃ i : Nat, r = i := ⟨r.toNat, by omega⟩
  have hi : i < ws.length := by omega
  refine ⟨ws[i], List.getElem_mem hi, ?_⟩
  rw [atI_nat' _ _ (by rw [List.length_map]; exact hi)]
  simp
end K31
/-! Sheetwatch k31: helpers. -/
namespace K31
open Mq PySem L2
theorem eqvS (a b : List Nat) : PyData.eqv (D.str a).py (D.str b).py = decide (a = b) := by
  show (SX.S a == SX.S b) = _
  by_cases h : a = b
  · rw [decide_eq_true h, h, beq_self_eq_true]
  · rw [decide_eq_false h, beq_eq_false_iff_ne.mpr fun z => h (SX.S_inj z)]
theorem inS (a : List Nat) : ∀ l : List (List Nat), inD (.str a) (l.map D.str) = decide (a ∈ l)
  | [] => rfl
  | b :: l => by
    show (PyData.eqv (D.str b).py (D.str a).py || inD (.str a) (l.map D.str)) = _
    rw [eqvS, inS a l]
    by_cases h : a = b
    · simp [h]
    · simp [h, show ¬ b = a from fun z => h z.symm]
theorem memT (a : List Nat) (l : List (List Nat)) : memD (.str a) (.tup (l.map D.str)) = some (decide (a ∈ l)) := by
  show (if (flat (.str a) && (l.map D.str).all flat) = true then some (inD (.str a) (l.map D.str)) else none) = _
  rw [if_pos, inS]
  show (l.map D.str).all flat = true
  simp [flat]
theorem lc_many {io : Io} {p : Mq.Pt} {own : List Nat} {t : En → R Bool} {e : En → R D} {St : Int → En} {S1 : Int → D → En} (hp : ∀ i d, Mq.Pt.run io p d (St i) = .ok () (S1 i d)) (ht : ∀ i d, t (S1 i d) = .ok true (S1 i d)) {α : Type} {g : α → D} {P : α → Prop}
    (he : ∀ i d, 0 ≤ i → ∃ x j, 0 ≤ j ∧ P x ∧ e (S1 i d) = .ok (g x) (S1 j d)) (hw : ∀ i d, wipeE (S1 i d) own = St i) : ∀ (l : List D) (i : Int) (acc : List D), 0 ≤ i → acc.length + l.length ≤ 1000 →
    ∃ (xs : List α) (j : Int), 0 ≤ j ∧ xs.length = l.length ∧ (∀ x ∈ xs, P x) ∧ lcRun io p t e own l (St i) acc = .ok (acc ++ xs.map g) (St j)
  | [], i, acc, hi, _ => ⟨[], i, hi, rfl, by simp, by rw [List.map_nil, List.append_nil]; rfl⟩
  | d :: l, i, acc, hi, hl => by
    obtain ⟨x, j, hj, hx, e1⟩ := he i d hi
    obtain ⟨xs, j', hj', h1, h2, h3⟩ := lc_many hp ht he hw l j (acc ++ [g x]) hj (by simp at hl ⊢; omega)
    refine ⟨x :: xs, j', hj', by simp [h1], fun y hy => ?_, ?_⟩
    · rcases List.mem_cons.mp hy with z | z
      · rw [z]; exact hx
      · exact h2 y z
    · unfold lcRun
      simp only [hp, R.bind, ht, R.noEr, if_true, e1]
      rw [if_pos (show acc.length < 16777216 by simp at hl; omega), hw, h3]
      simp
theorem lc_run {c : Cn} {io : Io} {own : List Nat} {p : Mq.Pt} {it : Mq.It} {t : Ts} {e : E} {ε ε1 ε2 : En} {ds ys : List D} (h1 : Mq.It.run c io it ε = .ok (ds, none) ε1) (h2 : ownOk ε1 own = true ∧ (p.js.all fun j => own.contains j) = true ∧ (own.all fun j => io.rep j) = true)
    (h3 : lcRun io p (Ts.run c io t) (E.run c io e) own ds (wipeE ε1 own) [] = .ok ys ε2) : M.run c io (.lc own p it t e) ε = .ok (.ls ys) (backE ε1 ε2 own) := by
  unfold M.run
  rw [h1]
  simp only [R.bind]
  rw [if_pos h2]
  have e1 : ({ l := io.l, fz := io.fz || (none : Option RP).isSome } : Io) = io := by
    obtain ⟨l, f⟩ := io
    cases f <;> rfl
  rw [e1, h3]
  rfl
theorem menuG {α : Type} (g : α → D) (ws : List α) {r : Int} (h0 : 0 ≤ r) (h1 : r < ws.length) : ∃ w ∈ ws, atI (ws.map g) r = some (g w) := by
  obtain ⟨i, rfl⟩ : ∃ i : Nat, r = i := ⟨r.toNat, by omega⟩
  have hi : i < ws.length := by omega
  refine ⟨ws[i], List.getElem_mem hi, ?_⟩
  rw [atI_nat' _ _ (by rw [List.length_map]; exact hi)]
  simp
theorem tup_lst (ds : List D) : Bif.run .tuple [.lst ds] = some (.tup ds) := rfl
theorem small_of {r : Int} (h0 : 0 ≤ r) (h1 : r < 1000) : small r = true := by
  unfold small
  rw [decide_eq_true (by omega), decide_eq_true (by omega)]
  rfl
theorem rng_len {r : Int} (h0 : 0 ≤ r) : (rngD 0 r).length = r.toNat := by unfold rngD; simp
theorem addS {a b : List Nat} (h : a.length + b.length ≤ 16777216) : addD (.str a) (.str b) = some (.str (a ++ b)) := if_pos h
theorem addL {a b : List D} (h : a.length + b.length ≤ 16777216) : addD (.lst a) (.lst b) = some (.lst (a ++ b)) := if_pos h
theorem addT {a b : List D} (h : a.length + b.length ≤ 16777216) : addD (.tup a) (.tup b) = some (.tup (a ++ b)) := if_pos h
theorem lc_map {io : Io} {p : Mq.Pt} {own : List Nat} {t : En → R Bool} {e : En → R D} {ε : En} {S1 : D → En} (hp : ∀ d, Mq.Pt.run io p d ε = .ok () (S1 d)) (ht : ∀ d, t (S1 d) = .ok true (S1 d)) {α : Type} {f g : α → D}
    (hw : ∀ d, wipeE (S1 d) own = ε) : ∀ (xs : List α) (acc : List D), (∀ x ∈ xs, e (S1 (f x)) = .ok (g x) (S1 (f x))) → acc.length + xs.length ≤ 1000 → lcRun io p t e own (xs.map f) ε acc = .ok (acc ++ xs.map g) ε
  | [], acc, _, _ => by rw [List.map_nil, List.map_nil, List.append_nil]; rfl
  | x :: xs, acc, he, hl => by
    rw [List.map_cons]
    unfold lcRun
    simp only [hp, R.bind, ht, R.noEr, if_true, he x List.mem_cons_self]
    rw [if_pos (show acc.length < 16777216 by simp at hl; omega), hw, lc_map hp ht hw xs (acc ++ [g x]) (fun y hy => he y (List.mem_cons_of_mem _ hy)) (by simp at hl ⊢; omega)]
    simp
abbrev I1 : Io := { l := [0] }
theorem ok1_c (c : Nat) (r : List Nat) : ok1 (c :: r) = (decide (c < 1114112) && ok1 r) := rfl
theorem ok1_n : ok1 [] = true := rfl
theorem memT2 (w a b : List Nat) : memD (.str w) (.tup [.str a, .str b]) = some (decide (w = a ∨ w = b)) := by
  rw [show ([.str a, .str b] : List D) = [a, b].map D.str from rfl, memT]; simp
theorem memT6 (w a b c d e f : List Nat) : memD (.str w) (.tup [.str a, .str b, .str c, .str d, .str e, .str f]) = some (decide (w = a ∨ w = b ∨ w = c ∨ w = d ∨ w = e ∨ w = f)) := by
  rw [show ([.str a, .str b, .str c, .str d, .str e, .str f] : List D) = [a, b, c, d, e, f].map D.str from rfl, memT]; simp
theorem memL (a : List Nat) (l : List (List Nat)) : memD (.str a) (.lst (l.map D.str)) = some (decide (a ∈ l)) := by
  show (if (flat (.str a) && (l.map D.str).all flat) = true then some (inD (.str a) (l.map D.str)) else if _ then _ else none) = _
  rw [if_pos, inS]
  show (l.map D.str).all flat = true
  simp [flat]
end K31
/-! Sheetwatch k31: lines read, by evaluation. -/
namespace K31
open Mq PySem
abbrev W := List Nat
def EVk : List W := [[103, 111], [112], [113]]
def EVv : List D := [.tup [], .tup [.str [110, 117, 109, 98, 101, 114]], .tup [.str [110, 117, 109, 98, 101, 114], .str [119, 111, 114, 100]]]
def EV : D := .dct (EVk.map .str) EVv
/-- BadLine -/
def isEr : Cr → Bool
  | .er x _ => x.c == 0 && x.fs.isEmpty
  | _ => false
/-- a point of the time t -/
def isPt (t : Int) : Cr → Bool
  | .ok (.da (.tup [.int t', .tup _])) _ => decide (t' = t)
  | _ => false
def RW : List W := [[], [32, 103, 111, 40, 41], [32, 112, 40, 51, 41, 32, 112, 40, 45, 52, 41], [32, 113, 40, 48, 44, 34, 97, 32, 98, 34, 41], [32, 112, 40, 32, 49, 50, 32, 41, 103, 111, 32, 40, 32, 41], [32, 113, 32, 40, 32, 45, 49, 32, 44, 32, 34, 34, 41, 32], [32, 32, 32]]
def gd (t : Int) (w : W) : W := 64 :: strI t ++ w
def rows0 : List W := [[], [32], [49, 50], [103, 111, 40, 41], [64], [64, 32, 49, 50], [64, 120], [64, 48, 49, 50], [64, 45, 49], [64, 49, 97], [64, 49, 48, 48, 48, 48, 48, 48, 48, 48, 48, 48, 48, 49], [64, 53, 44], [64, 53, 32, 112], [64, 53, 32, 112, 40], [64, 53, 32, 112, 40, 41], [64, 53, 32, 112, 40, 49], [64, 53, 32, 112, 32, 49], [64, 53, 32, 112, 40, 49, 44, 41], [64, 53, 32, 112, 40, 44, 49, 41], [64, 53, 32, 112, 40, 49, 44, 50, 41], [64, 53, 32, 112, 40, 49, 41, 41], [64, 53, 32, 112, 40, 40, 49, 41], [64, 53, 32, 112, 40, 34, 49, 34, 41], [64, 53, 32, 112, 40, 120, 41], [64, 53, 32, 112, 40, 48, 49, 41], [64, 53, 32, 112, 40, 45, 48, 41], [64, 53, 32, 112, 40, 45, 45, 49, 41], [64, 53, 32, 112, 40, 45, 32, 49, 41], [64, 53, 32, 112, 40, 43, 49, 41], [64, 53, 32, 112, 40, 49, 32, 50, 41], [64, 53, 32, 112, 40, 49, 48, 48, 48, 48, 48, 48, 48, 48, 48, 48, 48, 49, 41], [64, 53, 32, 112, 40, 45, 49, 48, 48, 48, 48, 48, 48, 48, 48, 48, 48, 48, 49, 41], [64, 53, 32, 112, 40, 45, 48, 49, 41], [64, 53, 32, 114, 40, 49, 41], [64, 53, 32, 80, 40, 49, 41], [64, 53, 32, 112, 112, 40, 49, 41], [64, 53, 32, 112, 40, 49, 41, 44], [64, 53, 32, 112, 40, 49, 41, 46, 112, 40, 50, 41], [64, 53, 32, 103, 111, 40, 49, 41], [64, 53, 32, 103, 111, 40, 34, 34, 41], [64, 53, 32, 103, 111], [64, 53, 32, 103, 111, 41], [64, 53, 32, 113, 40, 49, 41], [64, 53, 32, 113, 40, 34, 97, 34, 44, 49, 41], [64, 53, 32, 113, 40, 49, 44, 34, 97, 34, 44, 34, 98, 34, 41], [64, 53, 32, 113, 40, 49, 44, 97, 41], [64, 53, 32, 113, 40, 49, 44, 34, 97, 41], [64, 53, 32, 113, 40, 49, 44, 97, 34, 41], [64, 53, 32, 113, 40, 49, 32, 34, 97, 34, 41], [64, 53, 32, 113, 40, 49, 44, 34, 97, 34, 98, 41], [64, 53, 32, 113, 40, 49, 44, 34, 97, 9, 98, 34, 41], [64, 53, 32, 113, 40, 49, 44, 34, 97, 97, 97, 97, 97, 97, 97, 97, 97, 97, 97, 97, 97, 97, 97, 97, 97, 97, 97, 97, 97, 97, 97, 97, 97, 97, 97, 97, 97, 97, 97, 97, 97, 97, 97, 97, 97, 97, 97, 97, 97, 34, 41], [64, 53, 32, 113, 40, 49, 44, 50, 41], [64, 53, 9, 103, 111, 40, 41], [64, 53, 32, 64, 54], [64, 64, 53], [64, 53, 32, 53], [64, 53, 32, 35, 32, 120], [64, 53, 32, 112, 40, 49, 101, 51, 41]]
def sg (c : Nat) : List W := [[64, 53, c, 103, 111, 40, 41], [64, 53, 32, 112, 40, 49, c, 41], [64, 53, 32, 113, 40, 49, 44, 39, 97, c, 39, 41]]
def rows1 : List W := [[64, 53, 32, 113, 40, 49, 44, 34, 97, 92, 98, 34, 41], [64, 53, 32, 113, 40, 49, 44, 34, 92, 34, 41]]
def BAD : List W := rows0 ++ sg 92 ++ sg 63 ++ sg 47 ++ sg 96 ++ sg 39 ++ rows1
/-- what _law_told tells of a bad line -/
def isBad : Cr → Bool
  | .ok (.da (.tup [.str s, .bl b])) _ => decide (s = [98, 97, 100]) && b
  | _ => false
/-- .. of a good one -/
def isGood : Cr → Bool
  | .ok (.da (.tup [.str s, .tup _])) _ => decide (s = [112, 111, 105, 110, 116])
  | _ => false
/-- a point of the time t that may be compared -/
def isPt2 (t : Int) : Cr → Bool
  | .ok (.da (.tup [.int t', .tup l])) _ => decide (t' = t) && shp (.tup [.int t', .tup l]) && decide ((D.tup [.int t', .tup l]).py.depth ≤ 9)
  | _ => false
theorem badL : (BAD.all fun l => !l.contains 10 && decide (l.length ≤ 60)) = true := by decide +kernel
theorem rwL : (RW.all fun l => !l.contains 10 && decide (l.length ≤ 60)) = true := by decide +kernel
theorem tmL : ((List.range 70).all fun t => !(strI t).contains 10 && decide ((strI t).length ≤ 4) && decide ((t : Int).natAbs.log2 < 1920)) = true := by decide +kernel
end K31
/-! Sheetwatch k31: lines read, by evaluation, 1. -/
namespace K31
open Mq PySem
theorem told_bad : (BAD.all fun l => isBad (callN md 60 19 [.da (.str l)])) = true := by decide +kernel
theorem line_bad : (BAD.all fun l => isEr (callN md 58 17 [.da (.str l), .da EV])) = true := by decide +kernel
end K31
/-! Sheetwatch k31: lines read, by evaluation, 2. -/
namespace K31
open Mq PySem
theorem g0 : (RW.all fun w => isGood (callN md 60 19 [.da (.str (gd (0 : Nat) w))])) = true := by decide +kernel
theorem g1 : (RW.all fun w => isGood (callN md 60 19 [.da (.str (gd (1 : Nat) w))])) = true := by decide +kernel
theorem g2 : (RW.all fun w => isGood (callN md 60 19 [.da (.str (gd (2 : Nat) w))])) = true := by decide +kernel
theorem g3 : (RW.all fun w => isGood (callN md 60 19 [.da (.str (gd (3 : Nat) w))])) = true := by decide +kernel
theorem g4 : (RW.all fun w => isGood (callN md 60 19 [.da (.str (gd (4 : Nat) w))])) = true := by decide +kernel
theorem g5 : (RW.all fun w => isGood (callN md 60 19 [.da (.str (gd (5 : Nat) w))])) = true := by decide +kernel
theorem g6 : (RW.all fun w => isGood (callN md 60 19 [.da (.str (gd (6 : Nat) w))])) = true := by decide +kernel
theorem g7 : (RW.all fun w => isGood (callN md 60 19 [.da (.str (gd (7 : Nat) w))])) = true := by decide +kernel
theorem g8 : (RW.all fun w => isGood (callN md 60 19 [.da (.str (gd (8 : Nat) w))])) = true := by decide +kernel
theorem g9 : (RW.all fun w => isGood (callN md 60 19 [.da (.str (gd (9 : Nat) w))])) = true := by decide +kernel
theorem g10 : (RW.all fun w => isGood (callN md 60 19 [.da (.str (gd (10 : Nat) w))])) = true := by decide +kernel
theorem g11 : (RW.all fun w => isGood (callN md 60 19 [.da (.str (gd (11 : Nat) w))])) = true := by decide +kernel
theorem g12 : (RW.all fun w => isGood (callN md 60 19 [.da (.str (gd (12 : Nat) w))])) = true := by decide +kernel
theorem g13 : (RW.all fun w => isGood (callN md 60 19 [.da (.str (gd (13 : Nat) w))])) = true := by decide +kernel
theorem g14 : (RW.all fun w => isGood (callN md 60 19 [.da (.str (gd (14 : Nat) w))])) = true := by decide +kernel
theorem g15 : (RW.all fun w => isGood (callN md 60 19 [.da (.str (gd (15 : Nat) w))])) = true := by decide +kernel
theorem g16 : (RW.all fun w => isGood (callN md 60 19 [.da (.str (gd (16 : Nat) w))])) = true := by decide +kernel
theorem g17 : (RW.all fun w => isGood (callN md 60 19 [.da (.str (gd (17 : Nat) w))])) = true := by decide +kernel
theorem g18 : (RW.all fun w => isGood (callN md 60 19 [.da (.str (gd (18 : Nat) w))])) = true := by decide +kernel
theorem g19 : (RW.all fun w => isGood (callN md 60 19 [.da (.str (gd (19 : Nat) w))])) = true := by decide +kernel
theorem g20 : (RW.all fun w => isGood (callN md 60 19 [.da (.str (gd (20 : Nat) w))])) = true := by decide +kernel
theorem g21 : (RW.all fun w => isGood (callN md 60 19 [.da (.str (gd (21 : Nat) w))])) = true := by decide +kernel
theorem g22 : (RW.all fun w => isGood (callN md 60 19 [.da (.str (gd (22 : Nat) w))])) = true := by decide +kernel
theorem g23 : (RW.all fun w => isGood (callN md 60 19 [.da (.str (gd (23 : Nat) w))])) = true := by decide +kernel
theorem g24 : (RW.all fun w => isGood (callN md 60 19 [.da (.str (gd (24 : Nat) w))])) = true := by decide +kernel
theorem g25 : (RW.all fun w => isGood (callN md 60 19 [.da (.str (gd (25 : Nat) w))])) = true := by decide +kernel
theorem g26 : (RW.all fun w => isGood (callN md 60 19 [.da (.str (gd (26 : Nat) w))])) = true := by decide +kernel
theorem g27 : (RW.all fun w => isGood (callN md 60 19 [.da (.str (gd (27 : Nat) w))])) = true := by decide +kernel
theorem g28 : (RW.all fun w => isGood (callN md 60 19 [.da (.str (gd (28 : Nat) w))])) = true := by decide +kernel
theorem g29 : (RW.all fun w => isGood (callN md 60 19 [.da (.str (gd (29 : Nat) w))])) = true := by decide +kernel
theorem g30 : (RW.all fun w => isGood (callN md 60 19 [.da (.str (gd (30 : Nat) w))])) = true := by decide +kernel
theorem g31 : (RW.all fun w => isGood (callN md 60 19 [.da (.str (gd (31 : Nat) w))])) = true := by decide +kernel
theorem g32 : (RW.all fun w => isGood (callN md 60 19 [.da (.str (gd (32 : Nat) w))])) = true := by decide +kernel
theorem g33 : (RW.all fun w => isGood (callN md 60 19 [.da (.str (gd (33 : Nat) w))])) = true := by decide +kernel
theorem g34 : (RW.all fun w => isGood (callN md 60 19 [.da (.str (gd (34 : Nat) w))])) = true := by decide +kernel
theorem g35 : (RW.all fun w => isGood (callN md 60 19 [.da (.str (gd (35 : Nat) w))])) = true := by decide +kernel
theorem g36 : (RW.all fun w => isGood (callN md 60 19 [.da (.str (gd (36 : Nat) w))])) = true := by decide +kernel
theorem g37 : (RW.all fun w => isGood (callN md 60 19 [.da (.str (gd (37 : Nat) w))])) = true := by decide +kernel
theorem g38 : (RW.all fun w => isGood (callN md 60 19 [.da (.str (gd (38 : Nat) w))])) = true := by decide +kernel
theorem g39 : (RW.all fun w => isGood (callN md 60 19 [.da (.str (gd (39 : Nat) w))])) = true := by decide +kernel
theorem told_good : ∀ t : Nat, t < 40 → (RW.all fun w => isGood (callN md 60 19 [.da (.str (gd t w))])) = true
  | 0, _ => g0
  | 1, _ => g1
  | 2, _ => g2
  | 3, _ => g3
  | 4, _ => g4
  | 5, _ => g5
  | 6, _ => g6
  | 7, _ => g7
  | 8, _ => g8
  | 9, _ => g9
  | 10, _ => g10
  | 11, _ => g11
  | 12, _ => g12
  | 13, _ => g13
  | 14, _ => g14
  | 15, _ => g15
  | 16, _ => g16
  | 17, _ => g17
  | 18, _ => g18
  | 19, _ => g19
  | 20, _ => g20
  | 21, _ => g21
  | 22, _ => g22
  | 23, _ => g23
  | 24, _ => g24
  | 25, _ => g25
  | 26, _ => g26
  | 27, _ => g27
  | 28, _ => g28
  | 29, _ => g29
  | 30, _ => g30
  | 31, _ => g31
  | 32, _ => g32
  | 33, _ => g33
  | 34, _ => g34
  | 35, _ => g35
  | 36, _ => g36
  | 37, _ => g37
  | 38, _ => g38
  | 39, _ => g39
  | n + 40, h => absurd h (by omega)
end K31
/-! Sheetwatch k31: lines read, by evaluation, 3. -/
namespace K31
open Mq PySem
/-- the rows but the third -/
def RW6 : List W := RW.eraseIdx 2
def R2 : W := RW.getD 2 []
def P2 (t : Int) : D := .tup [.int t, .tup [.tup [.str [112], .tup (skSort [.tup [.int 3], .tup [.int (-4)]] [.tup [.tup [.int 0, .int 3]], .tup [.tup [.int 0, .int (-4)]]])]]]
theorem h49 : (RW6.all fun w => isPt2 (49 : Nat) (callN md 58 17 [.da (.str (gd (49 : Nat) w)), .da EV])) = true := by decide +kernel
theorem k49 : callN md 58 17 [.da (.str (gd (49 : Nat) R2)), .da EV] = .ok (.da (P2 (49 : Nat))) [.da (.str (gd (49 : Nat) R2)), .da EV] := by kernel_rfl
theorem h50 : (RW6.all fun w => isPt2 (50 : Nat) (callN md 58 17 [.da (.str (gd (50 : Nat) w)), .da EV])) = true := by decide +kernel
theorem k50 : callN md 58 17 [.da (.str (gd (50 : Nat) R2)), .da EV] = .ok (.da (P2 (50 : Nat))) [.da (.str (gd (50 : Nat) R2)), .da EV] := by kernel_rfl
theorem h51 : (RW6.all fun w => isPt2 (51 : Nat) (callN md 58 17 [.da (.str (gd (51 : Nat) w)), .da EV])) = true := by decide +kernel
theorem k51 : callN md 58 17 [.da (.str (gd (51 : Nat) R2)), .da EV] = .ok (.da (P2 (51 : Nat))) [.da (.str (gd (51 : Nat) R2)), .da EV] := by kernel_rfl
theorem h52 : (RW6.all fun w => isPt2 (52 : Nat) (callN md 58 17 [.da (.str (gd (52 : Nat) w)), .da EV])) = true := by decide +kernel
theorem k52 : callN md 58 17 [.da (.str (gd (52 : Nat) R2)), .da EV] = .ok (.da (P2 (52 : Nat))) [.da (.str (gd (52 : Nat) R2)), .da EV] := by kernel_rfl
theorem h53 : (RW6.all fun w => isPt2 (53 : Nat) (callN md 58 17 [.da (.str (gd (53 : Nat) w)), .da EV])) = true := by decide +kernel
theorem k53 : callN md 58 17 [.da (.str (gd (53 : Nat) R2)), .da EV] = .ok (.da (P2 (53 : Nat))) [.da (.str (gd (53 : Nat) R2)), .da EV] := by kernel_rfl
theorem h54 : (RW6.all fun w => isPt2 (54 : Nat) (callN md 58 17 [.da (.str (gd (54 : Nat) w)), .da EV])) = true := by decide +kernel
theorem k54 : callN md 58 17 [.da (.str (gd (54 : Nat) R2)), .da EV] = .ok (.da (P2 (54 : Nat))) [.da (.str (gd (54 : Nat) R2)), .da EV] := by kernel_rfl
theorem h55 : (RW6.all fun w => isPt2 (55 : Nat) (callN md 58 17 [.da (.str (gd (55 : Nat) w)), .da EV])) = true := by decide +kernel
theorem k55 : callN md 58 17 [.da (.str (gd (55 : Nat) R2)), .da EV] = .ok (.da (P2 (55 : Nat))) [.da (.str (gd (55 : Nat) R2)), .da EV] := by kernel_rfl
theorem h56 : (RW6.all fun w => isPt2 (56 : Nat) (callN md 58 17 [.da (.str (gd (56 : Nat) w)), .da EV])) = true := by decide +kernel
theorem k56 : callN md 58 17 [.da (.str (gd (56 : Nat) R2)), .da EV] = .ok (.da (P2 (56 : Nat))) [.da (.str (gd (56 : Nat) R2)), .da EV] := by kernel_rfl
theorem h57 : (RW6.all fun w => isPt2 (57 : Nat) (callN md 58 17 [.da (.str (gd (57 : Nat) w)), .da EV])) = true := by decide +kernel
theorem k57 : callN md 58 17 [.da (.str (gd (57 : Nat) R2)), .da EV] = .ok (.da (P2 (57 : Nat))) [.da (.str (gd (57 : Nat) R2)), .da EV] := by kernel_rfl
theorem h58 : (RW6.all fun w => isPt2 (58 : Nat) (callN md 58 17 [.da (.str (gd (58 : Nat) w)), .da EV])) = true := by decide +kernel
theorem k58 : callN md 58 17 [.da (.str (gd (58 : Nat) R2)), .da EV] = .ok (.da (P2 (58 : Nat))) [.da (.str (gd (58 : Nat) R2)), .da EV] := by kernel_rfl
theorem h59 : (RW6.all fun w => isPt2 (59 : Nat) (callN md 58 17 [.da (.str (gd (59 : Nat) w)), .da EV])) = true := by decide +kernel
theorem k59 : callN md 58 17 [.da (.str (gd (59 : Nat) R2)), .da EV] = .ok (.da (P2 (59 : Nat))) [.da (.str (gd (59 : Nat) R2)), .da EV] := by kernel_rfl
theorem h60 : (RW6.all fun w => isPt2 (60 : Nat) (callN md 58 17 [.da (.str (gd (60 : Nat) w)), .da EV])) = true := by decide +kernel
theorem k60 : callN md 58 17 [.da (.str (gd (60 : Nat) R2)), .da EV] = .ok (.da (P2 (60 : Nat))) [.da (.str (gd (60 : Nat) R2)), .da EV] := by kernel_rfl
theorem h61 : (RW6.all fun w => isPt2 (61 : Nat) (callN md 58 17 [.da (.str (gd (61 : Nat) w)), .da EV])) = true := by decide +kernel
theorem k61 : callN md 58 17 [.da (.str (gd (61 : Nat) R2)), .da EV] = .ok (.da (P2 (61 : Nat))) [.da (.str (gd (61 : Nat) R2)), .da EV] := by kernel_rfl
theorem h62 : (RW6.all fun w => isPt2 (62 : Nat) (callN md 58 17 [.da (.str (gd (62 : Nat) w)), .da EV])) = true := by decide +kernel
theorem k62 : callN md 58 17 [.da (.str (gd (62 : Nat) R2)), .da EV] = .ok (.da (P2 (62 : Nat))) [.da (.str (gd (62 : Nat) R2)), .da EV] := by kernel_rfl
theorem h63 : (RW6.all fun w => isPt2 (63 : Nat) (callN md 58 17 [.da (.str (gd (63 : Nat) w)), .da EV])) = true := by decide +kernel
theorem k63 : callN md 58 17 [.da (.str (gd (63 : Nat) R2)), .da EV] = .ok (.da (P2 (63 : Nat))) [.da (.str (gd (63 : Nat) R2)), .da EV] := by kernel_rfl
theorem h64 : (RW6.all fun w => isPt2 (64 : Nat) (callN md 58 17 [.da (.str (gd (64 : Nat) w)), .da EV])) = true := by decide +kernel
theorem k64 : callN md 58 17 [.da (.str (gd (64 : Nat) R2)), .da EV] = .ok (.da (P2 (64 : Nat))) [.da (.str (gd (64 : Nat) R2)), .da EV] := by kernel_rfl
theorem h65 : (RW6.all fun w => isPt2 (65 : Nat) (callN md 58 17 [.da (.str (gd (65 : Nat) w)), .da EV])) = true := by decide +kernel
theorem k65 : callN md 58 17 [.da (.str (gd (65 : Nat) R2)), .da EV] = .ok (.da (P2 (65 : Nat))) [.da (.str (gd (65 : Nat) R2)), .da EV] := by kernel_rfl
theorem h66 : (RW6.all fun w => isPt2 (66 : Nat) (callN md 58 17 [.da (.str (gd (66 : Nat) w)), .da EV])) = true := by decide +kernel
theorem k66 : callN md 58 17 [.da (.str (gd (66 : Nat) R2)), .da EV] = .ok (.da (P2 (66 : Nat))) [.da (.str (gd (66 : Nat) R2)), .da EV] := by kernel_rfl
theorem line_good : ∀ t : Nat, t < 18 → (RW6.all fun w => isPt2 (t + 49 : Nat) (callN md 58 17 [.da (.str (gd (t + 49 : Nat) w)), .da EV])) = true
  | 0, _ => h49
  | 1, _ => h50
  | 2, _ => h51
  | 3, _ => h52
  | 4, _ => h53
  | 5, _ => h54
  | 6, _ => h55
  | 7, _ => h56
  | 8, _ => h57
  | 9, _ => h58
  | 10, _ => h59
  | 11, _ => h60
  | 12, _ => h61
  | 13, _ => h62
  | 14, _ => h63
  | 15, _ => h64
  | 16, _ => h65
  | 17, _ => h66
  | n + 18, h => absurd h (by omega)
theorem line_two : ∀ t : Nat, t < 18 → callN md 58 17 [.da (.str (gd (t + 49 : Nat) R2)), .da EV] = .ok (.da (P2 (t + 49 : Nat))) [.da (.str (gd (t + 49 : Nat) R2)), .da EV]
  | 0, _ => k49
  | 1, _ => k50
  | 2, _ => k51
  | 3, _ => k52
  | 4, _ => k53
  | 5, _ => k54
  | 6, _ => k55
  | 7, _ => k56
  | 8, _ => k57
  | 9, _ => k58
  | 10, _ => k59
  | 11, _ => k60
  | 12, _ => k61
  | 13, _ => k62
  | 14, _ => k63
  | 15, _ => k64
  | 16, _ => k65
  | 17, _ => k66
  | n + 18, h => absurd h (by omega)
end K31
/-! Sheetwatch k31: what the lines give, as equations. -/
namespace K31
open Mq PySem L2
theorem outs_nil (as ε : En) : outs [] as ε = as := by
  unfold outs
  refine List.ext_getElem (by simp) fun i h1 h2 => ?_
  simp [List.getD_eq_getElem?_getD, h2]
theorem ok_as {c : Cn} {fn : Fn} {as as' : En} {r : Sl} (h0 : fn.io = []) (h : runF c fn as = .ok r as') : as' = as := by
  unfold runF at h
  split at h
  · split at h
    · cases h
    · cases h
    · split at h
      · cases h; rw [h0, outs_nil]
      · cases h; rw [h0, outs_nil]
      · cases h
  · cases h
theorem er_as {c : Cn} {fn : Fn} {as as' : En} {x : Er} (h0 : fn.io = []) (h : runF c fn as = .er x as') : as' = as := by
  unfold runF at h
  split at h
  · split at h
    · cases h
    · cases h; rw [h0, outs_nil]
    · split at h <;> cases h
  · cases h
theorem cN (k f : Nat) {fn : Fn} (as : En) (h : md.code[f]? = some fn) : callN md (k + 1) f as = runF (C k) fn as := C_call h
theorem mem_sk {ds ks : List D} {d : D} (h : d ∈ skSort ds ks) : d ∈ ds := by
  unfold skSort at h
  obtain ⟨p, hp, rfl⟩ := List.mem_map.mp h
  exact (List.of_mem_zip (List.mem_mergeSort.mp hp)).1
def Lay (d : D) (n : Nat) : Prop := d.py.canLay0 = true ∧ d.py.depth ≤ n
theorem lay_all {ds : List D} {n : Nat} (h : ∀ d ∈ ds, Lay d n) : PyData.canLayAll0 (D.pys ds) = true ∧ PyData.depthAll (D.pys ds) ≤ n := by
  induction ds with
  | nil => exact ⟨rfl, Nat.zero_le _⟩
  | cons d ds ih =>
    have i := ih fun x hx => h x (List.mem_cons_of_mem _ hx)
    have j := h d List.mem_cons_self
    refine ⟨?_, ?_⟩
    · show (d.py.canLay0 && PyData.canLayAll0 (D.pys ds)) = true
      rw [j.1, i.1]
      rfl
    · show max d.py.depth (PyData.depthAll (D.pys ds)) ≤ n
      exact Nat.max_le.mpr ⟨j.2, i.2⟩
theorem lay_tup {ds : List D} {n : Nat} (h : ∀ d ∈ ds, Lay d n) : Lay (.tup ds) (n + 1) := by
  have a := lay_all h
  exact ⟨a.1, Nat.succ_le_succ a.2⟩
theorem lay_lst {ds : List D} {n : Nat} (h : ∀ d ∈ ds, Lay d n) : Lay (.lst ds) (n + 1) := by
  have a := lay_all h
  exact ⟨a.1, Nat.succ_le_succ a.2⟩
theorem lay_shp {d : D} {n : Nat} (h : Lay d n) (hn : n ≤ 64) : shp d = true := by
  show (d.py.canLay0 && decide (d.py.depth ≤ 64)) = true
  rw [h.1, decide_eq_true (Nat.le_trans h.2 hn)]
  rfl
theorem lay_str {w : List Nat} (h : ok1 w = true) (n : Nat) : Lay (.str w) n := ⟨SeqAt.canLay_of_shaped (shpS h), Nat.zero_le _⟩
theorem lay_int (a : Int) (n : Nat) : Lay (.int a) n := ⟨rfl, Nat.zero_le _⟩
theorem lay_2 {a b : D} {n : Nat} (ha : Lay a n) (hb : Lay b n) : Lay (.tup [a, b]) (n + 1) := lay_tup fun d hd => by
  simp only [List.mem_cons, List.not_mem_nil, or_false] at hd
  rcases hd with rfl | rfl
  · exact ha
  · exact hb
abbrev PT : W := [112, 111, 105, 110, 116]
theorem told_b {l : W} (h : l ∈ BAD) : callN md 60 19 [.da (.str l)] = .ok (.da (.tup [.str [98, 97, 100], .bl true])) [.da (.str l)] := by
  have h1 := List.all_eq_true.mp told_bad l h
  unfold isBad at h1
  split at h1
  · rename_i s b as' e
    rw [Bool.and_eq_true, decide_eq_true_eq] at h1
    obtain ⟨rfl, rfl⟩ := h1
    have e2 := ok_as (fn := fn__law_told) rfl ((cN 59 19 _ rfl).symm.trans e)
    rw [e, e2]
  · cases h1
theorem told_g {t : Nat} (ht : t < 40) {w : W} (hw : w ∈ RW) : ∃ x, callN md 60 19 [.da (.str (gd t w))] = .ok (.da (.tup [.str PT, .tup x])) [.da (.str (gd t w))] := by
  have h1 := List.all_eq_true.mp (told_good t ht) w hw
  unfold isGood at h1
  split at h1
  · rename_i s x as' e
    rw [decide_eq_true_eq] at h1
    subst h1
    have e2 := ok_as (fn := fn__law_told) rfl ((cN 59 19 _ rfl).symm.trans e)
    exact ⟨x, by rw [e, e2]⟩
  · cases h1
theorem line_b {l : W} (h : l ∈ BAD) : callN md 58 17 [.da (.str l), .da EV] = .er ⟨0, []⟩ [.da (.str l), .da EV] := by
  have h1 := List.all_eq_true.mp line_bad l h
  unfold isEr at h1
  split at h1
  · rename_i x as' e
    rw [Bool.and_eq_true, beq_iff_eq, List.isEmpty_iff] at h1
    have e2 := er_as (fn := fn_read_line) rfl ((cN 57 17 _ rfl).symm.trans e)
    obtain ⟨c, fs⟩ := x
    obtain ⟨h2, h3⟩ := h1
    have h2 : c = 0 := h2
    have h3 : fs = [] := h3
    rw [e, e2, h2, h3]
  · cases h1
theorem line_g {t : Int} (h1 : 49 ≤ t) (h2 : t < 67) {w : W} (hw : w ∈ RW) : ∃ x, callN md 58 17 [.da (.str (gd t w)), .da EV] = .ok (.da (.tup [.int t, .tup x])) [.da (.str (gd t w)), .da EV] ∧ shp (.tup [.int t, .tup x]) = true ∧ (D.tup [.int t, .tup x]).py.depth ≤ 9 := by
  obtain ⟨n, rfl⟩ : ∃ n : Nat, t = (n + 49 : Nat) := ⟨(t - 49).toNat, by omega⟩
  have hc : ∀ w ∈ RW, w ∈ RW6 ∨ w = R2 := by decide
  rcases hc w hw with hw | rfl
  rotate_left
  · have e := line_two n (by omega)
    have l : Lay (P2 (n + 49 : Nat)) 9 := by
      refine lay_2 (lay_int _ _) (lay_tup (n := 7) fun d hd => ?_)
      rw [List.mem_singleton.mp hd]
      refine lay_2 (lay_str (by decide) _) (lay_tup (n := 5) fun d hd => ?_)
      have := mem_sk hd
      simp only [List.mem_cons, List.not_mem_nil, or_false] at this
      rcases this with rfl | rfl
      · exact lay_tup fun d hd => by rw [List.mem_singleton.mp hd]; exact lay_int _ 4
      · exact lay_tup fun d hd => by rw [List.mem_singleton.mp hd]; exact lay_int _ 4
    exact ⟨_, e, lay_shp l (by decide), l.2⟩
  have h1 := List.all_eq_true.mp (line_good n (by omega)) w hw
  unfold isPt2 at h1
  split at h1
  · rename_i t' x as' e
    rw [Bool.and_eq_true, Bool.and_eq_true, decide_eq_true_eq, decide_eq_true_eq] at h1
    obtain ⟨⟨rfl, h3⟩, h4⟩ := h1
    have e2 := ok_as (fn := fn_read_line) rfl ((cN 57 17 _ rfl).symm.trans e)
    exact ⟨x, by rw [e, e2], h3, h4⟩
  · cases h1
theorem bad_len {l : W} (h : l ∈ BAD) : (10 ∉ l) ∧ l.length ≤ 60 := by
  have h1 := List.all_eq_true.mp badL l h
  rw [Bool.and_eq_true, decide_eq_true_eq, Bool.not_eq_true'] at h1
  exact ⟨fun z => (by rw [List.contains_iff_mem.mpr z] at h1; cases h1.1), h1.2⟩
theorem rw_len {l : W} (h : l ∈ RW) : (10 ∉ l) ∧ l.length ≤ 60 := by
  have h1 := List.all_eq_true.mp rwL l h
  rw [Bool.and_eq_true, decide_eq_true_eq, Bool.not_eq_true'] at h1
  exact ⟨fun z => (by rw [List.contains_iff_mem.mpr z] at h1; cases h1.1), h1.2⟩
theorem tm_len {t : Int} (h1 : 0 ≤ t) (h2 : t < 70) : (10 ∉ strI t) ∧ (strI t).length ≤ 4 ∧ t.natAbs.log2 < 1920 := by
  obtain ⟨n, rfl⟩ : ∃ n : Nat, t = n := ⟨t.toNat, by omega⟩
  have h1 := List.all_eq_true.mp tmL n (List.mem_range.mpr (by omega))
  rw [Bool.and_eq_true, Bool.and_eq_true, decide_eq_true_eq, decide_eq_true_eq, Bool.not_eq_true'] at h1
  exact ⟨fun z => (by rw [List.contains_iff_mem.mpr z] at h1; cases h1.1.1), h1.1.2, h1.2⟩
theorem gd_len {t : Int} (h1 : 0 ≤ t) (h2 : t < 70) {w : W} (hw : w ∈ RW) : (10 ∉ gd t w) ∧ (gd t w).length ≤ 70 := by
  have a := tm_len h1 h2
  have b := rw_len hw
  unfold gd
  refine ⟨?_, by simp; omega⟩
  simp
  exact ⟨a.1, b.1⟩
/-! the texts that are drawn -/
theorem good_call (k : Nat) (rs : List Int) {i : Int} (s : Int) (hi : 0 ≤ i) {t : Int} (h1 : 0 ≤ t) (h2 : t < 70) : ∃ w ∈ RW, ∃ j : Int, 0 ≤ j ∧ (C (k + 3)).call 23 [DR rs [] [] i s, .da (.int t)] = .ok (.da (.str (gd t w))) [DR rs [] [] j s, .da (.int t)] := by
  obtain ⟨r, j, r0, r1, hj, p⟩ := pick_any k rs [] (ek := []) ⟨by decide, rfl⟩ s (i := i) (many := 7) hi (by decide)
  obtain ⟨w, hw, ix⟩ := menu RW r0 r1
  refine ⟨w, hw, j, hj, (C_call rfl).trans ?_⟩
  obtain ⟨_, l1, l2⟩ := tm_len h1 h2
  have l3 := (rw_len hw).2
  have a1 : addD (.str [64]) (.str (strI t)) = some (.str (64 :: strI t)) := addS (by simp; omega)
  have a2 : addD (.str (64 :: strI t)) (.str w) = some (.str (gd t w)) := addS (by simp; omega)
  have p : callN md (k + 2) 20 [DR rs [] [] i s, .da (.int 7)] = .ok (.da (.int r)) [DR rs [] [] j s, .da (.int 7)] := p
  have ix : atI [D.str [], D.str [32, 103, 111, 40, 41], D.str [32, 112, 40, 51, 41, 32, 112, 40, 45, 52, 41], D.str [32, 113, 40, 48, 44, 34, 97, 32, 98, 34, 41], D.str [32, 112, 40, 32, 49, 50, 32, 41, 103, 111, 32, 40, 32, 41], D.str [32, 113, 32, 40, 32, 45, 49, 32, 44, 32, 34, 34, 41, 32], D.str [32, 32, 32]] r = some (.str w) := ix
  simp [fn__law_good, code__law_good, Modu.cn, Pt.run, runF, Ss.run, S_.run, E.run, Od.run, odP, Es.run, As.run, Mq.T.run, Ts.run, It.run, OE.run, M.run, Ps.run, R.bind, R.of, R.noEr, Op2.run, i2, Bif.run, ioOk, isOwS, flat, Io.rep, Io.add, outs, List.range, List.range.loop, Pa.res, Pa.steps, getP, setP, getS, setS, view, Ar.vw, callR, aparts, refsOf, takeOut, allD, keepOw, putBack, Sl.frz, idxD, setAll, l2, a1, a2, p, ix]
end K31
/-! Sheetwatch k31: a bad line is drawn. -/
namespace K31
open Mq PySem L2
def bad_ret : Ss := (.cons (.ret (.op2 .idx (.var 1) (.call 20 (.cons (.p ⟨0, []⟩) (.cons (.e (.bif .len (.cons (.var 1) .nil))) .nil))))) .nil)
theorem bad_pre (c : Cn) (s0 : Sl) : Ss.run c I1 code__law_bad [s0, .no, .no] = Ss.run c I1 bad_ret [s0, .da (.lst (BAD.map .str)), .da (.str [39])] := by kernel_rfl
theorem bad_n : BAD.length = 76 := by decide
theorem bad_call (k : Nat) (rs : List Int) {i : Int} (s : Int) (hi : 0 ≤ i) : ∃ w ∈ BAD, ∃ j : Int, 0 ≤ j ∧ (C (k + 3)).call 24 [DR rs [] [] i s] = .ok (.da (.str w)) [DR rs [] [] j s] := by
  obtain ⟨r, j, r0, r1, hj, p⟩ := pick_any k rs [] (ek := []) ⟨by decide, rfl⟩ s (i := i) (many := 76) hi (by decide)
  obtain ⟨w, hw, ix⟩ := menu BAD r0 (by rw [bad_n]; exact r1)
  refine ⟨w, hw, j, hj, (C_call rfl).trans (runF_ex ⟨rfl, rfl⟩ ⟨[DR rs [] [] j s, .da (.lst (BAD.map .str)), .da (.str [39])], (bad_pre _ _).trans ?_, rfl⟩)⟩
  have p : callN md (k + 2) 20 [DR rs [] [] i s, .da (.int 76)] = .ok (.da (.int r)) [DR rs [] [] j s, .da (.int 76)] := p
  have hl : (BAD.map D.str).length = 76 := by rw [List.length_map, bad_n]
  generalize BAD.map D.str = B at ix hl ⊢
  simp [bad_ret, Modu.cn, Pt.run, runF, Ss.run, S_.run, E.run, Od.run, odP, Es.run, As.run, Mq.T.run, Ts.run, It.run, OE.run, M.run, Ps.run, R.bind, R.of, R.noEr, Op2.run, i2, Bif.run, ioOk, isOwS, flat, Io.rep, Io.add, outs, List.range, List.range.loop, Pa.res, Pa.steps, getP, setP, getS, setS, view, Ar.vw, callR, aparts, refsOf, takeOut, allD, keepOw, putBack, Sl.frz, lenD, idxD, setAll, hl, p, ix]
end K31
/-! Sheetwatch k31: a log is read. -/
namespace K31
open Mq PySem L2
/-- a line of the log: bad, or good with a time -/
inductive Ln where
  | b (l : W) | g (t : Int) (w : W)
def Ln.tx : Ln → W
  | .b l => l
  | .g t w => gd t w
def Ln.ok : Ln → Prop
  | .b l => l ∈ BAD
  | .g t w => 49 ≤ t ∧ t < 67 ∧ w ∈ RW
inductive RS where
  | er (x : Bool) | ok (last : Option Int) (n : Nat)
def rstep : RS → Ln → RS
  | .er x, _ => .er x
  | .ok _ _, .b _ => .er false
  | .ok none n, .g t _ => .ok (some t) (n + 1)
  | .ok (some u) n, .g t _ => if t < u then .er true else .ok (some t) (n + 1)
theorem fold_er (x : Bool) : ∀ ls : List Ln, ls.foldl rstep (.er x) = .er x
  | [] => rfl
  | _ :: ls => fold_er x ls
/-- the log so far -/
structure Lg (L : List D) (last : Option Int) (n : Nat) : Prop where
  n : L.length = n
  y : ∀ d ∈ L, Lay d 9
  z : match last with
    | none => L = []
    | some u => ∃ L' x, L = L' ++ [.tup [.int u, .tup x]]
theorem Lg.app {L : List D} {last : Option Int} {n : Nat} (h : Lg L last n) {t : Int} {x : List D} (hy : Lay (.tup [.int t, .tup x]) 9) : Lg (L ++ [.tup [.int t, .tup x]]) (some t) (n + 1) := by
  refine ⟨by rw [List.length_append, h.n]; rfl, fun d hd => ?_, L, x, rfl⟩
  rcases List.mem_append.mp hd with z | z
  · exact h.y d z
  · rw [List.mem_singleton.mp z]; exact hy
theorem eqL {L : List D} (hy : ∀ d ∈ L, Lay d 9) : eqD (.lst L) (.lst []) = some L.isEmpty := by
  unfold eqD
  rw [lay_shp (lay_lst hy) (by decide), show shp (.lst []) = true from rfl, Bool.and_self, if_pos rfl]
  cases L with
  | nil => rfl
  | cons a r => rfl
theorem last_ix (L' : List D) (p : D) : atI (L' ++ [p]) (-1) = some p := by
  have h1 : (1 : Int) ≤ (L'.length : Int) + 1 := by omega
  have e : (-1 + ((L'.length : Int) + 1)).toNat = L'.length := by omega
  unfold atI ixN
  simp [h1, e]
abbrev LE (T : W) (LS : List D) (L : List D) (s4 s5 : Sl) : En := [.da (.str T), .da EV, .da (.lst LS), .ls L, s4, s5]
theorem body_b {l : W} (h : l ∈ BAD) (T : W) (LS L : List D) (s5 : Sl) : ∃ ε, Ss.run (C 58) I0 b1_read_log (LE T LS L (.da (.str l)) s5) = .er ⟨0, []⟩ ε := by
  have p := line_b h
  exact ⟨_, by simp [b1_read_log, Modu.cn, Pt.run, runF, Ss.run, S_.run, E.run, Od.run, odP, Es.run, As.run, Mq.T.run, Ts.run, It.run, OE.run, M.run, Ps.run, R.bind, R.of, R.noEr, Op2.run, i2, Bif.run, ioOk, isOwS, flat, Io.rep, Io.add, outs, List.range, List.range.loop, Pa.res, Pa.steps, getP, setP, getS, setS, view, Ar.vw, callR, aparts, refsOf, takeOut, allD, keepOw, putBack, Sl.frz, setAll, p]; rfl⟩
theorem body_g0 {t : Int} {w : W} {x : List D} (p : callN md 58 17 [.da (.str (gd t w)), .da EV] = .ok (.da (.tup [.int t, .tup x])) [.da (.str (gd t w)), .da EV]) (T : W) (LS : List D) (s5 : Sl) :
    Ss.run (C 58) I0 b1_read_log (LE T LS [] (.da (.str (gd t w))) s5) = .ok .nxt (LE T LS [.tup [.int t, .tup x]] (.da (.str (gd t w))) (.da (.tup [.int t, .tup x]))) := by
  have e : eqD (.lst []) (.lst []) = some true := rfl
  simp [b1_read_log, Modu.cn, Pt.run, runF, Ss.run, S_.run, E.run, Od.run, odP, Es.run, As.run, Mq.T.run, Ts.run, It.run, OE.run, M.run, Ps.run, R.bind, R.of, R.noEr, Op2.run, i2, Bif.run, ioOk, isOwS, flat, Io.rep, Io.add, outs, List.range, List.range.loop, Pa.res, Pa.steps, getP, setP, getS, setS, view, Ar.vw, callR, aparts, refsOf, takeOut, allD, keepOw, putBack, Sl.frz, setAll, p, e]
theorem body_g1 {t : Int} {w : W} {x : List D} (p : callN md 58 17 [.da (.str (gd t w)), .da EV] = .ok (.da (.tup [.int t, .tup x])) [.da (.str (gd t w)), .da EV]) (T : W) (LS : List D) (s5 : Sl) {L' : List D} {u : Int} {y : List D} (hy : ∀ d ∈ L' ++ [.tup [.int u, .tup y]], Lay d 9) (hz : (L' ++ [D.tup [.int u, .tup y]]).length < 16777216) (h : ¬ t < u) :
    Ss.run (C 58) I0 b1_read_log (LE T LS (L' ++ [.tup [.int u, .tup y]]) (.da (.str (gd t w))) s5) = .ok .nxt (LE T LS (L' ++ [.tup [.int u, .tup y]] ++ [.tup [.int t, .tup x]]) (.da (.str (gd t w))) (.da (.tup [.int t, .tup x]))) := by
  have e : eqD (.lst (L' ++ [.tup [.int u, .tup y]])) (.lst []) = some false := by rw [eqL hy]; simp
  have i1 : idxD (.lst (L' ++ [.tup [.int u, .tup y]])) (.int (-1)) = some (.tup [.int u, .tup y]) := last_ix _ _
  generalize L' ++ [D.tup [.int u, .tup y]] = L at e i1 hz ⊢
  have i2 : ∀ z : List D, ∀ v : Int, idxD (.tup [.int v, .tup z]) (.int 0) = some (.int v) := fun _ _ => rfl
  have c : ordD (fun a b => decide (a < b)) (fun a b => decide (a < b)) (.int t) (.int u) = some (.bl (decide (t < u))) := rfl
  simp [b1_read_log, Modu.cn, Pt.run, runF, Ss.run, S_.run, E.run, Od.run, odP, Es.run, As.run, Mq.T.run, Ts.run, It.run, OE.run, M.run, Ps.run, R.bind, R.of, R.noEr, Op2.run, i2, Bif.run, ioOk, isOwS, flat, Io.rep, Io.add, outs, List.range, List.range.loop, Pa.res, Pa.steps, getP, setP, getS, setS, view, Ar.vw, callR, aparts, refsOf, takeOut, allD, keepOw, putBack, Sl.frz, setAll, p, e, i1, i2, h, hz, ordD]
theorem body_g2 {t : Int} {w : W} {x : List D} (p : callN md 58 17 [.da (.str (gd t w)), .da EV] = .ok (.da (.tup [.int t, .tup x])) [.da (.str (gd t w)), .da EV]) (T : W) (LS : List D) (s5 : Sl) {L' : List D} {u : Int} {y : List D} (hy : ∀ d ∈ L' ++ [.tup [.int u, .tup y]], Lay d 9) (h : t < u) :
    ∃ ε, Ss.run (C 58) I0 b1_read_log (LE T LS (L' ++ [.tup [.int u, .tup y]]) (.da (.str (gd t w))) s5) = .er ⟨1, []⟩ ε := by
  have e : eqD (.lst (L' ++ [.tup [.int u, .tup y]])) (.lst []) = some false := by rw [eqL hy]; simp
  have i1 : idxD (.lst (L' ++ [.tup [.int u, .tup y]])) (.int (-1)) = some (.tup [.int u, .tup y]) := last_ix _ _
  generalize L' ++ [D.tup [.int u, .tup y]] = L at e i1 ⊢
  have i2 : ∀ z : List D, ∀ v : Int, idxD (.tup [.int v, .tup z]) (.int 0) = some (.int v) := fun _ _ => rfl
  have hm : md.mk_ 1 = some [] := rfl
  exact ⟨_, by simp [b1_read_log, Modu.cn, Pt.run, runF, Ss.run, S_.run, E.run, Od.run, odP, Es.run, As.run, Mq.T.run, Ts.run, It.run, OE.run, M.run, Ps.run, R.bind, R.of, R.noEr, Op2.run, i2, Bif.run, ioOk, isOwS, flat, Io.rep, Io.add, outs, List.range, List.range.loop, Pa.res, Pa.steps, getP, setP, getS, setS, view, Ar.vw, callR, aparts, refsOf, takeOut, allD, keepOw, putBack, Sl.frz, setAll, p, e, i1, i2, h, ordD, hm]; rfl⟩
theorem log_loop (T : W) (LS : List D) : ∀ (ls : List Ln) (L : List D) (last : Option Int) (n : Nat) (s4 s5 : Sl), (∀ l ∈ ls, l.ok) → Lg L last n → n + ls.length ≤ 1000 →
    match ls.foldl rstep (.ok last n) with
    | .er x => ∃ ε, forRun I0 (.nm 4) (Ss.run (C 58) I0 b1_read_log) (ls.map fun l => .str l.tx) (LE T LS L s4 s5) = .er ⟨if x then 1 else 0, []⟩ ε
    | .ok last' n' => ∃ L' s4' s5', forRun I0 (.nm 4) (Ss.run (C 58) I0 b1_read_log) (ls.map fun l => .str l.tx) (LE T LS L s4 s5) = .ok .nxt (LE T LS L' s4' s5') ∧ Lg L' last' n'
  | [], L, last, n, s4, s5, _, h, _ => ⟨L, s4, s5, rfl, h⟩
  | .b l :: ls, L, last, n, s4, s5, hk, h, hn => by
    have hl : l ∈ BAD := hk (.b l) List.mem_cons_self
    have e : (Ln.b l :: ls).foldl rstep (.ok last n) = .er false := by
      rw [List.foldl_cons]
      cases last <;> exact fold_er _ _
    rw [e]
    obtain ⟨ε, b⟩ := body_b hl T LS L s5
    exact ⟨ε, for_e (ε1 := LE T LS L (.da (.str l)) s5) rfl b⟩
  | .g t w :: ls, L, last, n, s4, s5, hk, h, hn => by
    have hg : 49 ≤ t ∧ t < 67 ∧ w ∈ RW := hk (.g t w) List.mem_cons_self
    have hk2 : ∀ l ∈ ls, l.ok := fun l hl => hk l (List.mem_cons_of_mem _ hl)
    obtain ⟨x, p, q1, q2⟩ := line_g hg.1 hg.2.1 hg.2.2
    have hy : Lay (.tup [.int t, .tup x]) 9 := ⟨SeqAt.canLay_of_shaped q1, q2⟩
    have hn2 : n + 1 + ls.length ≤ 1000 := by rw [List.length_cons] at hn; omega
    cases last with
    | none =>
      have hz : L = [] := h.z
      subst hz
      have a := h.app hy
      have st := for_s (ds := ls.map fun l => D.str l.tx) (ε := LE T LS [] s4 s5) (ε1 := LE T LS [] (.da (.str (gd t w))) s5) (p := .nm 4) (io := I0) (d := .str (gd t w)) rfl (body_g0 p T LS s5)
      have ih := log_loop T LS ls _ _ _ (.da (.str (gd t w))) (.da (.tup [.int t, .tup x])) hk2 a hn2
      rw [List.foldl_cons]
      show match ls.foldl rstep (.ok (some t) (n + 1)) with
        | .er x => ∃ ε, forRun I0 (.nm 4) (Ss.run (C 58) I0 b1_read_log) (D.str (gd t w) :: ls.map fun l => D.str l.tx) (LE T LS [] s4 s5) = .er ⟨if x then 1 else 0, []⟩ ε
        | .ok last' n' => ∃ L' s4' s5', forRun I0 (.nm 4) (Ss.run (C 58) I0 b1_read_log) (D.str (gd t w) :: ls.map fun l => D.str l.tx) (LE T LS [] s4 s5) = .ok .nxt (LE T LS L' s4' s5') ∧ Lg L' last' n'
      rw [st]
      exact ih
    | some u =>
      obtain ⟨L', y, rfl⟩ := h.z
      by_cases hc : t < u
      · have e : (Ln.g t w :: ls).foldl rstep (.ok (some u) n) = .er true := by
          rw [List.foldl_cons]
          show ls.foldl rstep (if t < u then .er true else .ok (some t) (n + 1)) = _
          rw [if_pos hc]
          exact fold_er _ _
        rw [e]
        obtain ⟨ε, b⟩ := body_g2 p T LS s5 h.y hc
        exact ⟨ε, for_e (ε1 := LE T LS (L' ++ [.tup [.int u, .tup y]]) (.da (.str (gd t w))) s5) rfl b⟩
      · have a := h.app hy
        have st := for_s (ds := ls.map fun l => D.str l.tx) (ε := LE T LS (L' ++ [.tup [.int u, .tup y]]) s4 s5) (ε1 := LE T LS (L' ++ [.tup [.int u, .tup y]]) (.da (.str (gd t w))) s5) (p := .nm 4) (io := I0) (d := .str (gd t w)) rfl (body_g1 p T LS s5 h.y (by rw [h.n]; omega) hc)
        have ih := log_loop T LS ls _ _ _ (.da (.str (gd t w))) (.da (.tup [.int t, .tup x])) hk2 a hn2
        have e : (Ln.g t w :: ls).foldl rstep (.ok (some u) n) = ls.foldl rstep (.ok (some t) (n + 1)) := by
          rw [List.foldl_cons]
          show ls.foldl rstep (if t < u then .er true else .ok (some t) (n + 1)) = _
          rw [if_neg hc]
        rw [e]
        show match ls.foldl rstep (.ok (some t) (n + 1)) with
          | .er x => ∃ ε, forRun I0 (.nm 4) (Ss.run (C 58) I0 b1_read_log) (D.str (gd t w) :: ls.map fun l => D.str l.tx) (LE T LS (L' ++ [.tup [.int u, .tup y]]) s4 s5) = .er ⟨if x then 1 else 0, []⟩ ε
          | .ok last' n' => ∃ L2 s4' s5', forRun I0 (.nm 4) (Ss.run (C 58) I0 b1_read_log) (D.str (gd t w) :: ls.map fun l => D.str l.tx) (LE T LS (L' ++ [.tup [.int u, .tup y]]) s4 s5) = .ok .nxt (LE T LS L2 s4' s5') ∧ Lg L2 last' n'
        rw [st]
        exact ih
end K31
/-! Sheetwatch k31: a log is read, 2. -/
namespace K31
open Mq PySem L2
theorem join_eq : ∀ ls : List W, TL.joinL [] (ls.map (· ++ [10])) = TL.joinL [10] (ls ++ [[]])
  | [] => rfl
  | [l] => by simp [TL.joinL]
  | l :: m :: r => by
    have ih := join_eq (m :: r)
    simp only [List.map_cons, List.cons_append] at ih ⊢
    show (l ++ [10]) ++ ([] ++ TL.joinL [] ((m ++ [10]) :: r.map (· ++ [10]))) = l ++ ([10] ++ TL.joinL [10] (m :: (r ++ [[]])))
    rw [ih]
    simp
def TX (ls : List Ln) : W := TL.joinL [] ((ls.map Ln.tx).map (· ++ [10]))
theorem tx_ok {l : Ln} (h : l.ok) : (10 ∉ l.tx) ∧ l.tx.length ≤ 70 := by
  cases l with
  | b l => have := bad_len h; exact ⟨this.1, by show l.length ≤ 70; omega⟩
  | g t w => exact gd_len (by have := h.1; omega) (by have := h.2.1; omega) h.2.2
theorem tx_spl {ls : List Ln} (h : ∀ l ∈ ls, l.ok) : TL.spl [10] 0 [] (TX ls) = ls.map Ln.tx ++ [[]] := by
  unfold TX
  rw [join_eq]
  refine TL.spl_join (by simp) fun p hp => ?_
  rcases List.mem_append.mp hp with z | z
  · obtain ⟨l, hl, rfl⟩ := List.mem_map.mp z
    exact (tx_ok (h l hl)).1
  · rw [List.mem_singleton.mp z]; simp
theorem tx_len : ∀ {ls : List Ln}, (∀ l ∈ ls, l.ok) → (TX ls).length ≤ 71 * ls.length
  | [], _ => Nat.zero_le _
  | [l], h => by
    have := (tx_ok (h l List.mem_cons_self)).2
    simp [TX, TL.joinL]
    omega
  | l :: m :: r, h => by
    have h1 := (tx_ok (h l List.mem_cons_self)).2
    have ih := tx_len (ls := m :: r) fun x hx => h x (List.mem_cons_of_mem _ hx)
    show ((l.tx ++ [10]) ++ ([] ++ TX (m :: r))).length ≤ _
    simp only [List.length_append, List.length_cons, List.length_nil, List.nil_append] at ih ⊢
    omega
def rsL (ls : List Ln) : RS := ls.foldl rstep (.ok none 0)
def rl1 : S_ := .asg (.nm 2) (.mth .split (.e (.var 0)) (.cons (.cst (.str [10])) .nil))
def rl2 : S_ := .ite (.val (.op2 .eq (.op2 .idx (.var 2) (.neg (.cst (.int 1)))) (.cst (.str [])))) (.cons (.asg (.nm 2) (.slc (.var 2) .no (.so (.neg (.cst (.int 1)))))) .nil) .nil
def rl3 : S_ := .own 3 (.lst .nil)
def rl4 : S_ := .for_ (.nm 4) (.lst (.var 2)) b1_read_log
def rl5 : S_ := .ret (.frz ⟨3, []⟩)
theorem rl_code : code_read_log = .cons rl1 (.cons rl2 (.cons rl3 (.cons rl4 (.cons rl5 .nil)))) := rfl
section
variable {ls : List Ln} (h : ∀ l ∈ ls, l.ok) (hn : ls.length ≤ 900)
include h hn
theorem r1 (c : Cn) : S_.run c I0 rl1 [.da (.str (TX ls)), .da EV, .no, .no, .no, .no] = .ok .nxt [.da (.str (TX ls)), .da EV, .da (.lst ((ls.map Ln.tx ++ [[]]).map .str)), .no, .no, .no] := by
  have hl := tx_len h
  have hz : (TX ls).length + 2 ≤ 16777216 := by omega
  have e : Mth.run .split (.str (TX ls)) [.str [10]] = some (.lst ((ls.map Ln.tx ++ [[]]).map .str)) := by
    show (if (!([10] : W).isEmpty && ([10] : W).all (· < 256)) = true ∧ (TX ls).length + 2 ≤ 16777216 then some (D.lst ((TL.spl [10] 0 [] (TX ls)).map .str)) else none) = _
    rw [if_pos ⟨rfl, hz⟩, tx_spl h]
  simp [rl1, Modu.cn, Pt.run, runF, Ss.run, S_.run, E.run, Od.run, odP, Es.run, As.run, Mq.T.run, Ts.run, It.run, OE.run, M.run, Ps.run, R.bind, R.of, R.noEr, Op2.run, i2, Bif.run, ioOk, isOwS, flat, Io.rep, Io.add, outs, List.range, List.range.loop, Pa.res, Pa.steps, getP, setP, getS, setS, view, Ar.vw, callR, aparts, refsOf, takeOut, allD, keepOw, putBack, Sl.frz, setAll, tyOkD, Mth.ty, e]
theorem r2 (c : Cn) : S_.run c I0 rl2 [.da (.str (TX ls)), .da EV, .da (.lst ((ls.map Ln.tx ++ [[]]).map .str)), .no, .no, .no] = .ok .nxt [.da (.str (TX ls)), .da EV, .da (.lst (ls.map fun l => .str l.tx)), .no, .no, .no] := by
  have e0 : (ls.map Ln.tx ++ [[]]).map D.str = (ls.map fun l => D.str l.tx) ++ [.str []] := by simp [Function.comp_def]
  rw [e0]
  have i1 : idxD (.lst ((ls.map fun l => D.str l.tx) ++ [.str []])) (.int (-1)) = some (.str []) := last_ix _ _
  have e1 : eqD (.str []) (.str []) = some true := (eqS rfl rfl).trans (by simp)
  have e2 : sliceD (.lst ((ls.map fun l => D.str l.tx) ++ [.str []])) none (some (-1)) = some (.lst (ls.map fun l => D.str l.tx)) := by
    have s1 : HT.sIx (ls.length + 1) (ls.length + 1) (some (-1)) = ls.length := by
      unfold HT.sIx
      simp <;> omega
    have s2 : HT.sIx (ls.length + 1) 0 none = 0 := rfl
    unfold sliceD cutL
    simp [s1, s2]
  generalize (ls.map fun l => D.str l.tx) ++ [.str []] = B at i1 e2 ⊢
  simp [rl2, Modu.cn, Pt.run, runF, Ss.run, S_.run, E.run, Od.run, odP, Es.run, As.run, Mq.T.run, Ts.run, It.run, OE.run, M.run, Ps.run, R.bind, R.of, R.noEr, Op2.run, i2, Bif.run, ioOk, isOwS, flat, Io.rep, Io.add, outs, List.range, List.range.loop, Pa.res, Pa.steps, getP, setP, getS, setS, view, Ar.vw, callR, aparts, refsOf, takeOut, allD, keepOw, putBack, Sl.frz, setAll, i1, e1, e2]
theorem read_log_run : match rsL ls with
    | .er x => callN md 59 21 [.da (.str (TX ls)), .da EV] = .er ⟨if x then 1 else 0, []⟩ [.da (.str (TX ls)), .da EV]
    | .ok _ n => ∃ L : List D, L.length = n ∧ callN md 59 21 [.da (.str (TX ls)), .da EV] = .ok (.da (.lst L)) [.da (.str (TX ls)), .da EV] := by
  have lo := log_loop (TX ls) (ls.map fun l => .str l.tx) ls [] none 0 .no .no h ⟨rfl, fun _ z => (nomatch z), rfl⟩ (by omega)
  have e3 : S_.run (C 58) I0 rl3 [.da (.str (TX ls)), .da EV, .da (.lst (ls.map fun l => .str l.tx)), .no, .no, .no] = .ok .nxt (LE (TX ls) (ls.map fun l => .str l.tx) [] .no .no) := rfl
  have e4 : S_.run (C 58) I0 rl4 (LE (TX ls) (ls.map fun l => .str l.tx) [] .no .no) = forRun I0 (.nm 4) (Ss.run (C 58) I0 b1_read_log) (ls.map fun l => .str l.tx) (LE (TX ls) (ls.map fun l => .str l.tx) [] .no .no) := rfl
  have st : Ss.run (C 58) I0 code_read_log ([.da (.str (TX ls)), .da EV] ++ List.replicate 4 .no) = sqR (forRun I0 (.nm 4) (Ss.run (C 58) I0 b1_read_log) (ls.map fun l => .str l.tx) (LE (TX ls) (ls.map fun l => .str l.tx) [] .no .no)) (C 58) I0 (.cons rl5 .nil) := by
    rw [rl_code, Ss_cons]
    show sqR (S_.run (C 58) I0 rl1 [.da (.str (TX ls)), .da EV, .no, .no, .no, .no]) _ _ _ = _
    rw [r1 h hn, sq_nxt, Ss_cons, r2 h hn, sq_nxt, Ss_cons, e3, sq_nxt, Ss_cons, e4]
  show match ls.foldl rstep (.ok none 0) with
    | .er x => callN md 59 21 [.da (.str (TX ls)), .da EV] = .er ⟨if x then 1 else 0, []⟩ [.da (.str (TX ls)), .da EV]
    | .ok _ n => ∃ L : List D, L.length = n ∧ callN md 59 21 [.da (.str (TX ls)), .da EV] = .ok (.da (.lst L)) [.da (.str (TX ls)), .da EV]
  cases e : ls.foldl rstep (.ok none 0) with
  | er x =>
    rw [e] at lo
    obtain ⟨ε, lo⟩ := lo
    rw [lo, sq_er] at st
    exact (cN 58 21 _ rfl).trans (runF_exe ⟨rfl, rfl⟩ ⟨ε, st, outs_nil _ _⟩)
  | ok last n =>
    rw [e] at lo
    obtain ⟨L, s4, s5, lo, lg⟩ := lo
    rw [lo, sq_nxt] at st
    exact ⟨L, lg.n, (cN 58 21 _ rfl).trans (runF_ex ⟨rfl, rfl⟩ ⟨_, st.trans rfl, outs_nil _ _⟩)⟩
end
/-- what _law_log tells -/
def RS.d : RS → D
  | .er true => .tup [.str [116, 105, 109, 101], .bl true]
  | .er false => .tup [.str [108, 105, 110, 101], .bl true]
  | .ok _ n => .int n
def ll_body : Ss := .cons (.ret (.bif .len (.cons (.call 21 (.cons (.e (.var 0)) (.cons (.e (.mk (.call 18 .nil))) .nil))) .nil))) .nil
def ll_hs : Hs := .cons 0 1 (.cons (.ret (.tup (.cons (.cst (.str [108, 105, 110, 101])) (.cons (.xi 1 3) .nil)))) .nil) (.cons 1 1 (.cons (.ret (.tup (.cons (.cst (.str [116, 105, 109, 101])) (.cons (.xi 1 3) .nil)))) .nil) .nil)
theorem ev_call : callN md 59 18 [] = .ok (.dk (EVk.map .str) EVv) [] := by kernel_rfl
theorem ll_run (ε ε2 : En) (x : Er) (fl : Fl) (h1 : Ss.run (C 59) I0 ll_body ε = .er x ε2) (h2 : Hs.run (C 59) I0 ll_hs x ε2 = .ok fl ε2) : S_.run (C 59) I0 (.try_ ll_body ll_hs) ε = .ok fl ε2 := by
  conv => lhs; unfold S_.run
  rw [h1]
  exact h2
theorem ll_run2 (ε ε2 : En) (fl : Fl) (h1 : Ss.run (C 59) I0 ll_body ε = .ok fl ε2) : S_.run (C 59) I0 (.try_ ll_body ll_hs) ε = .ok fl ε2 := by
  conv => lhs; unfold S_.run
  rw [h1]
theorem law_log_run {ls : List Ln} (h : ∀ l ∈ ls, l.ok) (hn : ls.length ≤ 900) : callN md 60 22 [.da (.str (TX ls))] = .ok (.da (rsL ls).d) [.da (.str (TX ls))] := by
  have rl := read_log_run h hn
  have ev := ev_call
  refine (cN 59 22 _ rfl).trans ?_
  generalize TX ls = T at rl ⊢
  cases e : rsL ls with
  | er x =>
    rw [e] at rl
    have rl : callN md 59 21 [.da (.str T), .da EV] = .er ⟨if x then 1 else 0, []⟩ [.da (.str T), .da EV] := rl
    have b : Ss.run (C 59) I0 ll_body [.da (.str T), .no] = .er ⟨if x then 1 else 0, []⟩ [.da (.str T), .no] := by
      unfold EV at rl
      generalize EVk.map D.str = ks at rl ev
      generalize EVv = vs at rl ev
      generalize (⟨if x then 1 else 0, []⟩ : Er) = xx at rl ⊢
      simp [ll_body, Modu.cn, Pt.run, runF, Ss.run, S_.run, E.run, Od.run, odP, Es.run, As.run, Mq.T.run, Ts.run, It.run, OE.run, M.run, Ps.run, R.bind, R.of, R.noEr, Op2.run, i2, Bif.run, ioOk, isOwS, flat, Io.rep, Io.add, outs, List.range, List.range.loop, Pa.res, Pa.steps, getP, setP, getS, setS, view, Ar.vw, callR, aparts, refsOf, takeOut, allD, keepOw, putBack, Sl.frz, setAll, rl, ev]
    refine runF_ex ⟨rfl, rfl⟩ ⟨[.da (.str T), .no], ?_, outs_nil _ _⟩
    show Ss.run (C 59) I0 (.cons (.try_ ll_body ll_hs) .nil) [.da (.str T), .no] = _
    rw [Ss_cons, ll_run _ _ _ (.ret (.da (RS.er x).d)) b (by cases x <;> rfl), sq_ret]
  | ok last n =>
    rw [e] at rl
    obtain ⟨L, hL, rl⟩ := rl
    have b : Ss.run (C 59) I0 ll_body [.da (.str T), .no] = .ok (.ret (.da (.int n))) [.da (.str T), .no] := by
      unfold EV at rl
      generalize EVk.map D.str = ks at rl ev
      generalize EVv = vs at rl ev
      simp [ll_body, Modu.cn, Pt.run, runF, Ss.run, S_.run, E.run, Od.run, odP, Es.run, As.run, Mq.T.run, Ts.run, It.run, OE.run, M.run, Ps.run, R.bind, R.of, R.noEr, Op2.run, i2, Bif.run, ioOk, isOwS, flat, Io.rep, Io.add, outs, List.range, List.range.loop, Pa.res, Pa.steps, getP, setP, getS, setS, view, Ar.vw, callR, aparts, refsOf, takeOut, allD, keepOw, putBack, Sl.frz, setAll, rl, ev, lenD, hL]
    refine runF_ex ⟨rfl, rfl⟩ ⟨[.da (.str T), .no], ?_, outs_nil _ _⟩
    show Ss.run (C 59) I0 (.cons (.try_ ll_body ll_hs) .nil) [.da (.str T), .no] = _
    rw [Ss_cons, ll_run2 _ _ _ b, sq_ret]
    rfl
end K31
/-! Sheetwatch k31: the law's loops. -/
namespace K31
open Mq PySem L2
section
variable {F : D} {KS : List D} {s2 s3 s4 s5 s6 s7 s8 s9 s10 : Sl}
theorem b2_body {V0 V1 V2 : List D} {t : Int} {w l : W} {x : List D} (p1 : callN md 60 23 [.dk KS V0, .da (.int t)] = .ok (.da (.str w)) [.dk KS V1, .da (.int t)])
    (p2 : callN md 60 19 [.da (.str w)] = .ok (.da (.tup [.str PT, .tup x])) [.da (.str w)]) (p3 : callN md 60 24 [.dk KS V1] = .ok (.da (.str l)) [.dk KS V2])
    (p4 : callN md 60 19 [.da (.str l)] = .ok (.da (.tup [.str [98, 97, 100], .bl true])) [.da (.str l)]) :
    Ss.run (C 60) I0 b2_law [.da F, .dk KS V0, .da (.int t), s3, s4, s5, s6, s7, s8, s9, s10] = .ok .nxt [.da F, .dk KS V2, .da (.int t), .da (.str PT), .da (.tup x), s5, s6, s7, s8, s9, s10] := by
  have e1 : eqD (.tup [.str [98, 97, 100], .bl true]) (.tup [.str [98, 97, 100], .bl true]) = some true := by decide +kernel
  have e2 : eqD (.str PT) (.str PT) = some true := by decide +kernel
  have e3 : isiD (.tup x) (.ty "tuple") = some true := rfl
  simp [b2_law, Modu.cn, Pt.run, runF, Ss.run, S_.run, E.run, Od.run, odP, Es.run, As.run, Mq.T.run, Ts.run, It.run, OE.run, M.run, Ps.run, R.bind, R.of, R.noEr, Op2.run, addD, i2, Bif.run, ioOk, isOwS, flat, Io.rep, Io.add, outs, List.range, List.range.loop, Pa.res, Pa.steps, getP, setP, getS, setS, view, Ar.vw, callR, aparts, refsOf, takeOut, allD, keepOw, putBack, Sl.frz, setAll, ordD, nonD, truD, p1, p2, p3, p4, e1, e2, e3]
theorem b1_0n {V0 V1 V2 LS : List D} {T k : Int} {l : W} (p1 : callN md 60 20 [.dk KS V0, .da (.int 9)] = .ok (.da (.int 0)) [.dk KS V1, .da (.int 9)]) (p2 : callN md 60 24 [.dk KS V1] = .ok (.da (.str l)) [.dk KS V2]) (hl : l.contains 10 = false) (hz : LS.length < 16777216) :
    Ss.run (C 60) I0 b1_law [.da F, .dk KS V0, s2, s3, s4, .da (.int T), .ls LS, .da (.non), .da (.int k), s9, s10] = .ok .nxt [.da F, .dk KS V2, s2, s3, s4, .da (.int T), .ls (LS ++ [.str l]), .da (.tup [.str [108, 105, 110, 101], .bl true]), .da (.int k), .da (.int 0), s10] := by
  have i0 : eqD (.int 0) (.int 0) = some true := rfl
  have i1 : ∀ a b : D, atI [a, b] 1 = some b := fun _ _ => rfl
  have i3 : ∀ a b : D, atI [a, b] 0 = some a := fun _ _ => rfl
  have hl : 10 ∉ l := fun z => by rw [List.contains_iff_mem.mpr z] at hl; cases hl
  simp [b1_law, Modu.cn, Pt.run, runF, Ss.run, S_.run, E.run, Od.run, odP, Es.run, As.run, Mq.T.run, Ts.run, It.run, OE.run, M.run, Ps.run, R.bind, R.of, R.noEr, Op2.run, addD, i2, Bif.run, ioOk, isOwS, flat, Io.rep, Io.add, outs, List.range, List.range.loop, Pa.res, Pa.steps, getP, setP, getS, setS, view, Ar.vw, callR, aparts, refsOf, takeOut, allD, keepOw, putBack, Sl.frz, setAll, ordD, nonD, truD, p1, p2, hl, hz, i0, i1, i3, idxD]
theorem b1_1n {V0 V1 V2 LS : List D} {T k : Int} {w : W} (p1 : callN md 60 20 [.dk KS V0, .da (.int 9)] = .ok (.da (.int 1)) [.dk KS V1, .da (.int 9)]) (hk : 0 < k) (p2 : callN md 60 23 [.dk KS V1, .da (.int (T - 1))] = .ok (.da (.str w)) [.dk KS V2, .da (.int (T - 1))]) (hz : LS.length < 16777216) :
    Ss.run (C 60) I0 b1_law [.da F, .dk KS V0, s2, s3, s4, .da (.int T), .ls LS, .da (.non), .da (.int k), s9, s10] = .ok .nxt [.da F, .dk KS V2, s2, s3, s4, .da (.int T), .ls (LS ++ [.str w]), .da (.tup [.str [116, 105, 109, 101], .bl true]), .da (.int k), .da (.int 1), s10] := by
  have i0 : eqD (.int 1) (.int 0) = some false := rfl
  have i4 : eqD (.int 1) (.int 1) = some true := rfl
  have i1 : ∀ a b : D, atI [a, b] 1 = some b := fun _ _ => rfl
  have i3 : ∀ a b : D, atI [a, b] 0 = some a := fun _ _ => rfl
  simp [b1_law, Modu.cn, Pt.run, runF, Ss.run, S_.run, E.run, Od.run, odP, Es.run, As.run, Mq.T.run, Ts.run, It.run, OE.run, M.run, Ps.run, R.bind, R.of, R.noEr, Op2.run, addD, i2, Bif.run, ioOk, isOwS, flat, Io.rep, Io.add, outs, List.range, List.range.loop, Pa.res, Pa.steps, getP, setP, getS, setS, view, Ar.vw, callR, aparts, refsOf, takeOut, allD, keepOw, putBack, Sl.frz, setAll, ordD, nonD, truD, p1, p2, hk, hz, i0, i1, i3, i4, idxD]
theorem b1_0t {V0 V1 V2 LS : List D} {T k : Int} {l : W} {z : W} (p1 : callN md 60 20 [.dk KS V0, .da (.int 9)] = .ok (.da (.int 0)) [.dk KS V1, .da (.int 9)]) (p2 : callN md 60 24 [.dk KS V1] = .ok (.da (.str l)) [.dk KS V2]) (hl : l.contains 10 = false) (hz : LS.length < 16777216) :
    Ss.run (C 60) I0 b1_law [.da F, .dk KS V0, s2, s3, s4, .da (.int T), .ls LS, .da (.tup [.str z, .bl true]), .da (.int k), s9, s10] = .ok .nxt [.da F, .dk KS V2, s2, s3, s4, .da (.int T), .ls (LS ++ [.str l]), .da (.tup [.str z, .bl true]), .da (.int k), .da (.int 0), s10] := by
  have i0 : eqD (.int 0) (.int 0) = some true := rfl
  have i1 : ∀ a b : D, atI [a, b] 1 = some b := fun _ _ => rfl
  have i3 : ∀ a b : D, atI [a, b] 0 = some a := fun _ _ => rfl
  have hl : 10 ∉ l := fun z => by rw [List.contains_iff_mem.mpr z] at hl; cases hl
  simp [b1_law, Modu.cn, Pt.run, runF, Ss.run, S_.run, E.run, Od.run, odP, Es.run, As.run, Mq.T.run, Ts.run, It.run, OE.run, M.run, Ps.run, R.bind, R.of, R.noEr, Op2.run, addD, i2, Bif.run, ioOk, isOwS, flat, Io.rep, Io.add, outs, List.range, List.range.loop, Pa.res, Pa.steps, getP, setP, getS, setS, view, Ar.vw, callR, aparts, refsOf, takeOut, allD, keepOw, putBack, Sl.frz, setAll, ordD, nonD, truD, p1, p2, hl, hz, i0, i1, i3, idxD]
theorem b1_1t {V0 V1 V2 LS : List D} {T k : Int} {w : W} {z : W} (p1 : callN md 60 20 [.dk KS V0, .da (.int 9)] = .ok (.da (.int 1)) [.dk KS V1, .da (.int 9)]) (hk : 0 < k) (p2 : callN md 60 23 [.dk KS V1, .da (.int (T - 1))] = .ok (.da (.str w)) [.dk KS V2, .da (.int (T - 1))]) (hz : LS.length < 16777216) :
    Ss.run (C 60) I0 b1_law [.da F, .dk KS V0, s2, s3, s4, .da (.int T), .ls LS, .da (.tup [.str z, .bl true]), .da (.int k), s9, s10] = .ok .nxt [.da F, .dk KS V2, s2, s3, s4, .da (.int T), .ls (LS ++ [.str w]), .da (.tup [.str z, .bl true]), .da (.int k), .da (.int 1), s10] := by
  have i0 : eqD (.int 1) (.int 0) = some false := rfl
  have i4 : eqD (.int 1) (.int 1) = some true := rfl
  have i1 : ∀ a b : D, atI [a, b] 1 = some b := fun _ _ => rfl
  have i3 : ∀ a b : D, atI [a, b] 0 = some a := fun _ _ => rfl
  simp [b1_law, Modu.cn, Pt.run, runF, Ss.run, S_.run, E.run, Od.run, odP, Es.run, As.run, Mq.T.run, Ts.run, It.run, OE.run, M.run, Ps.run, R.bind, R.of, R.noEr, Op2.run, addD, i2, Bif.run, ioOk, isOwS, flat, Io.rep, Io.add, outs, List.range, List.range.loop, Pa.res, Pa.steps, getP, setP, getS, setS, view, Ar.vw, callR, aparts, refsOf, takeOut, allD, keepOw, putBack, Sl.frz, setAll, ordD, nonD, truD, p1, p2, hk, hz, i0, i1, i3, i4, idxD]
theorem b1_2 {V0 V1 V2 V3 LS : List D} {T k r d : Int} {w : W} {DUE : D} (p1 : callN md 60 20 [.dk KS V0, .da (.int 9)] = .ok (.da (.int r)) [.dk KS V1, .da (.int 9)]) (h0 : r ≠ 0) (h1 : ¬ (r = 1 ∧ 0 < k)) (p3 : callN md 60 20 [.dk KS V1, .da (.int 3)] = .ok (.da (.int d)) [.dk KS V2, .da (.int 3)]) (p2 : callN md 60 23 [.dk KS V2, .da (.int (T + d))] = .ok (.da (.str w)) [.dk KS V3, .da (.int (T + d))]) (hz : LS.length < 16777216) :
    Ss.run (C 60) I0 b1_law [.da F, .dk KS V0, s2, s3, s4, .da (.int T), .ls LS, .da DUE, .da (.int k), s9, s10] = .ok .nxt [.da F, .dk KS V3, s2, s3, s4, .da (.int (T + d)), .ls (LS ++ [.str w]), .da DUE, .da (.int k), .da (.int r), s10] := by
  have i0 : eqD (.int r) (.int 0) = some false := by rw [eqI, decide_eq_false h0]
  by_cases hr : r = 1
  · subst hr
    have hk : ¬ 0 < k := fun z => h1 ⟨rfl, z⟩
    have i4 : eqD (.int 1) (.int 1) = some true := rfl
    simp [b1_law, Modu.cn, Pt.run, runF, Ss.run, S_.run, E.run, Od.run, odP, Es.run, As.run, Mq.T.run, Ts.run, It.run, OE.run, M.run, Ps.run, R.bind, R.of, R.noEr, Op2.run, addD, i2, Bif.run, ioOk, isOwS, flat, Io.rep, Io.add, outs, List.range, List.range.loop, Pa.res, Pa.steps, getP, setP, getS, setS, view, Ar.vw, callR, aparts, refsOf, takeOut, allD, keepOw, putBack, Sl.frz, setAll, ordD, nonD, truD, p1, p2, p3, hk, hz, i0, i4]
  · have i4 : eqD (.int r) (.int 1) = some false := by rw [eqI, decide_eq_false hr]
    simp [b1_law, Modu.cn, Pt.run, runF, Ss.run, S_.run, E.run, Od.run, odP, Es.run, As.run, Mq.T.run, Ts.run, It.run, OE.run, M.run, Ps.run, R.bind, R.of, R.noEr, Op2.run, addD, i2, Bif.run, ioOk, isOwS, flat, Io.rep, Io.add, outs, List.range, List.range.loop, Pa.res, Pa.steps, getP, setP, getS, setS, view, Ar.vw, callR, aparts, refsOf, takeOut, allD, keepOw, putBack, Sl.frz, setAll, ordD, nonD, truD, p1, p2, p3, hz, i0, i4]
end
end K31
/-! Sheetwatch k31: the law's loops, 2. -/
namespace K31
open Mq PySem L2
structure Iv (items : List Ln) (T : Int) (due : D) (k : Nat) : Prop where
  ok : ∀ l ∈ items, l.ok
  n : items.length = k
  t1 : 50 ≤ T
  t2 : T ≤ 50 + 2 * k
  d : match rsL items with
    | .er x => due = (RS.er x).d
    | .ok last n => due = .non ∧ n = k ∧ (items = [] ∧ last = none ∨ items ≠ [] ∧ last = some T)
theorem rsL_snoc (items : List Ln) (l : Ln) : rsL (items ++ [l]) = rstep (rsL items) l := by
  unfold rsL
  rw [List.foldl_append]
  rfl
theorem ok_snoc {items : List Ln} {l : Ln} (h : ∀ l ∈ items, l.ok) (hl : l.ok) : ∀ x ∈ items ++ [l], x.ok := fun x hx => by
  rcases List.mem_append.mp hx with z | z
  · exact h x z
  · rw [List.mem_singleton.mp z]; exact hl
abbrev txs (items : List Ln) : List D := items.map fun l => .str l.tx
theorem txs_snoc (items : List Ln) (l : Ln) : txs items ++ [.str l.tx] = txs (items ++ [l]) := by simp [txs]
abbrev LV (F : D) (rs : List Int) (i s : Int) (s2 s3 s4 : Sl) (T : Int) (items : List Ln) (due : D) (s8 s9 : Sl) : En := [.da F, DR rs [] [] i s, s2, s3, s4, .da (.int T), .ls (txs items), .da due, s8, s9, .no]
theorem erd (x : Bool) : ∃ z, (RS.er x).d = .tup [.str z, .bl true] := by cases x <;> exact ⟨_, rfl⟩
theorem cC (k : Nat) : (C k).call = callN md k := rfl
theorem goodN (k : Nat) (rs : List Int) {i : Int} (s : Int) (hi : 0 ≤ i) {t : Int} (h1 : 0 ≤ t) (h2 : t < 70) : ∃ w ∈ RW, ∃ j : Int, 0 ≤ j ∧ callN md (k + 3) 23 [DR rs [] [] i s, .da (.int t)] = .ok (.da (.str (gd t w))) [DR rs [] [] j s, .da (.int t)] := by
  obtain ⟨w, hw, j, hj, e⟩ := good_call k rs s hi h1 h2
  rw [cC] at e
  exact ⟨w, hw, j, hj, e⟩
theorem badN (k : Nat) (rs : List Int) {i : Int} (s : Int) (hi : 0 ≤ i) : ∃ w ∈ BAD, ∃ j : Int, 0 ≤ j ∧ callN md (k + 3) 24 [DR rs [] [] i s] = .ok (.da (.str w)) [DR rs [] [] j s] := by
  obtain ⟨w, hw, j, hj, e⟩ := bad_call k rs s hi
  rw [cC] at e
  exact ⟨w, hw, j, hj, e⟩
theorem pickN (k : Nat) (rs : List Int) {i : Int} (s : Int) {many : Int} (hi : 0 ≤ i) (h : 0 < many) : ∃ r j : Int, 0 ≤ r ∧ r < many ∧ 0 ≤ j ∧ callN md (k + 2) 20 [DR rs [] [] i s, .da (.int many)] = .ok (.da (.int r)) [DR rs [] [] j s, .da (.int many)] := by
  obtain ⟨r, j, h0, h1, hj, e⟩ := pick_any k rs [] (ek := []) ⟨by decide, rfl⟩ s hi h
  rw [cC] at e
  exact ⟨r, j, h0, h1, hj, e⟩
theorem good60 (rs : List Int) {i : Int} (s : Int) (hi : 0 ≤ i) {t : Int} (h1 : 0 ≤ t) (h2 : t < 70) : ∃ w ∈ RW, ∃ j : Int, 0 ≤ j ∧ callN md 60 23 [DR rs [] [] i s, .da (.int t)] = .ok (.da (.str (gd t w))) [DR rs [] [] j s, .da (.int t)] := goodN 57 rs s hi h1 h2
theorem bad60 (rs : List Int) {i : Int} (s : Int) (hi : 0 ≤ i) : ∃ w ∈ BAD, ∃ j : Int, 0 ≤ j ∧ callN md 60 24 [DR rs [] [] i s] = .ok (.da (.str w)) [DR rs [] [] j s] := badN 57 rs s hi
theorem pick60 (rs : List Int) {i : Int} (s : Int) {many : Int} (hi : 0 ≤ i) (h : 0 < many) : ∃ r j : Int, 0 ≤ r ∧ r < many ∧ 0 ≤ j ∧ callN md 60 20 [DR rs [] [] i s, .da (.int many)] = .ok (.da (.int r)) [DR rs [] [] j s, .da (.int many)] := pickN 58 rs s hi h
theorem step2 (F : D) (rs : List Int) (s : Int) {i : Int} (hi : 0 ≤ i) {items : List Ln} {T : Int} {due : D} {k : Nat} (iv : Iv items T due k) (hk : k < 8) (s2 s3 s4 s9 : Sl) :
    ∃ (j T' : Int) (due' : D) (r : Int) (l : Ln), 0 ≤ j ∧ Iv (items ++ [l]) T' due' (k + 1) ∧ Ss.run (C 60) I0 b1_law (LV F rs i s s2 s3 s4 T items due (.da (.int (k : Nat))) s9) = .ok .nxt (LV F rs j s s2 s3 s4 T' (items ++ [l]) due' (.da (.int (k : Nat))) (.da (.int r))) := by
  obtain ⟨r, j, r0, r1, hj, p⟩ := pick60 rs s (i := i) (many := 9) hi (by decide)
  have t1 := iv.t1
  have t2 := iv.t2
  have hz : (txs items).length < 16777216 := by rw [List.length_map, iv.n]; omega
  by_cases h0 : r = 0
  · subst h0
    obtain ⟨l, hl, j2, hj2, p2⟩ := bad60 rs s hj
    have hc : l.contains 10 = false := by
      cases e : l.contains 10 with
      | false => rfl
      | true => exact absurd (List.contains_iff_mem.mp e) (bad_len hl).1
    have hd := iv.d
    cases e : rsL items with
    | er x =>
      rw [e] at hd
      obtain ⟨z, hz'⟩ := erd x
      have hd : due = .tup [.str z, .bl true] := hd.trans hz'
      subst hd
      refine ⟨j2, T, .tup [.str z, .bl true], 0, .b l, hj2, ⟨ok_snoc iv.ok hl, by rw [List.length_append, iv.n]; rfl, t1, by omega, ?_⟩, (b1_0t p p2 hc hz).trans ?_⟩
      · rw [rsL_snoc, e]; exact hz'.symm
      · exact congrArg (fun z => R.ok Fl.nxt [.da F, DR rs [] [] j2 s, s2, s3, s4, .da (.int T), .ls z, _, .da (.int (k : Nat)), _, .no]) (txs_snoc items (.b l))
    | ok last n =>
      rw [e] at hd
      obtain ⟨hd, _, _⟩ := hd
      subst hd
      refine ⟨j2, T, .tup [.str [108, 105, 110, 101], .bl true], 0, .b l, hj2, ⟨ok_snoc iv.ok hl, by rw [List.length_append, iv.n]; rfl, t1, by omega, ?_⟩, (b1_0n p p2 hc hz).trans ?_⟩
      · rw [rsL_snoc, e]
        cases last <;> rfl
      · exact congrArg (fun z => R.ok Fl.nxt [.da F, DR rs [] [] j2 s, s2, s3, s4, .da (.int T), .ls z, _, .da (.int (k : Nat)), _, .no]) (txs_snoc items (.b l))
  · by_cases h1 : r = 1 ∧ 0 < (k : Int)
    · obtain ⟨rfl, hk0⟩ := h1
      obtain ⟨w, hw, j2, hj2, p2⟩ := good60 rs s hj (t := T - 1) (by omega) (by omega)
      have hl : Ln.ok (.g (T - 1) w) := ⟨by omega, by omega, hw⟩
      have hd := iv.d
      cases e : rsL items with
      | er x =>
        rw [e] at hd
        obtain ⟨z, hz'⟩ := erd x
        have hd : due = .tup [.str z, .bl true] := hd.trans hz'
        subst hd
        refine ⟨j2, T, .tup [.str z, .bl true], 1, .g (T - 1) w, hj2, ⟨ok_snoc iv.ok hl, by rw [List.length_append, iv.n]; rfl, t1, by omega, ?_⟩, (b1_1t p hk0 p2 hz).trans ?_⟩
        · rw [rsL_snoc, e]; exact hz'.symm
        · exact congrArg (fun z => R.ok Fl.nxt [.da F, DR rs [] [] j2 s, s2, s3, s4, .da (.int T), .ls z, _, .da (.int (k : Nat)), _, .no]) (txs_snoc items (.g (T - 1) w))
      | ok last n =>
        rw [e] at hd
        obtain ⟨hd, hn, hla⟩ := hd
        subst hd
        have hne : items ≠ [] := fun z => by
          have := iv.n
          rw [z] at this
          have : 0 = k := this
          omega
        have hla : last = some T := by
          rcases hla with ⟨z, _⟩ | ⟨_, z⟩
          · exact absurd z hne
          · exact z
        subst hla
        refine ⟨j2, T, .tup [.str [116, 105, 109, 101], .bl true], 1, .g (T - 1) w, hj2, ⟨ok_snoc iv.ok hl, by rw [List.length_append, iv.n]; rfl, t1, by omega, ?_⟩, (b1_1n p hk0 p2 hz).trans ?_⟩
        · rw [rsL_snoc, e]
          have : rstep (.ok (some T) n) (.g (T - 1) w) = .er true := if_pos (by omega)
          rw [this]
          rfl
        · exact congrArg (fun z => R.ok Fl.nxt [.da F, DR rs [] [] j2 s, s2, s3, s4, .da (.int T), .ls z, _, .da (.int (k : Nat)), _, .no]) (txs_snoc items (.g (T - 1) w))
    · obtain ⟨d, j1, d0, d1, hj1, p3⟩ := pick60 rs s (i := j) (many := 3) hj (by decide)
      obtain ⟨w, hw, j2, hj2, p2⟩ := good60 rs s hj1 (t := T + d) (by omega) (by omega)
      have hl : Ln.ok (.g (T + d) w) := ⟨by omega, by omega, hw⟩
      refine ⟨j2, T + d, due, r, .g (T + d) w, hj2, ⟨ok_snoc iv.ok hl, by rw [List.length_append, iv.n]; rfl, by omega, by omega, ?_⟩, (b1_2 p h0 h1 p3 p2 hz).trans ?_⟩
      · have hd := iv.d
        rw [rsL_snoc]
        cases e : rsL items with
        | er x =>
          rw [e] at hd
          exact hd
        | ok last n =>
          rw [e] at hd
          obtain ⟨hd, hn, hla⟩ := hd
          rcases hla with ⟨_, rfl⟩ | ⟨_, rfl⟩
          · exact ⟨hd, by rw [hn], .inr ⟨by simp, rfl⟩⟩
          · have : rstep (.ok (some T) n) (.g (T + d) w) = .ok (some (T + d)) (n + 1) := if_neg (by omega)
            rw [this]
            exact ⟨hd, by rw [hn], .inr ⟨by simp, rfl⟩⟩
      · exact congrArg (fun z => R.ok Fl.nxt [.da F, DR rs [] [] j2 s, s2, s3, s4, .da (.int (T + d)), .ls z, _, .da (.int (k : Nat)), _, .no]) (txs_snoc items (.g (T + d) w))
theorem loop2 (F : D) (rs : List Int) (s : Int) (s2 s3 s4 : Sl) : ∀ (m k0 : Nat) {i : Int} {items : List Ln} {T : Int} {due : D} (s8 s9 : Sl), 0 ≤ i → Iv items T due k0 → k0 + m ≤ 8 →
    ∃ (j T' : Int) (due' : D) (s8' s9' : Sl) (items' : List Ln), Iv items' T' due' (k0 + m) ∧ forRun I0 (.nm 8) (Ss.run (C 60) I0 b1_law) ((List.range' k0 m).map fun i => D.int (i : Nat)) (LV F rs i s s2 s3 s4 T items due s8 s9) = .ok .nxt (LV F rs j s s2 s3 s4 T' items' due' s8' s9')
  | 0, k0, i, items, T, due, s8, s9, hi, iv, hm => ⟨i, T, due, s8, s9, items, iv, rfl⟩
  | m + 1, k0, i, items, T, due, s8, s9, hi, iv, hm => by
    obtain ⟨j, T', due', r, l, hj, iv', st⟩ := step2 F rs s hi iv (by omega) s2 s3 s4 s9
    obtain ⟨j2, T2, due2, s8', s9', items', iv2, lo⟩ := loop2 F rs s s2 s3 s4 m (k0 + 1) (.da (.int (k0 : Nat))) (.da (.int r)) hj iv' (by omega)
    refine ⟨j2, T2, due2, s8', s9', items', by rw [show k0 + (m + 1) = k0 + 1 + m by omega]; exact iv2, ?_⟩
    rw [List.range'_succ, List.map_cons]
    exact (for_s (ε1 := LV F rs i s s2 s3 s4 T items due (.da (.int (k0 : Nat))) s9) rfl st).trans lo
theorem loop1 (F : D) (rs : List Int) (s : Int) (s5 s6 s7 s8 s9 : Sl) : ∀ (ts : List Nat) {i : Int} (s2 s3 s4 : Sl), 0 ≤ i → (∀ t ∈ ts, t < 40) →
    ∃ (j : Int) (s2' s3' s4' : Sl), 0 ≤ j ∧ forRun I0 (.nm 2) (Ss.run (C 60) I0 b2_law) (ts.map fun i => D.int (i : Nat)) [.da F, DR rs [] [] i s, s2, s3, s4, s5, s6, s7, s8, s9, .no] = .ok .nxt [.da F, DR rs [] [] j s, s2', s3', s4', s5, s6, s7, s8, s9, .no]
  | [], i, s2, s3, s4, hi, _ => ⟨i, s2, s3, s4, hi, rfl⟩
  | t :: ts, i, s2, s3, s4, hi, ht => by
    have h40 := ht t List.mem_cons_self
    obtain ⟨w, hw, j, hj, p1⟩ := good60 rs s hi (t := (t : Nat)) (by omega) (by omega)
    obtain ⟨x, p2⟩ := told_g h40 hw
    obtain ⟨l, hl, j2, hj2, p3⟩ := bad60 rs s hj
    have p4 := told_b hl
    obtain ⟨j3, s2', s3', s4', hj3, lo⟩ := loop1 F rs s s5 s6 s7 s8 s9 ts (.da (.int (t : Nat))) (.da (.str PT)) (.da (.tup x)) hj2 fun z hz => ht z (List.mem_cons_of_mem _ hz)
    refine ⟨j3, s2', s3', s4', hj3, ?_⟩
    rw [List.map_cons]
    exact (for_s (ε1 := [.da F, DR rs [] [] i s, .da (.int (t : Nat)), s3, s4, s5, s6, s7, s8, s9, .no]) rfl (b2_body p1 p2 p3 p4)).trans lo
end K31
/-! Sheetwatch k31: the law. -/
namespace K31
open Mq PySem L2
def w1 : S_ := .own 1 (.call 1 (.cons (.e (.var 0)) (.cons (.e (.cst (.int 200))) .nil)))
def it2 : Mq.It := .r1 (.bif .min2 (.cons (.cst (.int 40)) (.cons (.op2 .add (.cst (.int 6)) (.op2 .fdiv (.bif .len (.cons (.opo .idx (.p ⟨1, []⟩) (.e (.cst (.str [114, 111, 119])))) .nil)) (.cst (.int 2)))) .nil)))
def w2 : S_ := .for_ (.nm 2) it2 b2_law
def w3 : S_ := .asg (.nm 5) (.cst (.int 50))
def w4 : S_ := .own 6 (.lst .nil)
def w5 : S_ := .asg (.nm 7) (.cst .non)
def it6 : Mq.It := .r1 (.call 20 (.cons (.p ⟨1, []⟩) (.cons (.e (.cst (.int 9))) .nil)))
def w6 : S_ := .for_ (.nm 8) it6 b1_law
def w7 : S_ := .ite (.val (.op2 .isn (.var 7) (.cst .non))) (.cons (.asg (.nm 7) (.bifo .len (.cons (.p ⟨6, []⟩) .nil))) .nil) .nil
def lcM : M := .lc [10] (.nm 10) (.lst (.frz ⟨6, []⟩)) .nil (.op2 .add (.var 10) (.cst (.str [10])))
def w8 : S_ := .ret (.op2 .eq (.call 22 (.cons (.e (.mth .join (.e (.cst (.str []))) (.cons (.mk lcM) .nil))) .nil)) (.var 7))
theorem law_code : code_law = .cons w1 (.cons w2 (.cons w3 (.cons w4 (.cons w5 (.cons w6 (.cons w7 (.cons w8 .nil))))))) := rfl
theorem fr {c : Cn} {p : Mq.Pt} {it : Mq.It} {b : Ss} {ε ε1 : En} {ds : List D} {x : Mq.R Fl} (h1 : Mq.It.run c I0 it ε = .ok (ds, none) ε1) (h2 : forRun I0 p (b.run c I0) ds ε1 = x) : S_.run c I0 (.for_ p it b) ε = x := by
  conv => lhs; unfold S_.run
  rw [h1]
  exact h2
theorem rng (n : Nat) : rngD 0 (n : Int) = (List.range n).map fun i => D.int (i : Nat) := by
  unfold rngD
  rw [show ((n : Int) - 0).toNat = n by omega]
  refine List.map_congr_left fun i _ => ?_
  rw [Int.zero_add]
section
variable {F : D} {KS V : List D} {s2 s3 s4 s5 s6 s7 s8 s9 s10 : Sl}
theorem w1_run (rs : List Int) (ns : List Int) (p : callN md 60 1 [.da (.fls (ns.map D.int)), .da (.int 200)] = .ok (DR rs [] [] 0 rs.length) [.da (.fls (ns.map D.int)), .da (.int 200)]) :
    S_.run (C 60) I0 w1 [.da (.fls (ns.map D.int)), .no, .no, .no, .no, .no, .no, .no, .no, .no, .no] = .ok .nxt [.da (.fls (ns.map D.int)), DR rs [] [] 0 rs.length, .no, .no, .no, .no, .no, .no, .no, .no, .no] := by
  generalize D.fls (ns.map D.int) = G at p ⊢
  generalize hv : [D.lst (rs.map D.int), D.int 0, D.int (rs.length : Int)] = VV at p ⊢
  simp [w1, Modu.cn, Pt.run, runF, Ss.run, S_.run, E.run, Od.run, odP, Es.run, As.run, Mq.T.run, Ts.run, It.run, OE.run, M.run, Ps.run, R.bind, R.of, R.noEr, Op2.run, addD, i2, Bif.run, ioOk, isOwS, flat, Io.rep, Io.add, outs, List.range, List.range.loop, Pa.res, Pa.steps, getP, setP, getS, setS, view, Ar.vw, ixk, D.keq, dkOk, isF, isT, putKs, putV, callR, aparts, refsOf, takeOut, allD, keepOw, putBack, Sl.frz, setAll, ordD, nonD, truD, lenD, idxD, p]
theorem it2_run (rs : List Int) (i s : Int) : ∃ n : Nat, n ≤ 40 ∧ Mq.It.run (C 60) I0 it2 [.da F, DR rs [] [] i s, s2, s3, s4, s5, s6, s7, s8, s9, s10] = .ok ((List.range n).map fun i => D.int (i : Nat), none) [.da F, DR rs [] [] i s, s2, s3, s4, s5, s6, s7, s8, s9, s10] := by
  obtain ⟨n, hn, e⟩ : ∃ n : Nat, n ≤ 40 ∧ (if (6 + ((rs.length : Int) / 2) : Int) < 40 then 6 + ((rs.length : Int) / 2) else 40) = (n : Int) := by
    by_cases h : (6 + ((rs.length : Int) / 2) : Int) < 40
    · exact ⟨(6 + ((rs.length : Int) / 2)).toNat, by omega, by rw [if_pos h]; omega⟩
    · exact ⟨40, Nat.le_refl _, if_neg h⟩
  refine ⟨n, hn, ?_⟩
  have hs : small (n : Int) = true := by
    unfold small
    rw [decide_eq_true (by omega), decide_eq_true (by omega)]
    rfl
  have f : Int.fdiv (rs.length : Int) 2 = (rs.length : Int) / 2 := Int.fdiv_eq_ediv_of_nonneg _ (by decide)
  rw [← rng]
  simp [it2, Modu.cn, Pt.run, runF, Ss.run, S_.run, E.run, Od.run, odP, Es.run, As.run, Mq.T.run, Ts.run, It.run, OE.run, M.run, Ps.run, R.bind, R.of, R.noEr, Op2.run, addD, i2, Bif.run, ioOk, isOwS, flat, Io.rep, Io.add, outs, List.range, List.range.loop, Pa.res, Pa.steps, getP, setP, getS, setS, view, Ar.vw, ixk, D.keq, dkOk, isF, isT, putKs, putV, callR, aparts, refsOf, takeOut, allD, keepOw, putBack, Sl.frz, setAll, ordD, nonD, truD, lenD, idxD, e, hs, f]
theorem it6_run {V V' : List D} {r : Int} (p : callN md 60 20 [.dk KS V, .da (.int 9)] = .ok (.da (.int r)) [.dk KS V', .da (.int 9)]) (h0 : 0 ≤ r) (h1 : r < 9) : Mq.It.run (C 60) I0 it6 [.da F, .dk KS V, s2, s3, s4, s5, s6, s7, s8, s9, s10] = .ok ((List.range' 0 r.toNat).map fun i => D.int (i : Nat), none) [.da F, .dk KS V', s2, s3, s4, s5, s6, s7, s8, s9, s10] := by
  have hs : small r = true := by
    unfold small
    rw [decide_eq_true (by omega), decide_eq_true (by omega)]
    rfl
  have e : rngD 0 r = (List.range' 0 r.toNat).map fun i => D.int (i : Nat) := by
    rw [← List.range_eq_range', ← rng, Int.toNat_of_nonneg h0]
  rw [← e]
  simp [it6, Modu.cn, Pt.run, runF, Ss.run, S_.run, E.run, Od.run, odP, Es.run, As.run, Mq.T.run, Ts.run, It.run, OE.run, M.run, Ps.run, R.bind, R.of, R.noEr, Op2.run, addD, i2, Bif.run, ioOk, isOwS, flat, Io.rep, Io.add, outs, List.range, List.range.loop, Pa.res, Pa.steps, getP, setP, getS, setS, view, Ar.vw, ixk, D.keq, dkOk, isF, isT, putKs, putV, callR, aparts, refsOf, takeOut, allD, keepOw, putBack, Sl.frz, setAll, ordD, nonD, truD, lenD, idxD, hs, p]
theorem w7_n (KV : List D) {T : D} (LS : List D) : S_.run (C 60) I0 w7 [.da F, .dk KS V, s2, s3, s4, .da T, .ls LS, .da .non, s8, s9, s10] = .ok .nxt [.da F, .dk KS V, s2, s3, s4, .da T, .ls LS, .da (.int LS.length), s8, s9, s10] := by
  simp [w7, Modu.cn, Pt.run, runF, Ss.run, S_.run, E.run, Od.run, odP, Es.run, As.run, Mq.T.run, Ts.run, It.run, OE.run, M.run, Ps.run, R.bind, R.of, R.noEr, Op2.run, addD, i2, Bif.run, ioOk, isOwS, flat, Io.rep, Io.add, outs, List.range, List.range.loop, Pa.res, Pa.steps, getP, setP, getS, setS, view, Ar.vw, ixk, D.keq, dkOk, isF, isT, putKs, putV, callR, aparts, refsOf, takeOut, allD, keepOw, putBack, Sl.frz, setAll, ordD, nonD, truD, lenD, idxD]
theorem w7_t {T : D} (LS l : List D) : S_.run (C 60) I0 w7 [.da F, .dk KS V, s2, s3, s4, .da T, .ls LS, .da (.tup l), s8, s9, s10] = .ok .nxt [.da F, .dk KS V, s2, s3, s4, .da T, .ls LS, .da (.tup l), s8, s9, s10] := by
  simp [w7, Modu.cn, Pt.run, runF, Ss.run, S_.run, E.run, Od.run, odP, Es.run, As.run, Mq.T.run, Ts.run, It.run, OE.run, M.run, Ps.run, R.bind, R.of, R.noEr, Op2.run, addD, i2, Bif.run, ioOk, isOwS, flat, Io.rep, Io.add, outs, List.range, List.range.loop, Pa.res, Pa.steps, getP, setP, getS, setS, view, Ar.vw, ixk, D.keq, dkOk, isF, isT, putKs, putV, callR, aparts, refsOf, takeOut, allD, keepOw, putBack, Sl.frz, setAll, ordD, nonD, truD, lenD, idxD]
end
end K31
/-! Sheetwatch k31: the law, 2. -/
namespace K31
open Mq PySem L2
theorem strs_m : ∀ xs : List W, strsD (xs.map D.str) = some xs
  | [] => rfl
  | x :: xs => by
    rw [List.map_cons]
    unfold strsD
    rw [strs_m xs]
    rfl
theorem join_m {items : List Ln} (h : ∀ l ∈ items, l.ok) (hn : items.length ≤ 900) : Mth.run .join (.str []) [.lst (items.map fun l => .str (l.tx ++ [10]))] = some (.str (TX items)) := by
  have e0 : (items.map fun l => D.str (l.tx ++ [10])) = ((items.map Ln.tx).map (· ++ [10])).map D.str := by simp [Function.comp_def]
  have hs : ∀ ls : List Ln, (∀ l ∈ ls, l.ok) → ((((ls.map Ln.tx).map (· ++ [10])).map (·.length)).sum) ≤ 71 * ls.length := by
    intro ls
    induction ls with
    | nil => intro _; exact Nat.zero_le _
    | cons l ls ih =>
      intro h
      have h1 := (tx_ok (h l List.mem_cons_self)).2
      have h2 := ih fun x hx => h x (List.mem_cons_of_mem _ hx)
      simp only [List.map_cons, List.sum_cons, List.length_append, List.length_cons, List.length_nil] at h2 ⊢
      omega
  show ((itemsD (.lst (items.map fun l => D.str (l.tx ++ [10])))).bind fun ds => (strsD ds).bind fun ys => if (ys.map (·.length)).sum + ys.length * ([] : W).length ≤ 16777216 then some (D.str (TL.joinL [] ys)) else none) = _
  rw [e0]
  show ((strsD (((items.map Ln.tx).map (· ++ [10])).map D.str)).bind fun ys => if (ys.map (·.length)).sum + ys.length * ([] : W).length ≤ 16777216 then some (D.str (TL.joinL [] ys)) else none) = _
  rw [strs_m, Option.bind_some, if_pos (by have := hs items h; simp only [List.length_nil, Nat.mul_zero, Nat.add_zero]; omega)]
  rfl
theorem lcM_run {F T due : D} {KS V : List D} {s2 s3 s4 s8 s9 : Sl} {items : List Ln} (h : ∀ l ∈ items, l.ok) (hn : items.length ≤ 900) :
    M.run (C 60) I0 lcM [.da F, .dk KS V, s2, s3, s4, .da T, .ls (txs items), .da due, s8, s9, .no] = .ok (.ls (items.map fun l => .str (l.tx ++ [10]))) [.da F, .dk KS V, s2, s3, s4, .da T, .da (.lst (txs items)), .da due, s8, s9, .no] := by
  refine lc_run (ε1 := [.da F, .dk KS V, s2, s3, s4, .da T, .da (.lst (txs items)), .da due, s8, s9, .no]) (ε2 := [.da F, .dk KS V, s2, s3, s4, .da T, .da (.lst (txs items)), .da due, s8, s9, .no]) (ds := txs items) rfl ⟨rfl, rfl, rfl⟩ ?_
  refine (lc_map (ε := [.da F, .dk KS V, s2, s3, s4, .da T, .da (.lst (txs items)), .da due, s8, s9, .no]) (S1 := fun d => [.da F, .dk KS V, s2, s3, s4, .da T, .da (.lst (txs items)), .da due, s8, s9, .da d]) (fun _ => rfl) (fun _ => rfl) (f := fun l : Ln => D.str l.tx) (g := fun l : Ln => D.str (l.tx ++ [10])) (fun _ => rfl) items [] (fun l hl => ?_) (by rw [List.length_nil]; omega)).trans rfl
  have ha : addD (.str l.tx) (.str [10]) = some (.str (l.tx ++ [10])) := addS (by have := (tx_ok (h l hl)).2; show l.tx.length + 1 ≤ _; omega)
  show R.of _ (addD (.str l.tx) (.str [10])) = _
  rw [ha]
  rfl
theorem w8_run {F T due X : D} {KS V : List D} {s2 s3 s4 s8 s9 : Sl} {items : List Ln} (h : ∀ l ∈ items, l.ok) (hn : items.length ≤ 900) (p : callN md 60 22 [.da (.str (TX items))] = .ok (.da X) [.da (.str (TX items))]) (e : eqD X due = some true) :
    S_.run (C 60) I0 w8 [.da F, .dk KS V, s2, s3, s4, .da T, .ls (txs items), .da due, s8, s9, .no] = .ok (.ret (.da (.bl true))) [.da F, .dk KS V, s2, s3, s4, .da T, .da (.lst (txs items)), .da due, s8, s9, .no] := by
  have hm := lcM_run (F := F) (T := T) (due := due) (KS := KS) (V := V) (s2 := s2) (s3 := s3) (s4 := s4) (s8 := s8) (s9 := s9) h hn
  have hj := join_m h hn
  generalize txs items = A at hm ⊢
  generalize (items.map fun l => D.str (l.tx ++ [10])) = B at hm hj
  generalize TX items = TT at hj p
  rw [← cC] at p
  generalize C 60 = c at hm p ⊢
  simp [w8, hm, hj, p, e, Pt.run, runF, Ss.run, S_.run, E.run, Od.run, odP, Es.run, As.run, Mq.T.run, Ts.run, It.run, OE.run, Ps.run, R.bind, R.of, R.noEr, Op2.run, i2, ioOk, isOwS, flat, Io.rep, Io.add, outs, List.range, List.range.loop, Pa.res, Pa.steps, getP, setP, getS, setS, view, Ar.vw, callR, aparts, refsOf, takeOut, allD, keepOw, putBack, Sl.frz, setAll, tyOkD, Mth.ty]
theorem eq_due (x : Bool) : eqD (RS.er x).d (RS.er x).d = some true := by cases x <;> decide +kernel
theorem strN (k : Nat) (ns : List Int) (hn : ns.length ≤ 63) : ∃ rs : List Int, callN md (k + 2) 1 [.da (.fls (ns.map D.int)), .da (.int 200)] = .ok (DR rs [] [] 0 rs.length) [.da (.fls (ns.map D.int)), .da (.int 200)] := by
  obtain ⟨rs, e⟩ := stream_call k ns hn
  rw [cC] at e
  exact ⟨rs, e⟩
theorem str60 (ns : List Int) (hn : ns.length ≤ 63) : ∃ rs : List Int, callN md 60 1 [.da (.fls (ns.map D.int)), .da (.int 200)] = .ok (DR rs [] [] 0 rs.length) [.da (.fls (ns.map D.int)), .da (.int 200)] := strN 58 ns hn
theorem law_run (ns : List Int) (hn : ns.length ≤ 63) : ∃ as', callN md (60 + 1) i_law [.da (.fls (ns.map D.int))] = .ok (.da (.bl true)) as' := by
  obtain ⟨rs, p1⟩ := str60 ns hn
  have e1 := w1_run rs ns p1
  generalize hF : D.fls (ns.map D.int) = F at e1 ⊢
  obtain ⟨n, hn40, it2⟩ := it2_run (F := F) (s2 := .no) (s3 := .no) (s4 := .no) (s5 := .no) (s6 := .no) (s7 := .no) (s8 := .no) (s9 := .no) (s10 := .no) rs 0 rs.length
  obtain ⟨j, s2, s3, s4, hj, l1⟩ := loop1 F rs rs.length .no .no .no .no .no (List.range n) (i := 0) .no .no .no (by decide) fun t ht => by have := List.mem_range.mp ht; omega
  obtain ⟨r, j2, r0, r1, hj2, p6⟩ := pick60 rs rs.length (i := j) (many := 9) hj (by decide)
  have i6 := it6_run (F := F) (s2 := s2) (s3 := s3) (s4 := s4) (s5 := .da (.int 50)) (s6 := .ls []) (s7 := .da .non) (s8 := .no) (s9 := .no) (s10 := .no) p6 r0 r1
  obtain ⟨j3, T', due, s8, s9, items, iv, l2⟩ := loop2 F rs rs.length s2 s3 s4 r.toNat 0 (i := j2) (items := []) (T := 50) (due := .non) .no .no hj2 ⟨fun _ z => (nomatch z), rfl, by decide, by decide, ⟨rfl, rfl, .inl ⟨rfl, rfl⟩⟩⟩ (by omega)
  have hlen : items.length ≤ 900 := by rw [iv.n]; omega
  have lg := law_log_run iv.ok hlen
  have w7 : ∃ due', S_.run (C 60) I0 w7 (LV F rs j3 rs.length s2 s3 s4 T' items due s8 s9) = .ok .nxt (LV F rs j3 rs.length s2 s3 s4 T' items due' s8 s9) ∧ eqD (rsL items).d due' = some true := by
    have hd := iv.d
    cases e : rsL items with
    | er x =>
      rw [e] at hd
      obtain ⟨z, hz⟩ := erd x
      have hd : due = .tup [.str z, .bl true] := hd.trans hz
      subst hd
      exact ⟨_, w7_t _ _, by rw [← hz]; exact eq_due x⟩
    | ok last m =>
      rw [e] at hd
      obtain ⟨hd, hm, _⟩ := hd
      subst hd
      refine ⟨_, w7_n [] _, ?_⟩
      show eqD (.int (m : Nat)) (.int ((txs items).length : Nat)) = some true
      rw [eqI, List.length_map, iv.n, hm, decide_eq_true rfl]
  obtain ⟨due', w7, hq⟩ := w7
  have w8 := w8_run (F := F) (KS := [.str [114, 111, 119], .str [97, 116], .str [115, 101, 101, 100]]) (V := [.lst (rs.map D.int), .int j3, .int rs.length]) (T := .int T') (s2 := s2) (s3 := s3) (s4 := s4) (s8 := s8) (s9 := s9) iv.ok hlen lg hq
  have st : Ss.run (C 60) I0 code_law [.da F, .no, .no, .no, .no, .no, .no, .no, .no, .no, .no] = .ok (.ret (.da (.bl true))) [.da F, DR rs [] [] j3 rs.length, s2, s3, s4, .da (.int T'), .da (.lst (txs items)), .da due', s8, s9, .no] := by
    rw [law_code, Ss_cons, e1, sq_nxt, Ss_cons, w2, fr it2 l1, sq_nxt, Ss_cons]
    rw [show S_.run (C 60) I0 w3 [.da F, DR rs [] [] j rs.length, s2, s3, s4, .no, .no, .no, .no, .no, .no] = .ok .nxt [.da F, DR rs [] [] j rs.length, s2, s3, s4, .da (.int 50), .no, .no, .no, .no, .no] from rfl, sq_nxt, Ss_cons]
    rw [show S_.run (C 60) I0 w4 [.da F, DR rs [] [] j rs.length, s2, s3, s4, .da (.int 50), .no, .no, .no, .no, .no] = .ok .nxt [.da F, DR rs [] [] j rs.length, s2, s3, s4, .da (.int 50), .ls [], .no, .no, .no, .no] from rfl, sq_nxt, Ss_cons]
    rw [show S_.run (C 60) I0 w5 [.da F, DR rs [] [] j rs.length, s2, s3, s4, .da (.int 50), .ls [], .no, .no, .no, .no] = .ok .nxt [.da F, DR rs [] [] j rs.length, s2, s3, s4, .da (.int 50), .ls [], .da .non, .no, .no, .no] from rfl, sq_nxt, Ss_cons]
    rw [w6, fr i6 l2, sq_nxt, Ss_cons, w7, sq_nxt, Ss_cons, w8, sq_ret]
  exact ⟨_, (cN 60 25 _ rfl).trans (runF_ex ⟨rfl, by rw [← hF]; rfl⟩ ⟨_, st, outs_nil _ _⟩)⟩
end K31
open PySem PySem.W PyProof.Rows
set_option maxHeartbeats 0 in
theorem PySem.Challenge.cw_sheetwatch_k31_lines_that_are_bad_holds : PySem.Challenge.rw_sheetwatch_k31_lines_that_are_bad.Holds := by
  w_on; o_law; k_head; (case hw => w_witness2)
  k_fill
  refine Mq.walk_mp (l := PySem.Challenge.rw_sheetwatch_k31_lines_that_are_bad) (k := K31.depth + 1) (i := 25) (x := "script") (m := K31.md) (fn := K31.fn_law) rfl rfl ⟨rfl, by decide, by decide⟩ (fun w h Y => PySem.W.kIn_of Y) rfl rfl (fun ns hl => K31.law_run ns hl) ?F
  case F =>
    intro w mg fa h KX G hmg
    refine' K31.all_mk KX G hmg ?e0 ?b0X ?h0X ?t0X ?v0E ?k0C ?g0A ?g0B ?a0C ?o0C ?e1 ?b1X ?h1X ?t1X ?v1E ?k1C ?g1A ?g1B ?a1C ?o1C ?e2 ?pg2 ?hd2 ?po2 ?sa2 ?na2_1 ?na2_0 ?mk2 ?kp2 ?e3 ?b3X ?h3X ?t3X ?e4 ?b4X ?h4X ?t4X ?a0 ?l0 ?c0 ?k0 ?a1 ?l1 ?c1 ?k1 ?a2 ?g2 ?l2 ?c2 ?k2 ?a3 ?g3 ?l3 ?c3 ?k3 ?a4 ?g4 ?l4 ?c4 ?k4 ?a5 ?g5 ?l5 ?c5 ?k5 ?a6 ?l6 ?c6 ?k6 ?a7 ?g7 ?l7 ?c7 ?k7 ?a8 ?l8 ?c8 ?k8 ?a9 ?g9 ?l9 ?c9 ?k9 ?a10 ?g10 ?l10 ?c10 ?k10 ?a11 ?l11 ?c11 ?k11 ?a12 ?g12 ?l12 ?c12 ?k12 ?a13 ?g13 ?l13 ?c13 ?k13 ?a14 ?g14 ?l14 ?c14 ?k14 ?a15 ?l15 ?c15 ?k15 ?a16 ?l16 ?c16 ?k16 ?a17 ?l17 ?c17 ?k17 ?a18 ?l18 ?c18 ?k18 ?a19 ?l19 ?c19 ?k19 ?a20 ?l20 ?c20 ?k20 ?a21 ?l21 ?c21 ?k21 ?a22 ?l22 ?c22 ?k22 ?a23 ?l23 ?c23 ?k23 ?a24 ?l24 ?c24 ?k24 ?a25 ?l25 ?c25 ?k25 ?v0 ?x0 ?v1 ?x1 ?v2 ?x2 ?v3 ?x3 ?v4 ?x4 ?v5 ?x5 ?z0 ?z1 ?z2 ?z3 ?z4 ?z5 ?z6 ?z7 ?z8 ?sG ?sT ?u0_0 ?u0_1 ?u0_3 ?u0_4 ?u1_0 ?u1_1 ?u1_3 ?u1_4
    (case e0 => k_is); (case b0X => k_is); (case h0X => k_is); (case t0X => k_is); (case v0E => first | decide | kernel_rfl); (case k0C => k_is); (case g0A => k_is); (case g0B => k_is); (case a0C => k_is); (case o0C => k_is); (case e1 => k_is); (case b1X => k_is); (case h1X => k_is); (case t1X => k_is); (case v1E => first | decide | kernel_rfl); (case k1C => k_is); (case g1A => k_is); (case g1B => k_is); (case a1C => k_is); (case o1C => k_is); (case e2 => k_is); (case pg2 => k_is); (case hd2 => k_is); (case po2 => k_is); (case sa2 => k_is); (case na2_1 => k_is); (case na2_0 => k_is); (case mk2 => k_is); (case kp2 => k_is); (case e3 => k_is); (case b3X => k_is); (case h3X => k_is); (case t3X => k_is); (case e4 => k_is); (case b4X => k_is); (case h4X => k_is); (case t4X => k_is); (case a0 => k_is); (case l0 => k_is); (case c0 => k_is); (case k0 => k_is); (case a1 => k_is); (case l1 => k_is); (case c1 => k_is); (case k1 => k_is); (case a2 => k_is); (case g2 => k_is); (case l2 => k_is); (case c2 => k_is); (case k2 => k_is); (case a3 => k_is); (case g3 => k_is); (case l3 => k_is); (case c3 => k_is); (case k3 => k_is); (case a4 => k_is); (case g4 => k_is); (case l4 => k_is); (case c4 => k_is); (case k4 => k_is); (case a5 => k_is); (case g5 => k_is); (case l5 => k_is); (case c5 => k_is); (case k5 => k_is); (case a6 => k_is); (case l6 => k_is); (case c6 => k_is); (case k6 => k_is); (case a7 => k_is); (case g7 => k_is); (case l7 => k_is); (case c7 => k_is); (case k7 => k_is); (case a8 => k_is); (case l8 => k_is); (case c8 => k_is); (case k8 => k_is); (case a9 => k_is); (case g9 => k_is); (case l9 => k_is); (case c9 => k_is); (case k9 => k_is); (case a10 => k_is); (case g10 => k_is); (case l10 => k_is); (case c10 => k_is); (case k10 => k_is); (case a11 => k_is); (case l11 => k_is); (case c11 => k_is); (case k11 => k_is); (case a12 => k_is); (case g12 => k_is); (case l12 => k_is); (case c12 => k_is); (case k12 => k_is); (case a13 => k_is); (case g13 => k_is); (case l13 => k_is); (case c13 => k_is); (case k13 => k_is); (case a14 => k_is); (case g14 => k_is); (case l14 => k_is); (case c14 => k_is); (case k14 => k_is); (case a15 => k_is); (case l15 => k_is); (case c15 => k_is); (case k15 => k_is); (case a16 => k_is); (case l16 => k_is); (case c16 => k_is); (case k16 => k_is); (case a17 => k_is); (case l17 => k_is); (case c17 => k_is); (case k17 => k_is); (case a18 => k_is); (case l18 => k_is); (case c18 => k_is); (case k18 => k_is); (case a19 => k_is); (case l19 => k_is); (case c19 => k_is); (case k19 => k_is); (case a20 => k_is); (case l20 => k_is); (case c20 => k_is); (case k20 => k_is); (case a21 => k_is); (case l21 => k_is); (case c21 => k_is); (case k21 => k_is); (case a22 => k_is); (case l22 => k_is); (case c22 => k_is); (case k22 => k_is); (case a23 => k_is); (case l23 => k_is); (case c23 => k_is); (case k23 => k_is); (case a24 => k_is); (case l24 => k_is); (case c24 => k_is); (case k24 => k_is); (case a25 => k_is); (case l25 => k_is); (case c25 => k_is); (case k25 => k_is); (case v0 => k_is); (case x0 => first | decide | kernel_rfl); (case v1 => k_is); (case x1 => first | decide | kernel_rfl); (case v2 => k_is); (case x2 => first | decide | kernel_rfl); (case v3 => k_is); (case x3 => first | decide | kernel_rfl); (case v4 => k_is); (case x4 => first | decide | kernel_rfl); (case v5 => k_is); (case x5 => first | decide | kernel_rfl); (case z0 => k_is); (case z1 => k_is); (case z2 => k_is); (case z3 => k_is); (case z4 => k_is); (case z5 => k_is); (case z6 => k_is); (case z7 => k_is); (case z8 => k_is); (case sG => k_is); (case sT => k_is); (case u0_0 => k_is); (case u0_1 => k_is); (case u0_3 => k_is); (case u0_4 => k_is); (case u1_0 => k_is); (case u1_1 => k_is); (case u1_3 => k_is); (case u1_4 => k_is)
