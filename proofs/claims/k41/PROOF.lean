import PyProof.Rows.All
import Wide.All
import OpenK.AllK
import Wide.FinOn
import HandS.ForMost
import HandS.Wide
import HandS.Style
import HandS.IsInst
import HandS.Deep
import HandS.Flt
import HandS.NoneIn
import HandS.Iter
import HandS.Rev
import HandS.Conv
import HandS.More
import PySem.Challenge.RW_likesheets_k41_edge_to_edge_lines
set_option Elab.async false
set_option linter.all false
set_option maxRecDepth 100000
set_option maxHeartbeats 4000000
namespace PL
open PySem PySem.Spec PyProof.Rows L2
/-! ### t * k -/
theorem noFill_tuple_mul : fillsNumberSlot (.type "tuple") "mul" = pure false :=
  PySem.fillsNumberSlot_seq (id := "tuple.__mul__") (r := some (.builtin "tuple.__rmul__")) F.slot_tuple_mul.lookup (by decide +kernel) F.slot_tuple_rmul.lookup (by decide +kernel)
theorem repeat_tuple : seqRepeat? (.type "tuple") = pure (some (.builtin "tuple.__mul__")) := by
  unfold seqRepeat?
  rw [PySem.seqSlot_of (T := "tuple") (name := "__mul__") (id := "tuple.__mul__") F.slot_tuple_mul.lookup (by decide +kernel), PySem.seqSlot_of (T := "tuple") (name := "__rmul__") (id := "tuple.__rmul__") F.slot_tuple_rmul.lookup (by decide +kernel)]
  rfl
theorem int_rmul_tuple (a : Int) (t : Tok) (l : Addr) (items : Array Value) (n : Nat) {dd : Option Addr} {sl : Array (Option Value)} :
    Meets (PySem.Builtin.«int.__rmul__» ⟨[.int a t, .ref l], []⟩) (fun _ R s => s.heap.get? l = some { cls := .type "tuple", dict := dd, data := .seq items n, slots := sl } ∧ R (.ok (.ret Value.notImplemented)) s) :=
  .of_wp fun prog w A R s h => by obtain ⟨hp, g, d, tk, os⟩ := s; obtain ⟨hl, h⟩ := h; wp_walk; exact ⟨_, rfl, h⟩
theorem tuple_mul (l : Addr) (items : Array Value) (n : Nat) {dd : Option Addr} {sl : Array (Option Value)} (x : Int) (u : Tok) (hc0 : ¬ (decide (x < -(2 ^ 63)) || decide (x ≥ 2 ^ 63)) = true) (hc1 : ¬ (items.isEmpty || x == 1) = true) (hc2 : ¬ (decide (x ≤ 0) || items.isEmpty) = true) (hc3 : ¬ ((items.size : Int) * x > (2 ^ 63 - 1) / 8)) (hc4 : ¬ PySem.Builtin.Tuple.tupleTooMany ((items.size : Int) * x) = true)
    (hsz : (List.foldl (fun x1 x2 => x1 ++ x2) #[] (List.replicate x.toNat items)).size ≤ sizeLine) :
    Meets (PySem.Builtin.«tuple.__mul__» ⟨[.ref l, .int x u], []⟩) (fun _ R s => s.heap.get? l = some { cls := .type "tuple", dict := dd, data := .seq items n, slots := sl } ∧ R (.ok (.ret (Value.ref s.heap.objs.size))) { s with heap := s.heap.push { cls := Value.type "tuple", data := Data.seq (List.foldl (fun x1 x2 => x1 ++ x2) #[] (List.replicate x.toNat items)) }, toks := s.toks }) :=
  .of_wp fun prog w A R s h => by
    obtain ⟨hp, g, d, tk, os⟩ := s; obtain ⟨hl, h⟩ := h
    wp_walk; refine wpAny_ite_false (decide_eq_false hc0) ?_
    wp_walk; refine wpAny_ite_false (decide_eq_false hc3) ?_
    wp_walk; exact ⟨_, rfl, h⟩
/-- t * k of a tuple that is not empty, k above 1 -/
def rRepT (K : PySem.W.Frag) : R2 := fun x y H Q => ∃ l k xs, x = .ref l ∧ y = .int k ∧ SqT K H l xs ∧ xs ≠ [] ∧ 2 ≤ k ∧ k < 2 ^ 60 ∧ xs.length * k.toNat ≤ sizeLine ∧ ∀ p, H p = none → Q (.ref p) (upd H p (.tup (List.replicate k.toNat xs).flatten))
theorem op_repT {X : Cx} : OpR X (binaryOp .Mult) (rRepT X.K) := by
  intro pins s σ H x y v u Q I rx ry h
  obtain ⟨l, k, xs, rfl, rfl, hs, hne, h1, h2, hz, q⟩ := h
  cases rx
  obtain ⟨t, rfl⟩ := ry
  obtain ⟨its, r, ⟨o, e, hc, n, hd⟩, z⟩ := I.tuple hs
  obtain ⟨cls, dict, data, slots⟩ := o
  simp only at hc hd
  subst hc; subst hd
  have hl := r.length
  have hi0 : its ≠ [] := fun c => hne (by subst c; cases r; rfl)
  have hpos : 0 < its.length := List.length_pos_iff.mpr hi0
  have sl := sizeLine_eq
  have hemp : its.toArray.isEmpty = false := by
    cases its with
    | nil => exact absurd rfl hi0
    | cons a b => rfl
  have hsz0 : its.length * k.toNat ≤ sizeLine := by rw [← hl]; exact hz
  have hmul : (its.length : Int) * k = ((its.length * k.toNat : Nat) : Int) := by
    rw [Int.natCast_mul, Int.toNat_of_nonneg (by omega)]
  have hfold : List.foldl (fun x1 x2 => x1 ++ x2) #[] (List.replicate k.toNat its.toArray) = (List.replicate k.toNat its).flatten.toArray := by
    have := foldl_rep its k.toNat []
    rw [List.nil_append] at this
    exact this
  have hfl : (List.replicate k.toNat its).flatten.length = its.length * k.toNat := by rw [PyProof.Rows.lm_len_rep_flat, Nat.mul_comm]
  have c0 : ¬ (decide (k < -(2 ^ 63)) || decide (k ≥ 2 ^ 63)) = true := by
    simp only [Bool.or_eq_true, decide_eq_true_eq]
    omega
  have c1 : ¬ (its.toArray.isEmpty || k == 1) = true := by
    rw [hemp]
    simp only [Bool.false_or, beq_iff_eq]
    omega
  have c2 : ¬ (decide (k ≤ 0) || its.toArray.isEmpty) = true := by
    rw [hemp]
    simp only [Bool.or_false, decide_eq_true_eq]
    omega
  have c3 : ¬ ((its.toArray.size : Int) * k > (2 ^ 63 - 1) / 8) := by
    rw [List.size_toArray, hmul]
    omega
  have c4 : ¬ PySem.Builtin.Tuple.tupleTooMany ((its.toArray.size : Int) * k) = true := by
    rw [List.size_toArray, hmul]
    simp only [PySem.Builtin.Tuple.tupleTooMany, decide_eq_true_eq]
    omega
  refine wpAny_binaryOp_repeat_ref (T := "tuple") (U := "int") (by decide) ⟨_, e, rfl⟩ (fun s' => typeIs_int s' k t) noFill_tuple_mul F.fills_int_mul F.slot_int_rmul repeat_tuple F.slot_int_index.lookup
    (call_meets F.slot_int_rmul (typeIs_int s k t) F.entry_int_rmul (F.args_int_rmul_2 _ _) (int_rmul_tuple k t l its.toArray n)
      ⟨e, rfl, ⟨_, e, rfl⟩, call_meets F.slot_tuple_mul ⟨_, e, rfl⟩ F.entry_tuple_mul (F.args_tuple_mul_2 _ _) (tuple_mul l its.toArray n k t c0 c1 c2 c3 c4 (by rw [hfold, List.size_toArray, hfl]; exact hsz0)) ⟨e, ?_⟩⟩)
  rw [hfold]
  refine ⟨.ref s.heap.objs.size, _, I.laid (t' := s.toks) (o := .tup (List.replicate k.toNat xs).flatten) (fun b ob q => Heap.get?_push_of_some _ q) (Nat.le_refl _) ?_, rfl, q _ (I.hok.fresh (Nat.le_refl _))⟩
  exact ⟨by rw [PyProof.Rows.lm_len_rep_flat, Nat.mul_comm]; exact hz, _, r.rep k.toNat, IsTup.new _ _⟩
abbrev D := PyData

/-! ### heaps and what they hold -/
structure Ext (F H F' H' : Hp) : Prop where
  ff : Same F F'
  fh : Same F' H'
  hh : Same H H'
  fr : ∀ a, F a = none → H a ≠ none → F' a = none
theorem Ext.refl {F H : Hp} (h : Same F H) : Ext F H F H := ⟨Same.refl _, h, Same.refl _, fun _ e _ => e⟩
theorem Ext.trans {F H F1 H1 F2 H2 : Hp} (a : Ext F H F1 H1) (b : Ext F1 H1 F2 H2) : Ext F H F2 H2 :=
  ⟨a.ff.trans b.ff, b.fh, a.hh.trans b.hh, fun x e n => b.fr x (a.fr x e n) fun z => by
    cases q : H x with
    | none => exact n q
    | some o => rw [a.hh x o q] at z; cases z⟩
theorem same_new {H : Hp} {p : Addr} {o : HO} (h : H p = none) : Same H (upd H p o) := fun b x e => by
  rw [upd_ne (ne_of_none e h)]; exact e
/-- a new object, known at once -/
theorem Ext.new {F H : Hp} (h : Same F H) {p : Addr} {o : HO} (hp : H p = none) : Ext F H (upd F p o) (upd H p o) := by
  have fp : F p = none := h.free hp
  refine ⟨same_new fp, fun b x e => ?_, same_new hp, fun a e n => ?_⟩
  · by_cases hb : b = p
    · subst hb; rw [upd_same] at e ⊢; exact e
    · rw [upd_ne hb] at e ⊢; exact h b x e
  · have : a ≠ p := fun z => n (z ▸ hp)
    rw [upd_ne this]; exact e
/-- a new object that the known part does not know -/
theorem Ext.loose {F H : Hp} (h : Same F H) {p : Addr} {o : HO} (hp : H p = none) : Ext F H F (upd H p o) :=
  ⟨Same.refl _, h.trans (same_new hp), same_new hp, fun _ e _ => e⟩
section
variable {K : PySem.W.Frag} {F F' H : Hp}
theorem sqL_mono {a : Addr} {xs : List V} (e : Same F F') (h : SqL K F a xs) : SqL K F' a xs := e.seq h
theorem sqT_mono {a : Addr} {xs : List V} (e : Same F F') (h : SqT K F a xs) : SqT K F' a xs := by
  rcases h with (h | ⟨o, h⟩) | h
  · exact .inl (.inl (e _ _ h))
  · exact .inl (.inr ⟨o, e _ _ h⟩)
  · exact .inr h
end
mutual
/-- what data a value is in a heap; a read-only list of ints (the script) is told by a dict's form -/
inductive En (K : PySem.W.Frag) (F : Hp) : V → D → Prop
  | non : En K F .non .none
  | bl (b : Bool) : En K F (.bl b) (.bool b)
  | int (i : Int) : En K F (.int i) (.int i)
  | str (x : Str) : En K F (.str x) (.str x)
  | lst {a : Addr} {xs : List V} {ds : List D} : F a = some (.lst xs) → EnAll K F xs ds → En K F (.ref a) (.list ds)
  | tup {a : Addr} {xs : List V} {ds : List D} : SqT K F a xs → EnAll K F xs ds → En K F (.ref a) (.tuple ds)
  | scr {a : Addr} {ns : List Int} : SqL K F a (ns.map V.int) → En K F (.ref a) (.dict [(.none, .list (ns.map PyData.int))])
inductive EnAll (K : PySem.W.Frag) (F : Hp) : List V → List D → Prop
  | nil : EnAll K F [] []
  | cons {v : V} {vs : List V} {d : D} {ds : List D} : En K F v d → EnAll K F vs ds → EnAll K F (v :: vs) (d :: ds)
end
section
variable {K : PySem.W.Frag} {F F' H : Hp}
mutual
theorem en_mono (e : Same F F') : ∀ (d : D) (v : V), En K F v d → En K F' v d
  | .none, _, h => by cases h; exact .non
  | .bool b, _, h => by cases h; exact .bl b
  | .int i, _, h => by cases h; exact .int i
  | .str x, _, h => by cases h; exact .str x
  | .list ds, _, h => by
    cases h with
    | lst hs ha => exact .lst (e _ _ hs) (enAll_mono e ds _ ha)
  | .tuple ds, _, h => by
    cases h with
    | tup hs ha => exact .tup (sqT_mono e hs) (enAll_mono e ds _ ha)
  | .dict _, _, h => by
    cases h with
    | scr hs => exact .scr (sqL_mono e hs)
theorem enAll_mono (e : Same F F') : ∀ (ds : List D) (vs : List V), EnAll K F vs ds → EnAll K F' vs ds
  | [], _, h => by cases h; exact .nil
  | d :: ds, _, h => by
    cases h with
    | cons h1 h2 => exact .cons (en_mono e d _ h1) (enAll_mono e ds _ h2)
end
mutual
theorem en_dp : ∀ (d : D) (v : V), d.canLay0 = true → En K F v d → Dp K F v d
  | .none, _, _, h => by cases h; exact .non
  | .bool b, _, _, h => by cases h; exact .bl b
  | .int i, _, _, h => by cases h; exact .int i
  | .str x, _, _, h => by cases h; exact .str x
  | .list ds, _, c, h => by
    cases h with
    | lst hs ha => exact .lst (SqL.of hs) (enAll_dp ds _ (by simpa [PyData.canLay0] using c) ha)
  | .tuple ds, _, c, h => by
    cases h with
    | tup hs ha => exact .tup hs (enAll_dp ds _ (by simpa [PyData.canLay0] using c) ha)
  | .dict _, _, c, h => by simp [PyData.canLay0] at c
theorem enAll_dp : ∀ (ds : List D) (vs : List V), PyData.canLayAll0 ds = true → EnAll K F vs ds → DpAll K F vs ds
  | [], _, _, h => by cases h; exact .nil
  | d :: ds, _, c, h => by
    have c' : d.canLay0 = true ∧ PyData.canLayAll0 ds = true := by simpa [PyData.canLayAll0] using c
    cases h with
    | cons h1 h2 => exact .cons (en_dp d _ c'.1 h1) (enAll_dp ds _ c'.2 h2)
end
theorem En.dp {v : V} {d : D} (h : En K F v d) (c : d.canLay0 = true) : Dp K F v d := en_dp d v c h
theorem En.up {v : V} {d : D} (h : En K F v d) (e : Same F F') : En K F' v d := en_mono e d v h
theorem EnAll.up {v : List V} {d : List D} (h : EnAll K F v d) (e : Same F F') : EnAll K F' v d := enAll_mono e d v h
theorem EnAll.length {vs : List V} {ds : List D} : EnAll K F vs ds → vs.length = ds.length := by
  intro h
  induction ds generalizing vs with
  | nil => cases h; rfl
  | cons d ds ih => cases h with
    | cons h1 h2 => simp [ih h2]
theorem EnAll.append {vs ws : List V} {ds es : List D} (h : EnAll K F vs ds) (k : EnAll K F ws es) : EnAll K F (vs ++ ws) (ds ++ es) := by
  induction ds generalizing vs with
  | nil => cases h; exact k
  | cons d ds ih => cases h with
    | cons h1 h2 => exact .cons h1 (ih h2)
theorem EnAll.drop {vs : List V} {ds : List D} (n : Nat) (h : EnAll K F vs ds) : EnAll K F (vs.drop n) (ds.drop n) := by
  induction ds generalizing vs n with
  | nil => cases h; simp; exact .nil
  | cons d ds ih => cases h with
    | cons h1 h2 => cases n with
      | zero => exact .cons h1 h2
      | succ n => exact ih n h2
theorem EnAll.take {vs : List V} {ds : List D} (n : Nat) (h : EnAll K F vs ds) : EnAll K F (vs.take n) (ds.take n) := by
  induction ds generalizing vs n with
  | nil => cases h; simp; exact .nil
  | cons d ds ih => cases h with
    | cons h1 h2 => cases n with
      | zero => exact .nil
      | succ n => exact .cons h1 (ih n h2)
theorem EnAll.reverse {vs : List V} {ds : List D} (h : EnAll K F vs ds) : EnAll K F vs.reverse ds.reverse := by
  induction ds generalizing vs with
  | nil => cases h; exact .nil
  | cons d ds ih => cases h with
    | cons h1 h2 => rw [List.reverse_cons, List.reverse_cons]; exact (ih h2).append (.cons h1 .nil)
theorem EnAll.get {vs : List V} {ds : List D} (h : EnAll K F vs ds) {i : Nat} {d : D} (e : ds[i]? = some d) : ∃ v, vs[i]? = some v ∧ En K F v d := by
  induction ds generalizing vs i with
  | nil => simp at e
  | cons d0 ds ih => cases h with
    | cons h1 h2 => cases i with
      | zero => simp at e; subst e; exact ⟨_, rfl, h1⟩
      | succ i => simp at e; obtain ⟨v, q, r⟩ := ih h2 e; exact ⟨v, by simpa using q, r⟩
theorem EnAll.getV {vs : List V} {ds : List D} (h : EnAll K F vs ds) {i : Nat} {v : V} (e : vs[i]? = some v) : ∃ d, ds[i]? = some d ∧ En K F v d := by
  have hl := h.length
  have hi : i < vs.length := (List.getElem?_eq_some_iff.mp e).1
  have hd : ds[i]? = some ds[i] := List.getElem?_eq_getElem (by omega)
  obtain ⟨w, e2, q⟩ := h.get hd
  rw [e] at e2; cases e2
  exact ⟨_, hd, q⟩
theorem EnAll.set {vs : List V} {ds : List D} {v : V} {d : D} (h : EnAll K F vs ds) (q : En K F v d) (i : Nat) : EnAll K F (vs.set i v) (ds.set i d) := by
  induction ds generalizing vs i with
  | nil => cases h; simp; exact .nil
  | cons d0 ds ih => cases h with
    | cons h1 h2 => cases i with
      | zero => exact .cons q h2
      | succ i => exact .cons h1 (ih h2 i)
theorem EnAll.ints {vs : List V} {ns : List Int} (h : EnAll K F vs (ns.map PyData.int)) : vs = ns.map V.int := by
  induction ns generalizing vs with
  | nil => cases h; rfl
  | cons n ns ih => cases h with
    | cons h1 h2 => cases h1; rw [ih h2]; rfl
theorem enAll_ints (ns : List Int) : EnAll K F (ns.map V.int) (ns.map PyData.int) := by
  induction ns with
  | nil => exact .nil
  | cons n ns ih => exact .cons (.int n) ih
theorem EnAll.cut {vs : List V} {ds : List D} (h : EnAll K F vs ds) (lo hi : Option Int) : EnAll K F (cutV vs lo hi) ((ds.drop (HT.sIx ds.length 0 lo)).take (HT.sIx ds.length ds.length hi - HT.sIx ds.length 0 lo)) := by
  unfold cutV
  rw [h.length]
  exact (h.drop _).take _
end

/-! ### data operations -/
def isInt? : D → Option Int
  | .int i => some i
  | _ => none
def ints? : List D → Option (List Int)
  | [] => some []
  | .int i :: r => (ints? r).map (i :: ·)
  | _ => none
theorem ints?_eq : ∀ {ds : List D} {ns : List Int}, ints? ds = some ns → ds = ns.map PyData.int
  | [], ns, h => by cases h; rfl
  | .int i :: r, ns, h => by
    unfold ints? at h
    cases q : ints? r with
    | none => rw [q] at h; cases h
    | some m =>
      rw [q] at h
      cases h
      rw [ints?_eq q]; rfl
  | .none :: _, _, h => by cases h
  | .bool _ :: _, _, h => by cases h
  | .str _ :: _, _, h => by cases h
  | .list _ :: _, _, h => by cases h
  | .tuple _ :: _, _, h => by cases h
  | .dict _ :: _, _, h => by cases h
@[simp] theorem ints?_map : ∀ (ns : List Int), ints? (ns.map PyData.int) = some ns
  | [] => rfl
  | n :: r => by
    show (ints? (r.map PyData.int)).map (n :: ·) = some (n :: r)
    rw [ints?_map r]; rfl

inductive O2 where
  | add | sub | mul | fdiv | mod | pow | shl | shr | band | bor | eq | ne | lt | le | gt | ge | isin | notin | is | isnot
  deriving DecidableEq
def eqOk (d e : D) : Bool := PyData.canLay0 d && PyData.canLay0 e && decide (d.depth ≤ 64) && decide (e.depth ≤ 64)
def mulOk (i j : Int) : Bool := decide (i.natAbs.log2 + j.natAbs.log2 < 1000000)
@[simp] def addD : D → D → Option D
  | .int i, .int j => some (.int (i + j))
  | .str x, .str y => if x.length + y.length ≤ sizeLine then some (.str (x ++ y)) else none
  | .list xs, .list ys => if xs.length + ys.length ≤ sizeLine then some (.list (xs ++ ys)) else none
  | .tuple xs, .tuple ys => if xs.length + ys.length ≤ sizeLine ∧ xs ≠ [] then some (.tuple (xs ++ ys)) else none
  | _, _ => none
@[simp] def mulD : D → D → Option D
  | .int i, .int j => if mulOk i j then some (.int (i * j)) else none
  | .list xs, .int k => if k.natAbs < 2 ^ 62 ∧ xs.length * k.toNat ≤ sizeLine then some (.list (List.replicate k.toNat xs).flatten) else none
  | .tuple xs, .int k => if 2 ≤ k ∧ k.natAbs < 2 ^ 60 ∧ 0 < xs.length ∧ xs.length * k.toNat ≤ sizeLine then some (.tuple (List.replicate k.toNat xs).flatten) else none
  | _, _ => none
@[simp] def int2 (f : Int → Int → Option D) : D → D → Option D
  | .int i, .int j => f i j
  | _, _ => none
def dvOk (j : Int) : Bool := decide (j ≠ 0 ∧ j.natAbs.log2 < 9000)
def powOk (i j : Int) : Bool := decide (0 ≤ j) && decide (j ≤ 1000000) && decide (i.natAbs < 2 ^ 64)
@[simp] def isD : D → D → Option Bool
  | x, .none => some (match x with | .none => true | _ => false)
  | .bool a, .bool b => some (a == b)
  | .none, .bool _ => some false
  | .int _, .bool _ => some false
  | .list _, .bool _ => some false
  | .tuple _, .bool _ => some false
  | .str _, .bool _ => some false
  | _, _ => none
def inD : D → D → Option Bool
  | d, .list ds => if SeqAt.shaped d && SeqAt.shaped (.list ds) then some (ds.any fun z => PyData.eqv z d) else none
  | _, _ => none
@[simp] def ltD (f : Int → Int → Bool) : D → D → Option D
  | .int i, .int j => some (.bool (f i j))
  | _, _ => none
@[simp] def o2D : O2 → D → D → Option D
  | .add => addD
  | .sub => int2 fun i j => some (.int (i - j))
  | .mul => mulD
  | .fdiv => int2 fun i j => if dvOk j then some (.int (i.fdiv j)) else none
  | .mod => int2 fun i j => if j ≠ 0 then some (.int (i.fmod j)) else none
  | .pow => int2 fun i j => if powOk i j then some (.int (i ^ j.toNat)) else none
  | .shl => int2 fun i j => if powOk i j then some (.int (i * 2 ^ j.toNat)) else none
  | .shr => int2 fun i j => if 0 ≤ j then some (.int (i / 2 ^ j.toNat)) else none
  | .band => int2 fun i j => some (.int (Builtin.bitAnd i j))
  | .bor => int2 fun i j => some (.int (Builtin.bitOr i j))
  | .eq => fun d e => if eqOk d e then some (.bool (PyData.eqv d e)) else none
  | .ne => fun d e => if eqOk d e then some (.bool (!PyData.eqv d e)) else none
  | .lt => ltD fun i j => decide (i < j)
  | .le => ltD fun i j => decide (i ≤ j)
  | .gt => ltD fun i j => decide (j < i)
  | .ge => ltD fun i j => decide (j ≤ i)
  | .isin => fun d e => (inD d e).map .bool
  | .notin => fun d e => (inD d e).map fun b => .bool (!b)
  | .is => fun d e => (isD d e).map .bool
  | .isnot => fun d e => (isD d e).map fun b => .bool (!b)

/-- a relation of values, by data: what is wanted of the answer -/
def Wd (K : PySem.W.Frag) (F H : Hp) (d : D) (Q : VK) : Prop := ∀ v H' F', Ext F H F' H' → En K F' v d → Q v H'
theorem Wd.now {K : PySem.W.Frag} {F H : Hp} {d : D} {Q : VK} (w : Wd K F H d Q) (e : Same F H) {v : V} (h : En K F v d) : Q v H := w v H F (Ext.refl e) h
theorem Wd.lst {K : PySem.W.Frag} {F H : Hp} {ds : List D} {Q : VK} (w : Wd K F H (.list ds) Q) (e : Same F H) {vs : List V} (h : EnAll K F vs ds) {p : Addr} (hp : H p = none) : Q (.ref p) (upd H p (.lst vs)) :=
  w _ _ _ (Ext.new e hp) (.lst upd_same (EnAll.up h (same_new (e.free hp))))
theorem Wd.tup {K : PySem.W.Frag} {F H : Hp} {ds : List D} {Q : VK} (w : Wd K F H (.tuple ds) Q) (e : Same F H) {vs : List V} (h : EnAll K F vs ds) {p : Addr} (hp : H p = none) : Q (.ref p) (upd H p (.tup vs)) :=
  w _ _ _ (Ext.new e hp) (.tup (SqT.of upd_same) (EnAll.up h (same_new (e.free hp))))

/-- two-place operations by data -/
def rD2 (K : PySem.W.Frag) (f : D → D → Option D) : R2 := fun x y H Q => ∃ F dx dy d, Same F H ∧ En K F x dx ∧ En K F y dy ∧ f dx dy = some d ∧ Wd K F H d Q
theorem _root_.L2.OpR.weak {X : Cx} {f : Value → Value → Sem Value} {r r' : R2} (h : OpR X f r) (k : ∀ x y H Q, r' x y H Q → r x y H Q) : OpR X f r' :=
  fun pins s σ H x y v u Q I rx ry q => h pins s σ H x y v u Q I rx ry (k x y H Q q)
section
variable {X : Cx}
theorem op_of_int {o : Value → Value → Sem Value} {C : Int → Int → Prop} {g : Int → Int → V} {f : Int → Int → Option D} (h : OpR X o (rI C g))
    (k : ∀ i j d, f i j = some d → C i j ∧ ∀ F, En X.K F (g i j) d) : OpR X o (rD2 X.K (int2 f)) := by
  refine OpR.weak h fun x y H Q q => ?_
  obtain ⟨F, dx, dy, d, e, hx, hy, hf, w⟩ := q
  unfold int2 at hf
  split at hf
  · cases hx; cases hy
    obtain ⟨c, g'⟩ := k _ _ _ hf
    exact ⟨_, _, rfl, rfl, c, w.now e (g' F)⟩
  · cases hf
theorem op_addD : OpR X (binaryOp .Add) (rD2 X.K addD) := by
  refine OpR.weak (OpR.or (OpR.or (op_add (X := X)) op_add_str) (OpR.or op_cat op_catT)) fun x y H Q q => ?_
  obtain ⟨F, dx, dy, d, e, hx, hy, hf, w⟩ := q
  unfold addD at hf
  split at hf
  · cases hx; cases hy; cases hf
    exact .inl (.inl ⟨_, _, rfl, rfl, w.now e (.int _)⟩)
  · cases hx; cases hy
    split at hf
    · cases hf
      exact .inl (.inr ⟨_, _, rfl, rfl, by assumption, w.now e (.str _)⟩)
    · cases hf
  · split at hf
    · cases hf
      rename_i hz
      cases hx with | lst hs ha => cases hy with | lst hs' ha' =>
      refine .inr (.inl ⟨_, _, _, _, rfl, rfl, e _ _ hs, e _ _ hs', by rw [ha.length, ha'.length]; exact hz, fun p hp => w.lst e (ha.append ha') hp⟩)
    · cases hf
  · split at hf
    · cases hf
      rename_i hz
      cases hx with | tup hs ha => cases hy with | tup hs' ha' =>
      refine .inr (.inr ⟨_, _, _, _, rfl, rfl, sqT_mono e hs, sqT_mono e hs', ?_, by rw [ha.length, ha'.length]; exact hz.1, fun z => ?_, fun _ p hp => w.tup e (ha.append ha') hp⟩)
      · intro z
        subst z
        cases ha
        exact hz.2 rfl
      · subst z
        cases ha'
        refine w.now e ?_
        rw [List.append_nil]
        exact .tup hs ha
    · cases hf
  · cases hf
theorem EnAll.rep {K : PySem.W.Frag} {F : Hp} {vs : List V} {ds : List D} (h : EnAll K F vs ds) : ∀ n : Nat, EnAll K F (List.replicate n vs).flatten (List.replicate n ds).flatten
  | 0 => by simp; exact .nil
  | n + 1 => by
    rw [List.replicate_succ, List.replicate_succ, List.flatten_cons, List.flatten_cons]
    exact h.append (EnAll.rep h n)
theorem op_mulD : OpR X (binaryOp .Mult) (rD2 X.K mulD) := by
  refine OpR.weak (OpR.or (OpR.or (op_mulW (X := X)) op_rep) op_repT) fun x y H Q q => ?_
  obtain ⟨F, dx, dy, d, e, hx, hy, hf, w⟩ := q
  unfold mulD at hf
  split at hf
  · cases hx; cases hy
    split at hf
    · rename_i hm
      cases hf
      exact .inl (.inl ⟨_, _, rfl, rfl, (by simp only [mulOk, decide_eq_true_eq] at hm; exact hm), w.now e (.int _)⟩)
    · cases hf
  · split at hf
    · rename_i hm
      cases hf
      cases hy
      cases hx with | lst hs ha =>
      refine .inl (.inr ⟨_, _, _, rfl, rfl, e _ _ hs, by have := hm.1; omega, by have := hm.1; omega, by rw [ha.length]; exact hm.2, fun p hp => w.lst e (ha.rep _) hp⟩)
    · cases hf
  · split at hf
    · rename_i hm
      cases hf
      cases hy
      cases hx with | tup hs ha =>
      refine .inr ⟨_, _, _, rfl, rfl, sqT_mono e hs, ?_, hm.1, by have := hm.2.1; omega, by rw [ha.length]; exact hm.2.2.2, fun p hp => w.tup e (ha.rep _) hp⟩
      intro c
      have h0 := ha.length
      rw [c] at h0
      have := hm.2.2.1
      simp only [List.length_nil] at h0
      omega
    · cases hf
  · cases hf
theorem op_fdivD : OpR X (binaryOp .FloorDiv) (rD2 X.K (o2D .fdiv)) :=
  op_of_int (C := fun i j => j ≠ 0 ∧ j.natAbs.log2 < 9000) (g := fun i j => .int (i.fdiv j)) (opI fun i j _ _ _ _ _ hc q => floordiv_int hc.1 q (.inl (PyProof.noPylong_of_log2 hc.2))) fun i j d h => by
    split at h
    · rename_i hc; cases h; exact ⟨of_decide_eq_true hc, fun _ => .int _⟩
    · cases h
theorem op_modD : OpR X (binaryOp .Mod) (rD2 X.K (o2D .mod)) :=
  op_of_int op_modN fun i j d h => by
    split at h
    · rename_i hc; cases h; exact ⟨hc, fun _ => .int _⟩
    · cases h
theorem rI0_rI {g : Int → Int → V} {o : Value → Value → Sem Value} (h : OpR X o (rI0 g)) : OpR X o (rI (fun _ _ => True) g) :=
  OpR.weak h fun x y H Q ⟨i, j, a, b, _, q⟩ => ⟨i, j, a, b, q⟩
theorem op_subD : OpR X (binaryOp .Sub) (rD2 X.K (o2D .sub)) :=
  op_of_int (rI0_rI op_sub) fun i j d h => by cases h; exact ⟨trivial, fun _ => .int _⟩
theorem op_powD : OpR X (binaryOp .Pow) (rD2 X.K (o2D .pow)) :=
  op_of_int op_pow fun i j d h => by
    split at h
    · rename_i hc
      cases h
      unfold powOk at hc
      simp only [Bool.and_eq_true, decide_eq_true_eq] at hc
      exact ⟨⟨hc.1.1, hc.1.2, hc.2⟩, fun _ => .int _⟩
    · cases h
theorem op_shlD : OpR X (binaryOp .LShift) (rD2 X.K (o2D .shl)) :=
  op_of_int op_shl fun i j d h => by
    split at h
    · rename_i hc
      cases h
      unfold powOk at hc
      simp only [Bool.and_eq_true, decide_eq_true_eq] at hc
      exact ⟨⟨hc.1.1, hc.1.2, hc.2⟩, fun _ => .int _⟩
    · cases h
theorem op_shrD : OpR X (binaryOp .RShift) (rD2 X.K (o2D .shr)) :=
  op_of_int op_shr fun i j d h => by
    split at h
    · rename_i hc; cases h; exact ⟨hc, fun _ => .int _⟩
    · cases h
theorem op_bandD : OpR X (binaryOp .BitAnd) (rD2 X.K (o2D .band)) :=
  op_of_int (rI0_rI op_and) fun i j d h => by cases h; exact ⟨trivial, fun _ => .int _⟩
theorem op_borD : OpR X (binaryOp .BitOr) (rD2 X.K (o2D .bor)) :=
  op_of_int (rI0_rI op_or) fun i j d h => by cases h; exact ⟨trivial, fun _ => .int _⟩
theorem ltD_int2 (f : Int → Int → Bool) : ltD f = int2 fun i j => some (.bool (f i j)) := by
  funext d e
  unfold ltD int2
  split <;> rfl
theorem op_ltD : OpR X (compareOp .Lt) (rD2 X.K (o2D .lt)) := by
  show OpR X _ (rD2 X.K (ltD _)); rw [ltD_int2]
  exact op_of_int (rI0_rI op_lt) fun i j d h => by cases h; exact ⟨trivial, fun _ => .bl _⟩
theorem op_leD : OpR X (compareOp .LtE) (rD2 X.K (o2D .le)) := by
  show OpR X _ (rD2 X.K (ltD _)); rw [ltD_int2]
  exact op_of_int (rI0_rI op_le) fun i j d h => by cases h; exact ⟨trivial, fun _ => .bl _⟩
theorem op_gtD : OpR X (compareOp .Gt) (rD2 X.K (o2D .gt)) := by
  show OpR X _ (rD2 X.K (ltD _)); rw [ltD_int2]
  exact op_of_int (rI0_rI op_gt) fun i j d h => by cases h; exact ⟨trivial, fun _ => .bl _⟩
theorem op_geD : OpR X (compareOp .GtE) (rD2 X.K (o2D .ge)) := by
  show OpR X _ (rD2 X.K (ltD _)); rw [ltD_int2]
  exact op_of_int (rI0_rI op_ge) fun i j d h => by cases h; exact ⟨trivial, fun _ => .bl _⟩
theorem shaped_of {d e : D} (h : eqOk d e = true) : SeqAt.shaped d = true ∧ SeqAt.shaped e = true := by
  unfold eqOk at h
  unfold SeqAt.shaped
  simp only [Bool.and_eq_true] at h ⊢
  exact ⟨⟨h.1.1.1, h.1.2⟩, ⟨h.1.1.2, h.2⟩⟩
theorem op_eqDD (hu : X.A.units + 64 < cLine) : OpR X (compareOp .Eq) (rD2 X.K (o2D .eq)) := by
  refine OpR.weak (op_eqD hu) fun x y H Q q => ?_
  obtain ⟨F, dx, dy, d, e, hx, hy, hf, w⟩ := q
  have hf' : (if eqOk dx dy then some (PyData.bool (PyData.eqv dx dy)) else none) = some d := hf
  split at hf'
  · rename_i hq
    cases hf'
    obtain ⟨s1, s2⟩ := shaped_of hq
    exact ⟨dx, dy, (En.up hx e).dp (SeqAt.canLay_of_shaped s1), (En.up hy e).dp (SeqAt.canLay_of_shaped s2), s1, s2, w.now e (.bl _)⟩
  · cases hf'
theorem op_neDD (hu : X.A.units + 64 < cLine) : OpR X (compareOp .NotEq) (rD2 X.K (o2D .ne)) := by
  refine OpR.weak (op_neD hu) fun x y H Q q => ?_
  obtain ⟨F, dx, dy, d, e, hx, hy, hf, w⟩ := q
  have hf' : (if eqOk dx dy then some (PyData.bool (!PyData.eqv dx dy)) else none) = some d := hf
  split at hf'
  · rename_i hq
    cases hf'
    obtain ⟨s1, s2⟩ := shaped_of hq
    exact ⟨dx, dy, (En.up hx e).dp (SeqAt.canLay_of_shaped s1), (En.up hy e).dp (SeqAt.canLay_of_shaped s2), s1, s2, w.now e (.bl _)⟩
  · cases hf'
theorem op_inDD (hu : X.A.units + 65 < cLine) : OpR X (compareOp .In) (rD2 X.K (o2D .isin)) := by
  refine OpR.weak (op_inD hu) fun x y H Q q => ?_
  obtain ⟨F, dx, dy, d, e, hx, hy, hf, w⟩ := q
  have hf' : (inD dx dy).map PyData.bool = some d := hf
  unfold inD at hf'
  split at hf'
  · split at hf'
    · rename_i hq
      rw [Bool.and_eq_true] at hq
      cases hf'
      exact ⟨dx, _, (En.up hx e).dp (SeqAt.canLay_of_shaped hq.1), (En.up hy e).dp (SeqAt.canLay_of_shaped hq.2), hq.1, hq.2, w.now e (.bl _)⟩
    · cases hf'
  · cases hf'
theorem op_notinDD (hu : X.A.units + 65 < cLine) : OpR X (compareOp .NotIn) (rD2 X.K (o2D .notin)) := by
  refine OpR.weak (op_notInD hu) fun x y H Q q => ?_
  obtain ⟨F, dx, dy, d, e, hx, hy, hf, w⟩ := q
  have hf' : ((inD dx dy).map fun b => PyData.bool (!b)) = some d := hf
  unfold inD at hf'
  split at hf'
  · split at hf'
    · rename_i hq
      rw [Bool.and_eq_true] at hq
      cases hf'
      exact ⟨dx, _, (En.up hx e).dp (SeqAt.canLay_of_shaped hq.1), (En.up hy e).dp (SeqAt.canLay_of_shaped hq.2), hq.1, hq.2, w.now e (.bl _)⟩
    · cases hf'
  · cases hf'
/-- x is b, b a bool, x no bool -/
theorem no_bool {x : V} {v : Value} (rx : RelV x v) (hx : ∀ c, x ≠ .bl c) (b : Bool) : plainIs v (.bool b) = true ∧ v ≠ .bool b := by
  cases x with
  | bl c => exact absurd rfl (hx c)
  | non => cases rx; exact ⟨rfl, fun z => nomatch z⟩
  | int _ => obtain ⟨_, e⟩ := rx; subst e; exact ⟨rfl, fun z => nomatch z⟩
  | str _ => obtain ⟨_, e⟩ := rx; subst e; exact ⟨rfl, fun z => nomatch z⟩
  | byt _ => obtain ⟨_, e⟩ := rx; subst e; exact ⟨rfl, fun z => nomatch z⟩
  | flt _ => obtain ⟨_, e⟩ := rx; subst e; exact ⟨rfl, fun z => nomatch z⟩
  | ref _ => cases rx; exact ⟨rfl, fun z => nomatch z⟩
  | ty _ => cases rx; exact ⟨rfl, fun z => nomatch z⟩
theorem op_isOther : OpR X (compareOp .Is) (fun x y H Q => ∃ b, y = .bl b ∧ (∀ c, x ≠ .bl c) ∧ Q (.bl false) H) := by
  intro pins s σ H x y v u Q I rx ry h
  obtain ⟨b, rfl, hx, q⟩ := h
  cases (show u = Value.bool b from ry)
  obtain ⟨h1, h2⟩ := no_bool rx hx b
  exact wpAny_is_other h1 h2 ⟨.bl false, H, I, rfl, q⟩
theorem op_isnotOther : OpR X (compareOp .IsNot) (fun x y H Q => ∃ b, y = .bl b ∧ (∀ c, x ≠ .bl c) ∧ Q (.bl true) H) := by
  intro pins s σ H x y v u Q I rx ry h
  obtain ⟨b, rfl, hx, q⟩ := h
  cases (show u = Value.bool b from ry)
  obtain ⟨h1, h2⟩ := no_bool rx hx b
  exact wpAny_isNot_other h1 h2 ⟨.bl true, H, I, rfl, q⟩
theorem op_isD : OpR X (compareOp .Is) (rD2 X.K (o2D .is)) := by
  refine OpR.weak (OpR.or (op_isN (X := X)) (OpR.or op_isBl op_isOther)) fun x y H Q q => ?_
  obtain ⟨F, dx, dy, d, e, hx, hy, hf, w⟩ := q
  have hf' : (isD dx dy).map PyData.bool = some d := hf
  unfold isD at hf'
  split at hf'
  · cases hy
    cases hf'
    refine .inl ⟨rfl, ?_⟩
    cases hx <;> exact w.now e (.bl _)
  · cases hx; cases hy; cases hf'
    exact .inr (.inl ⟨_, _, rfl, rfl, by rw [← Bool.beq_eq_decide_eq]; exact w.now e (.bl _)⟩)
  all_goals first
    | (cases hx; cases hy; cases hf'; exact .inr (.inr ⟨_, rfl, (fun c z => nomatch z), w.now e (.bl _)⟩))
    | cases hf'
theorem op_isnotD : OpR X (compareOp .IsNot) (rD2 X.K (o2D .isnot)) := by
  refine OpR.weak (OpR.or (op_notN (X := X)) (OpR.or op_notBl op_isnotOther)) fun x y H Q q => ?_
  obtain ⟨F, dx, dy, d, e, hx, hy, hf, w⟩ := q
  have hf' : ((isD dx dy).map fun b => PyData.bool (!b)) = some d := hf
  unfold isD at hf'
  split at hf'
  · cases hy
    cases hf'
    refine .inl ⟨rfl, ?_⟩
    cases hx <;> exact w.now e (.bl _)
  · cases hx; cases hy; cases hf'
    exact .inr (.inl ⟨_, _, rfl, rfl, by rw [← Bool.beq_eq_decide_eq]; exact w.now e (.bl _)⟩)
  all_goals first
    | (cases hx; cases hy; cases hf'; exact .inr (.inr ⟨_, rfl, (fun c z => nomatch z), w.now e (.bl _)⟩))
    | cases hf'
end
/-! ### slices with a step -/
/-- xs[lo:hi:st] as a list -/
def pickG {α : Type} (xs : List α) (lo hi st : Option Int) : List α := match sliceBounds lo hi st xs.length with
  | (a, b, c) => (sliceRange a b c).filterMap (xs[·]?)
theorem vals_get {xs : List V} {us : List Value} (h : Vals xs us) : ∀ i : Nat, (xs[i]? = none ∧ us[i]? = none) ∨ ∃ v u, xs[i]? = some v ∧ us[i]? = some u ∧ RelV v u := by
  induction h with
  | nil => exact fun i => Or.inl ⟨by simp, by simp⟩
  | cons r _ ih =>
    intro i
    cases i with
    | zero => exact Or.inr ⟨_, _, rfl, rfl, r⟩
    | succ i => simpa using ih i
theorem vals_pick {xs : List V} {us : List Value} (h : Vals xs us) (is : List Nat) : Vals (is.filterMap (xs[·]?)) (is.filterMap (us[·]?)) := by
  induction is with
  | nil => exact .nil
  | cons i r ih =>
    rcases vals_get h i with ⟨e1, e2⟩ | ⟨v, u, e1, e2, e3⟩
    · rw [List.filterMap_cons_none e1, List.filterMap_cons_none e2]; exact ih
    · rw [List.filterMap_cons_some e1, List.filterMap_cons_some e2]; exact .cons e3 ih
theorem slicePick_eq (its : List Value) (lo hi st : Option Int) : slicePick its.toArray lo hi st = (pickG its lo hi st).toArray := by
  unfold slicePick pickG
  simp
/-- xs[lo:hi:st] of a list -/
def tStep (K : PySem.W.Frag) (te : TE) (tl th ts : TO) : TE := fun σ H Q => te σ H fun x H1 => tl σ H1 fun l H2 => th σ H2 fun u H3 => ts σ H3 fun o H4 => ∃ a xs, x = .ref a ∧ SqL K H4 a xs ∧ o ≠ some 0 ∧ (pickG xs l u o).length ≤ sizeLine ∧ ∀ p, H4 p = none → Q (.ref p) (upd H4 p (.lst (pickG xs l u o)))
theorem pe_step {X : Cx} {e st : Expr} {lo hi : Option Expr} {te : TE} {tl th ts : TO} {p2 pos : Pos} (he : PE X e te) (hl : PO X lo tl) (hu : PO X hi th) (hs : PO X (some st) ts) : PE X (.Subscript e (.Slice lo hi (some st) p2) pos) (tStep X.K te tl th ts) := by
  refine ⟨fun pins s σ H Q I h => ?_⟩
  refine Subscript_ (thn (he.run pins s σ H _ I h) fun v s1 ⟨x, H1, I1, r1, q1⟩ => ?_)
  refine wpAny_Slice (thn (hl.run pins s1 σ H1 _ I1 q1) fun vl s2 ⟨l, H2, I2, pl, q2⟩ => ?_)
  refine thn (hu.run pins s2 σ H2 _ I2 q2) fun vu s3 ⟨u, H3, I3, pu, q3⟩ => ?_
  refine thn (hs.run pins s3 σ H3 _ I3 q3) fun vs s4 ⟨o, H4, I4, ps, q4⟩ => ?_
  obtain ⟨a, xs, ex, hx, hn, hz2, q⟩ := q4
  subst ex
  cases r1
  have I5 : Inv X pins σ H4 { s4 with heap := s4.heap.push { cls := .type "slice", data := .fields #[vl, vu, vs] } } := I4.kept (t' := s4.toks) fun b ob q => Heap.get?_push_of_some _ q
  obtain ⟨its, r, ht, hz⟩ := I5.list hx
  have hlen := r.length
  show wpAny (model X.prog X.w) X.A (subscriptTail e (.Slice lo hi (some st) p2) (.ref a) (.ref s4.heap.objs.size)) (EP X pins σ Q) X.xe { s4 with heap := s4.heap.push { cls := .type "slice", data := .fields #[vl, vu, vs] } }
  refine tail_any (ops := [.ref a, .ref s4.heap.objs.size]) ht.isList.typeIs (PySem.slot_list_getitem.lookup) ?_ (by with_unfolding_all rfl)
  refine wpAny_getItem_list_slice ht.isList (Heap.IsSliceOf.new _ vl vu vs) pl pu ps hn ?_ (by rw [List.size_toArray]; omega)
  rw [slicePick_eq]
  refine ⟨.ref _, _, I5.laid (t' := s4.toks) (o := .lst (pickG xs l u o)) (fun b ob q => Heap.get?_push_of_some _ q) (Nat.le_refl _) ?_, rfl, q _ (I5.hok.fresh (Nat.le_refl _))⟩
  refine ⟨hz2, _, 0, ?_, Heap.get?_push_size _ rfl⟩
  unfold pickG
  rw [hlen]
  exact vals_pick r _
theorem EnAll.get? {K : PySem.W.Frag} {F : Hp} {vs : List V} {ds : List D} (h : EnAll K F vs ds) : ∀ i : Nat, (vs[i]? = none ∧ ds[i]? = none) ∨ ∃ v d, vs[i]? = some v ∧ ds[i]? = some d ∧ En K F v d := by
  intro i
  induction i generalizing vs ds with
  | zero =>
    cases h with
    | nil => exact Or.inl ⟨rfl, rfl⟩
    | cons a _ => exact Or.inr ⟨_, _, rfl, rfl, a⟩
  | succ i ih =>
    cases h with
    | nil => exact Or.inl ⟨rfl, rfl⟩
    | cons _ b => simpa using ih b
theorem EnAll.pick {K : PySem.W.Frag} {F : Hp} {vs : List V} {ds : List D} (h : EnAll K F vs ds) (lo hi st : Option Int) : EnAll K F (pickG vs lo hi st) (pickG ds lo hi st) := by
  unfold pickG
  rw [h.length]
  generalize (sliceBounds lo hi st ds.length) = b
  obtain ⟨b1, b2, b3⟩ := b
  show EnAll K F ((sliceRange b1 b2 b3).filterMap (vs[·]?)) ((sliceRange b1 b2 b3).filterMap (ds[·]?))
  induction sliceRange b1 b2 b3 with
  | nil => exact .nil
  | cons i r ih =>
    rcases h.get? i with ⟨e1, e2⟩ | ⟨v, u, e1, e2, e3⟩
    · rw [List.filterMap_cons_none e1, List.filterMap_cons_none e2]; exact ih
    · rw [List.filterMap_cons_some e1, List.filterMap_cons_some e2]; exact .cons e3 ih
end PL
namespace PL
open PySem PySem.Spec PyProof.Rows L2

/-! ### the store -/
inductive Sl where
  | no | val (d : D) | own (ds : List D) | old (d : D) | new (d : D)
abbrev Sto := List Sl
@[simp] def get : Sto → Nat → Sl
  | [], _ => .no
  | s :: _, 0 => s
  | _ :: r, i + 1 => get r i
@[simp] def put : Sto → Nat → Sl → Sto
  | [], _, _ => []
  | _ :: r, 0, x => x :: r
  | s :: r, i + 1, x => s :: put r i x
theorem put_length (x : Sl) : ∀ (st : Sto) (i : Nat), (put st i x).length = st.length
  | [], _ => rfl
  | _ :: _, 0 => rfl
  | s :: r, i + 1 => by
    show (put r i x).length + 1 = r.length + 1
    rw [put_length x r i]
theorem get_put (x : Sl) : ∀ (st : Sto) (i j : Nat), get (put st i x) j = if j = i ∧ i < st.length then x else get st j
  | [], i, j => by simp [put, get]
  | s :: r, 0, 0 => by simp [put, get]
  | s :: r, 0, j + 1 => by simp [put, get]
  | s :: r, i + 1, 0 => by simp [put, get]
  | s :: r, i + 1, j + 1 => by
    show get (put r i x) j = _
    rw [get_put x r i j]
    simp [get]
theorem get_ge : ∀ (st : Sto) (i : Nat), st.length ≤ i → get st i = .no
  | [], _, _ => rfl
  | _ :: r, 0, h => by simp at h
  | _ :: r, i + 1, h => get_ge r i (by simpa using h)
@[simp] def wipeS (st : Sto) : List Nat → Sto
  | [] => st
  | v :: vs => put (wipeS st vs) v .no
@[simp] def fz : Sl → Sl
  | .own ds => .val (.list ds)
  | .no => .no
  | .val d => .val d
  | .old d => .old d
  | .new d => .new d
/-- a slot as it is read, whatever its age -/
@[simp] def vw : Sl → Sl
  | .old d => .val d
  | .new d => .val d
  | .no => .no
  | .val d => .val d
  | .own ds => .own ds
theorem vw_old {s : Sl} {d : D} (h : vw s = .old d) : False := by cases s <;> cases h
theorem vw_new {s : Sl} {d : D} (h : vw s = .new d) : False := by cases s <;> cases h
@[simp] def frzAll (st : Sto) : Sto := st.map fz
theorem get_map : ∀ (st : Sto) (i : Nat), get (frzAll st) i = fz (get st i)
  | [], _ => rfl
  | _ :: _, 0 => rfl
  | _ :: r, i + 1 => get_map r i

/-! ### the language -/
inductive O1 where
  | neg | len | abs | int | sum | max | min | tuple | isI (ty : Str) | repr | str
inductive Tg where
  | name (i : Nat) | tup (is : List Nat)
mutual
inductive Ex where
  | var (i : Nat)
  | lit (d : D)
  | glb (j : Nat)
  | o1 (o : O1) (a : Ex)
  | o2 (o : O2) (a b : Ex)
  | chain (o o' : O2) (a b c : Ex)
  | max2 (a b : Ex)
  | max3 (a b c : Ex)
  | min2 (a b : Ex)
  | not (a : Ex)
  | and (es : Exs)
  | or (es : Exs)
  | ife (c a b : Ex)
  | ix (a b : Ex)
  | ixv (i : Nat) (b : Ex)
  | idx (a b : Ex)
  | slt (a : Ex) (lo hi : Oe)
  | tup (es : Exs)
  | call (j : Nat) (es : Exs)
  | scal (a : Ex)
  | fr (f : Fx)
  | revA (a : Ex)
inductive Exs where
  | nil
  | cons (e : Ex) (es : Exs)
inductive Oe where
  | no
  | yes (e : Ex)
inductive Ir where
  | seq (e : Ex)
  | slot (i : Nat)
  | rng1 (a : Ex)
  | rng2 (a b : Ex)
  | rng3 (a b c : Ex)
  | rvd (e : Ex)
inductive Fx where
  | lst (es : Exs)
  | sl (a : Ex) (lo hi : Oe)
  | slv (i : Nat) (lo hi : Oe)
  | stp (a : Ex) (lo hi : Oe) (s : Ex)
  | listOf (a : Ex)
  | lrg1 (a : Ex)
  | lrg2 (a b : Ex)
  | rev (a : Ex)
  | callF (j : Nat) (es : Exs)
  | lsv (i : Nat)
  | addV (i : Nat) (a : Ex)
  | comp (elt : Ex) (tg : Tg) (it : Ir) (cond : Oe) (ws : List Nat)
end

/-! ### its meaning -/
@[simp] def tyN : D → String
  | .none => "NoneType"
  | .bool _ => "bool"
  | .int _ => "int"
  | .str _ => "str"
  | .list _ => "list"
  | .tuple _ => "tuple"
  | .dict _ => "list"
def strOfS (ty : Str) : String := ty.toString
/-- the greatest of three -/
@[simp] def top3 : D → D → D → Option D
  | .int i, .int j, .int k => some (.int (if k > (if j > i then j else i) then k else (if j > i then j else i)))
  | _, _, _ => none
/-- what `repr` may be asked about -/
def rpOk (d : D) : Bool := d.canLay0 && d.showable && decide (d.depth ≤ 60) && decide (d.shown.length ≤ sizeLine)
@[simp] def o1D : O1 → D → Option D
  | .repr, d => if rpOk d then some (.str d.shown) else none
  | .str, .int i => if decide (i.natAbs.log2 < 1920) then some (.str (toString i : Str)) else none
  | .neg, .int i => some (.int (-i))
  | .len, .list ds => some (.int ds.length)
  | .len, .tuple ds => some (.int ds.length)
  | .len, .str x => if x.length ≤ sizeLine then some (.int x.length) else none
  | .abs, .int i => some (.int (if i < 0 then -i else i))
  | .int, .int i => some (.int i)
  | .int, .bool b => some (.int (if b then 1 else 0))
  | .sum, .list ds => (ints? ds).map fun ns => .int ns.sum
  | .max, .list ds => ((ints? ds).bind fun ns => ns.max?).map .int
  | .min, .list ds => ((ints? ds).bind fun ns => ns.min?).map .int
  | .tuple, .list ds => some (.tuple ds)
  | .tuple, .tuple ds => some (.tuple ds)
  | .isI ty, d => if ty = "int" then (kitB (tyN d) "int").map .bool else if ty = "bool" then (kitB (tyN d) "bool").map .bool else if ty = "str" then (kitB (tyN d) "str").map .bool
    else if ty = "list" then (kitB (tyN d) "list").map .bool else if ty = "tuple" then (kitB (tyN d) "tuple").map .bool else none
  | _, _ => none
@[simp] def ixD : D → D → Option D
  | .list ds, .int i => atI ds i
  | .tuple ds, .int i => atI ds i
  | .str x, .int i => if x.length ≤ sizeLine then (atI x.cps.toList i).map fun c => .str ⟨#[c]⟩ else none
  | _, _ => none
def cutL (ds : List D) (lo hi : Option Int) : List D := (ds.drop (HT.sIx ds.length 0 lo)).take (HT.sIx ds.length ds.length hi - HT.sIx ds.length 0 lo)
@[simp] def isScalar : D → Bool
  | .none => true
  | .bool _ => true
  | .int _ => true
  | .str _ => true
  | _ => false
@[simp] def rdV : Sl → Option D
  | .val d => some d
  | .old d => some d
  | .new d => some d
  | .no => none
  | .own _ => none
@[simp] def bindTg : Tg → D → Sto → Option Sto
  | .name i, d, st => some (put st i (.val d))
  | .tup is, .tuple ds, st => if is.length = ds.length then some ((is.zip ds).foldl (fun s p => put s p.1 (.val p.2)) st) else none
  | .tup is, .list ds, st => if is.length = ds.length then some ((is.zip ds).foldl (fun s p => put s p.1 (.val p.2)) st) else none
  | _, _, _ => none
def rngL (lo hi : Int) : List D := (List.range (hi - lo).toNat).map fun k => .int (lo + (k : Nat))
def rng3L (lo c : Int) (n : Nat) : List D := (List.range n).map fun k => .int (lo + (k : Nat) * c)
def rng3Ok (lo hi c : Int) : Bool := decide (c ≠ 0) && decide (c.natAbs < 1073741824) && Builtin.Range.small lo hi c && decide ((Builtin.Range.rangeSize lo hi c).toNat = Builtin.Range.rangeSize lo hi c) && decide ((Builtin.Range.rangeSize lo hi c).toNat ≤ sizeLine)
def rngOk (lo hi : Int) : Bool := decide (lo.natAbs < 2 ^ 62) && decide (hi.natAbs < 2 ^ 62) && decide ((hi - lo).toNat ≤ sizeLine)
@[simp] def seqL : D → Option (List D)
  | .list ds => some ds
  | .tuple ds => some ds
  | .str x => if x.length ≤ sizeLine then some (x.cps.toList.map fun c => .str ⟨#[c]⟩) else none
  | _ => none
def compL (f : D → Option (Option D)) : List D → Option (List D)
  | [] => some []
  | d :: r => (f d).bind fun o => (compL f r).map fun ys => match o with | none => ys | some y => y :: ys
/-- the place of an item -/
def idxD : D → D → Option D
  | .list ds, d => if SeqAt.shaped (.list ds) && SeqAt.shaped d then (ds.findIdx? fun z => PyData.eqv z d).map fun j : Nat => PyData.int (j : Int) else none
  | _, _ => none
abbrev Sem1 := List D → Option D
mutual
@[simp] def ev (Γ : List Sem1) (G : List D) : Ex → Sto → Option D
  | .var i, st => rdV (get st i)
  | .lit d, _ => some d
  | .glb j, _ => G[j]?
  | .o1 o a, st => (ev Γ G a st).bind (o1D o)
  | .o2 o a b, st => (ev Γ G a st).bind fun x => (ev Γ G b st).bind fun y => o2D o x y
  | .chain o o' a b c, st => (ev Γ G a st).bind fun x => (ev Γ G b st).bind fun y => (o2D o x y).bind fun t => match t with
    | .bool true => (ev Γ G c st).bind fun z => o2D o' y z
    | .bool false => some (.bool false)
    | _ => none
  | .max2 a b, st => (ev Γ G a st).bind fun x => (ev Γ G b st).bind fun y => int2 (fun i j => some (.int (if j > i then j else i))) x y
  | .max3 a b c, st => (ev Γ G a st).bind fun x => (ev Γ G b st).bind fun y => (ev Γ G c st).bind fun z => top3 x y z
  | .min2 a b, st => (ev Γ G a st).bind fun x => (ev Γ G b st).bind fun y => int2 (fun i j => some (.int (if j < i then j else i))) x y
  | .not a, st => (ev Γ G a st).bind fun t => match t with
    | .bool b => some (.bool (!b))
    | _ => none
  | .and es, st => evAnd Γ G es st
  | .or es, st => evOr Γ G es st
  | .ife c a b, st => (ev Γ G c st).bind fun t => match t with
    | .bool true => ev Γ G a st
    | .bool false => ev Γ G b st
    | _ => none
  | .ix a b, st => (ev Γ G a st).bind fun x => (ev Γ G b st).bind fun y => ixD x y
  | .ixv i b, st => (ev Γ G b st).bind fun y => match vw (get st i) with
    | .own ds => ixD (.list ds) y
    | .val d => ixD d y
    | _ => none
  | .idx a b, st => (ev Γ G a st).bind fun x => (ev Γ G b st).bind fun y => idxD x y
  | .slt a lo hi, st => (ev Γ G a st).bind fun x => (evO Γ G lo st).bind fun l => (evO Γ G hi st).bind fun h => match x with
    | .tuple ds => if HT.sIx ds.length 0 l = 0 ∧ HT.sIx ds.length ds.length h = ds.length then none else some (.tuple (cutL ds l h))
    | _ => none
  | .tup es, st => (evs Γ G es st).bind fun ds => if ds.length ≤ sizeLine then some (.tuple ds) else none
  | .call j es, st => (evs Γ G es st).bind fun ds => (Γ[j]?).bind fun f => f ds
  | .scal a, st => (ev Γ G a (frzAll st)).bind fun d => if isScalar d then some d else none
  | .fr f, st => (evF Γ G f st).map .list
  | .revA a, st => (ev Γ G a st).bind fun x => match x with
    | .list ds => some (.list ds.reverse)
    | .tuple ds => some (.tuple ds.reverse)
    | _ => none
@[simp] def evs (Γ : List Sem1) (G : List D) : Exs → Sto → Option (List D)
  | .nil, _ => some []
  | .cons e es, st => (ev Γ G e st).bind fun d => (evs Γ G es st).map (d :: ·)
@[simp] def evAnd (Γ : List Sem1) (G : List D) : Exs → Sto → Option D
  | .nil, _ => some (.bool true)
  | .cons e es, st => (ev Γ G e st).bind fun t => match t with
    | .bool true => evAnd Γ G es st
    | .bool false => some (.bool false)
    | _ => none
@[simp] def evOr (Γ : List Sem1) (G : List D) : Exs → Sto → Option D
  | .nil, _ => some (.bool false)
  | .cons e es, st => (ev Γ G e st).bind fun t => match t with
    | .bool true => some (.bool true)
    | .bool false => evOr Γ G es st
    | _ => none
@[simp] def evO (Γ : List Sem1) (G : List D) : Oe → Sto → Option (Option Int)
  | .no, _ => some none
  | .yes e, st => (ev Γ G e st).bind fun d => match d with
    | .int i => some (some i)
    | _ => none
@[simp] def evI (Γ : List Sem1) (G : List D) : Ir → Sto → Option (List D)
  | .seq e, st => (ev Γ G e st).bind seqL
  | .slot i, st => match vw (get st i) with
    | .own ds => some ds
    | .val d => seqL d
    | _ => none
  | .rng1 a, st => (ev Γ G a st).bind fun x => match x with
    | .int i => if rngOk 0 i then some (rngL 0 i) else none
    | _ => none
  | .rng2 a b, st => (ev Γ G a st).bind fun x => (ev Γ G b st).bind fun y => match x, y with
    | .int i, .int j => if rngOk i j then some (rngL i j) else none
    | _, _ => none
  | .rng3 a b c, st => (ev Γ G a st).bind fun x => (ev Γ G b st).bind fun y => (ev Γ G c st).bind fun z => match x, y, z with
    | .int i, .int j, .int k => if rng3Ok i j k then some (rng3L i k (Builtin.Range.rangeSize i j k).toNat) else none
    | _, _, _ => none
  | .rvd e, st => (ev Γ G e st).bind fun x => match x with
    | .list ds => if ds.length ≤ sizeLine then some ds.reverse else none
    | .tuple ds => if ds.length ≤ sizeLine then some ds.reverse else none
    | _ => none
@[simp] def evF (Γ : List Sem1) (G : List D) : Fx → Sto → Option (List D)
  | .lst es, st => (evs Γ G es st).bind fun ds => if ds.length ≤ sizeLine then some ds else none
  | .sl a lo hi, st => (ev Γ G a st).bind fun x => (evO Γ G lo st).bind fun l => (evO Γ G hi st).bind fun h => match x with
    | .list ds => some (cutL ds l h)
    | .dict [(.none, .list ds)] => some (cutL ds l h)
    | _ => none
  | .stp a lo hi s, st => (ev Γ G a st).bind fun x => (evO Γ G lo st).bind fun l => (evO Γ G hi st).bind fun h => (ev Γ G s st).bind fun k => match x, k with
    | .list ds, .int k => if k ≠ 0 ∧ (pickG ds l h (some k)).length ≤ sizeLine then some (pickG ds l h (some k)) else none
    | _, _ => none
  | .slv i lo hi, st => (evO Γ G lo st).bind fun l => (evO Γ G hi st).bind fun h => match vw (get st i) with
    | .own ds => some (cutL ds l h)
    | .val (.list ds) => some (cutL ds l h)
    | _ => none
  | .lrg1 a, st => (ev Γ G a st).bind fun x => match x with
    | .int i => if rngOk 0 i then some (rngL 0 i) else none
    | _ => none
  | .lrg2 a b, st => (ev Γ G a st).bind fun x => (ev Γ G b st).bind fun y => match x, y with
    | .int i, .int j => if rngOk i j then some (rngL i j) else none
    | _, _ => none
  | .listOf a, st => (ev Γ G a st).bind fun x => match x with
    | .list ds => some ds
    | .tuple ds => some ds
    | _ => none
  | .rev a, st => (ev Γ G a st).bind fun x => match x with
    | .list ds => some ds.reverse
    | _ => none
  | .lsv i, st => match vw (get st i) with
    | .own ds => some ds
    | .val (.list ds) => some ds
    | .val (.tuple ds) => some ds
    | _ => none
  | .addV i a, st => (ev Γ G a st).bind fun y => match vw (get st i), y with
    | .own xs, .list ys => if (xs ++ ys).length ≤ sizeLine then some (xs ++ ys) else none
    | _, _ => none
  | .callF j es, st => (evs Γ G es st).bind fun ds => (Γ[j]?).bind fun f => (f ds).bind fun d => match d with
    | .list xs => some xs
    | _ => none
  | .comp elt tg it cond ws, st => (evI Γ G it st).bind fun ds => compL (fun d => (bindTg tg d (wipeS st ws)).bind fun st1 => (evC Γ G cond st1).bind fun b =>
      if b then (ev Γ G elt st1).map some else some none) ds
@[simp] def evC (Γ : List Sem1) (G : List D) : Oe → Sto → Option Bool
  | .no, _ => some true
  | .yes c, st => (ev Γ G c st).bind fun t => match t with
    | .bool b => some b
    | _ => none
end

theorem rdV_vw (s : Sl) : rdV s = rdV (vw s) := by cases s <;> rfl
/-! ### what a store is in a heap -/
def SlotOk (K : PySem.W.Frag) (F H : Hp) : Sl → Option (Option V) → Prop
  | .no, _ => True
  | .val d, o => ∃ v, o = some (some v) ∧ En K F v d
  | .old d, o => ∃ v, o = some (some v) ∧ En K F v d
  | .new d, o => ∃ v, o = some (some v) ∧ En K F v d
  | .own ds, o => ∃ p vs, o = some (some (.ref p)) ∧ H p = some (.lst vs) ∧ F p = none ∧ EnAll K F vs ds
structure RelE (K : PySem.W.Frag) (F H : Hp) (st : Sto) (σ : L2.St) : Prop where
  fh : Same F H
  len : st.length = σ.length
  sl : ∀ i, SlotOk K F H (get st i) (σ[i]?)
section
variable {K : PySem.W.Frag} {F H F' H' : Hp} {st : Sto} {σ : L2.St}
theorem SlotOk.up (e : Ext F H F' H') {s : Sl} {o : Option (Option V)} (h : SlotOk K F H s o) : SlotOk K F' H' s o := by
  cases s with
  | no => trivial
  | val d => obtain ⟨v, q, r⟩ := h; exact ⟨v, q, r.up e.ff⟩
  | old d => obtain ⟨v, q, r⟩ := h; exact ⟨v, q, r.up e.ff⟩
  | new d => obtain ⟨v, q, r⟩ := h; exact ⟨v, q, r.up e.ff⟩
  | own ds =>
    obtain ⟨p, vs, q, r1, r2, r3⟩ := h
    exact ⟨p, vs, q, e.hh _ _ r1, e.fr _ r2 (fun z => by rw [r1] at z; cases z), r3.up e.ff⟩
theorem SlotOk.vw {s : Sl} {o : Option (Option V)} (h : SlotOk K F H s o) : SlotOk K F H (vw s) o := by cases s <;> exact h
theorem RelE.up (r : RelE K F H st σ) (e : Ext F H F' H') : RelE K F' H' st σ := ⟨e.fh, r.len, fun i => (r.sl i).up e⟩
theorem RelE.put (r : RelE K F H st σ) {v : V} {d : D} (h : En K F v d) (i : Nat) : RelE K F H (put st i (.val d)) (σ.set i (some v)) := by
  refine ⟨r.fh, by rw [put_length, List.length_set]; exact r.len, fun j => ?_⟩
  rw [get_put]
  by_cases c : j = i ∧ i < st.length
  · rw [if_pos c]
    obtain ⟨rfl, c⟩ := c
    exact ⟨v, by rw [List.getElem?_set_self (by rw [← r.len]; exact c)], h⟩
  · rw [if_neg c]
    by_cases e : j = i
    · have hl : st.length ≤ i := by
        have := fun z => c ⟨e, z⟩
        omega
      rw [e, get_ge st i hl]
      trivial
    · rw [List.getElem?_set_ne (Ne.symm e)]
      exact r.sl j
theorem RelE.wipe (r : RelE K F H st σ) : ∀ ws : List Nat, RelE K F H (wipeS st ws) (wipe σ ws)
  | [] => r
  | w :: ws => by
    have q := RelE.wipe r ws
    unfold wipeS L2.wipe
    refine ⟨q.fh, by rw [put_length, List.length_set]; exact q.len, fun j => ?_⟩
    rw [get_put]
    by_cases c : j = w ∧ w < (wipeS st ws).length
    · rw [if_pos c]; trivial
    · rw [if_neg c]
      by_cases e : j = w
      · have hl : (wipeS st ws).length ≤ w := by
          have := fun z => c ⟨e, z⟩
          omega
        rw [e, get_ge _ w hl]
        trivial
      · rw [List.getElem?_set_ne (Ne.symm e)]
        exact q.sl j
end
open Classical in
/-- the known part, with the lists of one's own -/
noncomputable def frzH (F H : Hp) (st : Sto) (σ : L2.St) : Hp := fun p => if ∃ i ds, get st i = .own ds ∧ σ[i]? = some (some (.ref p)) then H p else F p
section
variable {K : PySem.W.Frag} {F H F' H' : Hp} {st : Sto} {σ : L2.St}
theorem frzH_same (r : RelE K F H st σ) : Same F (frzH F H st σ) := fun p o e => by
  unfold frzH
  split
  · exact r.fh p o e
  · exact e
theorem frzH_sameH (r : RelE K F H st σ) : Same (frzH F H st σ) H := fun p o e => by
  unfold frzH at e
  split at e
  · exact e
  · exact r.fh p o e
theorem RelE.frz (r : RelE K F H st σ) : RelE K (frzH F H st σ) H (frzAll st) σ := by
  refine ⟨frzH_sameH r, by unfold frzAll; rw [List.length_map]; exact r.len, fun i => ?_⟩
  rw [get_map]
  have h := r.sl i
  cases e : get st i with
  | no => trivial
  | val d =>
    rw [e] at h
    obtain ⟨v, q, w⟩ := h
    exact ⟨v, q, w.up (frzH_same r)⟩
  | old d =>
    rw [e] at h
    obtain ⟨v, q, w⟩ := h
    exact ⟨v, q, w.up (frzH_same r)⟩
  | new d =>
    rw [e] at h
    obtain ⟨v, q, w⟩ := h
    exact ⟨v, q, w.up (frzH_same r)⟩
  | own ds =>
    rw [e] at h
    obtain ⟨p, vs, q, w1, w2, w3⟩ := h
    refine ⟨.ref p, q, .lst ?_ (w3.up (frzH_same r))⟩
    unfold frzH
    rw [if_pos ⟨i, ds, e, q⟩]
    exact w1
end
theorem En.scalar {K : PySem.W.Frag} {F F' : Hp} {v : V} {d : D} (h : En K F v d) (s : isScalar d = true) : En K F' v d := by
  cases h with
  | non => exact .non
  | bl b => exact .bl b
  | int i => exact .int i
  | str x => exact .str x
  | lst _ _ => cases s
  | tup _ _ => cases s
  | scr _ => cases s
end PL
namespace PL
open PySem PySem.Spec PyProof.Rows L2

/-! ### weaker readings -/
theorem pe_weak {X : Cx} {e : Expr} {t t' : TE} (h : PE X e t) (k : ∀ σ H Q, t' σ H Q → t σ H Q) : PE X e t' :=
  ⟨fun pins s σ H Q I q => h.run pins s σ H Q I (k σ H Q q)⟩
theorem pt_weak {X : Cx} {e : Expr} {t t' : TT} (h : PT X e t) (k : ∀ σ H Q, t' σ H Q → t σ H Q) : PT X e t' :=
  ⟨fun pins s σ H Q I q => h.run pins s σ H Q I (k σ H Q q)⟩
theorem pa_weak {X : Cx} {e : List Expr} {t t' : TA} (h : PA X e t) (k : ∀ σ H Q, t' σ H Q → t σ H Q) : PA X e t' :=
  ⟨fun pos pins s σ H Q I q => h.run pos pins s σ H Q I (k σ H Q q)⟩
theorem po_weak {X : Cx} {e : Option Expr} {t t' : TO} (h : PO X e t) (k : ∀ σ H Q, t' σ H Q → t σ H Q) : PO X e t' :=
  ⟨fun pins s σ H Q I q => h.run pins s σ H Q I (k σ H Q q)⟩
theorem pi_weak {X : Cx} {tg e : Expr} {t t' : TI} (h : PI X tg e t) (k : ∀ σ H Q, t' σ H Q → t σ H Q) : PI X tg e t' :=
  ⟨fun pins s σ H Q I q => h.run pins s σ H Q I (k σ H Q q)⟩
theorem pg_weak {X : Cx} {e : Expr} {t t' : TG} (h : PG X e t) (k : ∀ v σ H Q, t' v σ H Q → t v σ H Q) : PG X e t' :=
  ⟨fun pins s σ H v u Q I r q => h.run pins s σ H v u Q I r (k v σ H Q q)⟩
theorem ps_weak {X : Cx} {e : Stmt} {t t' : TS} (h : PS X e t) (k : ∀ D σ H, t' D σ H → t D σ H) : PS X e t' :=
  ⟨fun pins s σ H D I q => h.run pins s σ H D I (k D σ H q)⟩
theorem pss_weak {X : Cx} {e : List Stmt} {t t' : TS} (h : PSs X e t) (k : ∀ D σ H, t' D σ H → t D σ H) : PSs X e t' :=
  ⟨fun pins s σ H D I q => h.run pins s σ H D I (k D σ H q)⟩

/-! ### what is walked -/
structure Gz (J : L2.It) (B : Hp) (vs : List V) : Prop where
  go : ∀ i H, Same B H → i < vs.length → J.go i H
  yld : ∀ i H x H', Same B H → J.yld i H x H' → i < vs.length → H' = H ∧ vs[i]? = some x
  stop : ∀ i H, Same B H → vs.length ≤ i → J.stop i H
theorem Gz.up {J : L2.It} {B B' : Hp} {vs : List V} (g : Gz J B vs) (e : Same B B') : Gz J B' vs :=
  ⟨fun i H h => g.go i H (e.trans h), fun i H x H' h => g.yld i H x H' (e.trans h), fun i H h => g.stop i H (e.trans h)⟩
theorem gz_list {K : PySem.W.Frag} {B : Hp} {a : Addr} {vs : List V} (h : SqL K B a vs) : Gz (Itl K a) B vs :=
  ⟨fun i H e hi => ⟨vs, vs[i], e.seq h, by simp [hi]⟩, fun i H x H' e y _ => ⟨y.1, y.2 vs (e.seq h)⟩, fun i H e hi => ⟨vs, e.seq h, hi⟩⟩
theorem gz_tup {K : PySem.W.Frag} {B : Hp} {a : Addr} {vs : List V} (h : SqT K B a vs) : Gz (Itt K a) B vs :=
  ⟨fun i H e hi => ⟨vs, vs[i], sqT_mono e h, by simp [hi]⟩, fun i H x H' e y _ => ⟨y.1, y.2 vs (sqT_mono e h)⟩, fun i H e hi => ⟨vs, sqT_mono e h, hi⟩⟩
def strL (x : Str) : List V := x.cps.toList.map fun c => V.str ⟨#[c]⟩
theorem gz_str {B : Hp} {x : Str} : Gz (Its x) B (strL x) := by
  have hl : (strL x).length = x.cps.size := by unfold strL; rw [List.length_map, Array.length_toList]
  refine ⟨fun i H _ hi => by rw [hl] at hi; exact hi, fun i H v H' _ y hi => ?_, fun i H _ hi => by rw [hl] at hi; exact hi⟩
  obtain ⟨e, c, hc, ev⟩ := y
  refine ⟨e, ?_⟩
  unfold strL
  rw [List.getElem?_map, Array.getElem?_toList, hc, ev]; rfl
def rngV (lo : Int) (n : Nat) : List V := (List.range n).map fun k => V.int (lo + (k : Nat))
theorem gz_rng {B : Hp} {lo : Int} {n : Nat} : Gz (Itr lo n) B (rngV lo n) := by
  have hl : (rngV lo n).length = n := by unfold rngV; rw [List.length_map, List.length_range]
  refine ⟨fun i H _ hi => by rw [hl] at hi; exact hi, fun i H v H' _ y hi => ?_, fun i H _ hi => by rw [hl] at hi; exact hi⟩
  obtain ⟨e, ev⟩ := y
  rw [hl] at hi
  refine ⟨e, ?_⟩
  unfold rngV
  rw [List.getElem?_map, List.getElem?_range hi, ev]; rfl
theorem enAll_rng {K : PySem.W.Frag} {F : Hp} (lo hi : Int) : EnAll K F (rngV lo (hi - lo).toNat) (rngL lo hi) := by
  unfold rngV rngL
  induction List.range (hi - lo).toNat with
  | nil => exact .nil
  | cons n r ih => exact .cons (.int _) ih
theorem enAll_str {K : PySem.W.Frag} {F : Hp} (x : Str) : EnAll K F (strL x) (x.cps.toList.map fun c => PyData.str ⟨#[c]⟩) := by
  unfold strL
  induction x.cps.toList with
  | nil => exact .nil
  | cons n r ih => exact .cons (.str _) ih
/-- a list, a tuple or a text is walked; its length is within the line -/
def iSeq (K : PySem.W.Frag) (te : TE) : TI := fun σ H R => te σ H fun x H1 =>
  (∃ a xs, x = .ref a ∧ SqL K H1 a xs ∧ (xs.length ≤ sizeLine → R (Itl K a) H1)) ∨ (∃ a xs, x = .ref a ∧ SqT K H1 a xs ∧ (xs.length ≤ sizeLine → R (Itt K a) H1)) ∨ ∃ z, x = .str z ∧ R (Its z) H1
theorem pi_seq {X : Cx} {tg l : Expr} {tl : TE} (hl : PE X l tl) : PI X tg l (iSeq X.K tl) := by
  refine ⟨fun pins s σ H R I h => ?_⟩
  refine thn (hl.run pins s σ H _ I h) fun v s1 ⟨x, H1, I1, r1, q1⟩ => ?_
  rcases q1 with ⟨a, xs, e, hq, q⟩ | ⟨a, xs, e, hq, q⟩ | ⟨z, e, q⟩
  · subst e
    cases r1
    obtain ⟨its, rv, p, hz⟩ := I1.list hq
    exact wpAny_pyIter_list p.isList (pi_one (tk := s1.toks) I1 _ (turn_list a _) ⟨_, Heap.get?_push_size _ rfl, rfl, rfl⟩ (q hz))
  · subst e
    cases r1
    obtain ⟨its, rv, p, hz⟩ := I1.tuple hq
    exact wpAny_pyIter_tuple (show s1.heap.IsTuple a its.toArray from p) (pi_one (tk := s1.toks) I1 _ (turn_tuple a _) ⟨_, Heap.get?_push_size _ rfl, rfl, rfl⟩ (q hz))
  · subst e
    obtain ⟨t, rfl⟩ := r1
    cases ha : z.cps.all (· < 128)
    · exact wpAny_pyIter_wide ha (pi_one (tk := s1.toks) I1 _ (turn_str _ z t "str_iterator" (.inr rfl)) ⟨_, Heap.get?_push_size _ rfl, rfl, rfl⟩ q)
    · exact wpAny_pyIter_ascii ha (pi_one (tk := s1.toks) I1 _ (turn_str _ z t "str_ascii_iterator" (.inl rfl)) ⟨_, Heap.get?_push_size _ rfl, rfl, rfl⟩ q)

/-- a fresh list: what is wanted of it -/
def Wf (K : PySem.W.Frag) (F H : Hp) (ds : List D) (Q : VK) : Prop := ∀ p H' F' vs, Ext F H F' H' → H p = none → F' p = none → H' p = some (.lst vs) → EnAll K F' vs ds → Q (.ref p) H'
theorem Wd.wf {K : PySem.W.Frag} {F H : Hp} {ds : List D} {Q : VK} (w : Wd K F H (.list ds) Q) (e : Same F H) : Wf K F H ds Q := fun p H' F' vs x hp fp hv ha => by
  refine w _ _ (upd F' p (.lst vs)) ⟨x.ff.trans (same_new fp), fun b o q => ?_, x.hh, fun a q n => ?_⟩ (.lst upd_same (ha.up (same_new fp)))
  · by_cases hb : b = p
    · subst hb; rw [upd_same] at q; cases q; exact hv
    · rw [upd_ne hb] at q; exact x.fh b o q
  · have : a ≠ p := fun z => n (z ▸ hp)
    rw [upd_ne this]; exact x.fr a q n
theorem Wf.new {K : PySem.W.Frag} {F H : Hp} {ds : List D} {Q : VK} (w : Wf K F H ds Q) (e : Same F H) {vs : List V} (h : EnAll K F vs ds) {p : Addr} (hp : H p = none) : Q (.ref p) (upd H p (.lst vs)) :=
  w p _ F vs (Ext.loose e hp) hp (e.free hp) upd_same h

/-! ### a comprehension's turns -/
theorem comp_turns {K : PySem.W.Frag} {J : L2.It} {F1 H1 : Hp} {vs : List V} {ds : List D} {g : TG} {tt : TT} {te : TE} {ws : List Nat} {σ : L2.St} {Q : VK} {f : D → Option (Option D)} {out : List D} {Dl : Addr}
    (hs1 : Same F1 H1) (hD : H1 Dl = none) (gz : Gz J H1 vs) (hz : vs.length ≤ sizeLine) (ha : EnAll K F1 vs ds) (ho : compL f ds = some out)
    (turn : ∀ (x : V) (d : D) (o : Option D) (F H : Hp) (R : V → Hp → Prop) (R0 : Hp → Prop), Ext F1 H1 F H → En K F x d → f d = some o →
      (∀ y, o = some y → ∀ v H' F', Ext F H F' H' → En K F' v y → R v H') → (o = none → ∀ H' F', Ext F H F' H' → R0 H') →
      g x (wipe σ ws) H fun σ2 H2 => wipe σ2 ws = wipe σ ws ∧ tt σ2 H2 fun b H3 => if b = true then te σ2 H3 R else R0 H3)
    (w : Wf K F1 H1 out Q) :
    ∃ W : Nat → Nat → Hp → Prop, (∃ m, W 0 m (upd H1 Dl (.lst []))) ∧ ∀ i m H, W i m H →
      (J.stop i H ∧ Q (.ref Dl) H) ∨ (J.go i H ∧ ∃ Nx : Hp → Prop, (∀ H', Nx H' → ∃ m', m' < m ∧ W (i + 1) m' H') ∧ ∀ x H', J.yld i H x H' → g x (wipe σ ws) H' fun σ2 H2 => wipe σ2 ws = wipe σ ws ∧ tt σ2 H2 fun b H3 =>
        if b = true then te σ2 H3 fun y H4 => ∃ acc, H4 Dl = some (.lst acc) ∧ acc.length < sizeLine ∧ Nx (upd H4 Dl (.lst (acc ++ [y]))) else Nx H3) := by
  have hlen := ha.length
  let Pv : Nat → Hp → Prop := fun i H => ∃ F acc dacc rest, Ext F1 H1 F H ∧ F Dl = none ∧ H Dl = some (.lst acc) ∧ EnAll K F acc dacc ∧ acc.length ≤ i ∧ compL f (ds.drop i) = some rest ∧ dacc ++ rest = out
  refine ⟨fun i m H => m = vs.length - i ∧ i ≤ vs.length ∧ Pv i H, ⟨vs.length, by omega, Nat.zero_le _, F1, [], [], out, Ext.loose hs1 hD, hs1.free hD, upd_same, .nil, Nat.le_refl _, ho, rfl⟩, ?_⟩
  rintro i m H ⟨rfl, hi, F, acc, dacc, rest, x, fD, hDl, hacc, hal, hr, hout⟩
  by_cases hlt : i < vs.length
  · have hid : i < ds.length := by omega
    rw [List.drop_eq_getElem_cons hid] at hr
    obtain ⟨o, e1, e2⟩ := Option.bind_eq_some_iff.mp (show (f ds[i]).bind _ = some rest from hr)
    obtain ⟨r2, e3, e4⟩ := Option.map_eq_some_iff.mp e2
    refine .inr ⟨gz.go i H x.hh hlt, Pv (i + 1), fun H' p => ⟨vs.length - (i + 1), by omega, rfl, hlt, p⟩, fun v H' y => ?_⟩
    obtain ⟨rfl, hv⟩ := gz.yld i H v H' x.hh y hlt
    obtain ⟨d, hd, hE⟩ := ha.getV hv
    have hdd : ds[i] = d := by rw [List.getElem?_eq_getElem hid] at hd; exact Option.some.inj hd
    rw [hdd] at e1
    refine turn v d o F H' _ _ x (hE.up x.ff) e1 (fun yd ho' y H4 F4 x4 hy => ?_) (fun ho' H3 F3 x3 => ?_)
    · subst ho'
      refine ⟨acc, x4.hh _ _ hDl, by omega, F4, acc ++ [y], dacc ++ [yd], r2, ?_, x4.fr _ fD (fun z => by rw [hDl] at z; cases z), upd_same, (hacc.up x4.ff).append (.cons hy .nil), by rw [List.length_append]; exact Nat.succ_le_succ hal, e3, ?_⟩
      · have f4 : F4 Dl = none := x4.fr _ fD (fun z => by rw [hDl] at z; cases z)
        have x14 := x.trans x4
        refine ⟨x14.ff, fun b o q => ?_, fun b o q => ?_, x14.fr⟩
        · rw [upd_ne (fun z => by rw [z, f4] at q; cases q)]; exact x14.fh b o q
        · rw [upd_ne (fun z => by rw [z, hD] at q; cases q)]; exact x14.hh b o q
      · rw [← hout, ← e4]; simp
    · subst ho'
      exact ⟨F3, acc, dacc, rest, x.trans x3, x3.fr _ fD (fun z => by rw [hDl] at z; cases z), x3.hh _ _ hDl, hacc.up x3.ff, by omega, by rw [← e4]; exact e3, hout⟩
  · have e : i = vs.length := by omega
    refine .inl ⟨gz.stop i H x.hh (by omega), ?_⟩
    rw [List.drop_of_length_le (by omega)] at hr
    cases hr
    rw [List.append_nil] at hout
    subst hout
    exact w Dl H F acc x hD fD hDl hacc
end PL
namespace PL
open PySem PySem.Spec PyProof.Rows L2

/-! ### a def's promise where no guard of the interpreter stands around (so `repr` may be asked) -/
structure FnG (P : Program) (w : World) (K : PySem.W.Frag) (mg : Str → Option Value) (base : Heap) (lv : Nat) (fa : Addr) (fu : FuncData) (prm : List Str) (pr : Sp) : Prop where
  many : ∀ vs H Q E, pr vs H Q E → vs.length = prm.length
  goes : ∀ (A : Around) (fs : List Env) (s : Shared) (H : Hp) (ar : Args) (us : List Value) (vs : List V) (Q : VK) (E : XK), Room lv A → A.guards = some [] → Env0 P w K mg base A fs s H →
    BindsTo s fu ar (prm.zip us) → Vals vs us → pr vs H Q E → codeAny (model P w) A (.call (.ref fa) ar) (CR CX0 fs P w H s Q E) s
theorem FnG.mono {P : Program} {w : World} {K : PySem.W.Frag} {mg : Str → Option Value} {base : Heap} {i lv : Nat} {fa : Addr} {fu : FuncData} {prm : List Str} {pr : Sp} (G : FnG P w K mg base i fa fu prm pr) (le : i ≤ lv) : FnG P w K mg base lv fa fu prm pr where
  many := G.many
  goes := fun A fs s H ar us vs Q E room gd => G.goes A fs s H ar us vs Q E (room.mono le) gd
theorem FnG.imp {P : Program} {w : World} {K : PySem.W.Frag} {mg : Str → Option Value} {base : Heap} {lv : Nat} {fa : Addr} {fu : FuncData} {prm : List Str} {pr pr' : Sp} (G : FnG P w K mg base lv fa fu prm pr)
    (le : ∀ vs H Q E, pr' vs H Q E → pr vs H Q E) : FnG P w K mg base lv fa fu prm pr' where
  many := fun vs H Q E h => G.many vs H Q E (le vs H Q E h)
  goes := fun A fs s H ar us vs Q E room gd env b v h => G.goes A fs s H ar us vs Q E room gd env b v (le vs H Q E h)
section
variable {X : Cx} {lv : Nat} {fa : Addr} {fu : FuncData} {prm : List Str} {pr : Sp} {nm : Str} {e : Expr} {es : List Expr} {p pos : Pos} {t : TA}
theorem enterG {pins : List (Addr × Obj)} {σ : L2.St} {H : Hp} {s : Shared} {Q : VK} {us : List Value} {vs : List V} (G : FnG X.prog X.w X.K X.mg X.base lv fa fu prm pr) (room : Room lv X.A) (gd : X.A.guards = some []) (bi : Binds X.K fu prm [])
    (I : Inv X pins σ H s) (v : Vals vs us) (h : pr vs H Q E0) : wpAny (model X.prog X.w) X.A (call (.ref fa) us) (EP X pins σ Q) X.xe s := by
  have many : us.length = prm.length := v.length ▸ G.many vs H Q E0 h
  have binds := bi s us I.kIn (by simpa using many)
  rw [List.append_nil] at binds
  refine wpAny_call (codeAny_mono (G.goes X.A X.stack s H ⟨us, []⟩ us vs Q E0 room gd I.env0 binds v h) fun out s2 end2 => ?_)
  match out, end2 with
  | .ok (.ret _), end2 => exact I.after end2
  | .ok .next, end2 => exact end2.elim
  | .ok .brk, end2 => exact end2.elim
  | .ok .cont, end2 => exact end2.elim
  | .error _, end2 => exact end2.elim
theorem pe_callG (G : FnG X.prog X.w X.K X.mg X.base lv fa fu prm pr) (room : Room lv X.A) (gd : X.A.guards = some []) (gl : Gl X nm) (at_ : X.mg nm = some (.ref fa)) (keep : PySem.W.keepIn X.K (.ref fa) = true) (bi : Binds X.K fu prm [])
    (args : PA X (e :: es) t) (nd : (nm == ("__debug__" : Str)) = false) (st : starEach (e :: es) X.env = (false, eval e X.env) :: starEach es X.env) (ns : (backTo pos (starEach es X.env)).any (·.1) = false) :
    PE X (.Call (.Name nm p) (e :: es) [] pos) (tCall pr [] E0 t) where
  run := fun pins s σ H Q I h => by
    refine wpAny_Call_Name_kw (ld_glob I gl at_ (PySem.W.callWith_K (h₀ := X.base) I.ok.mod.kin keep ?_ st ns) nd)
    refine thn (args.run pos pins s σ H _ I h) fun us s2 ⟨vs, H2, I2, v, h2⟩ => ⟨I2.kIn, enterG G room gd bi I2 v ?_⟩
    simpa using h2
/-- the text of a value, as `repr` tells it -/
theorem cr_reprG (gd : X.A.guards = some []) (room : X.A.units + 64 < cLine) : CallR X (.builtin "repr") (fun xs H Q => ∃ x d, xs = [x] ∧ Dp X.K H x d ∧ d.showable = true ∧ d.hasDict = false ∧ d.depth ≤ 60 ∧ d.shown.length ≤ sizeLine ∧ Q (.str d.shown) H) := by
  intro pins s σ H xs us Q I v h
  obtain ⟨x, d, rfl, dp, h1, h2, h3, h4, q⟩ := h
  obtain ⟨u, rfl, ru⟩ := vals1 v
  obtain ⟨as, rd⟩ := Dp.reads I d x u dp ru
  have done : ∀ (h' : Heap) (t : Tok) (tk : Tok), (∀ b o, s.heap.get? b = some o → h'.get? b = some o) → EP X pins σ Q (.str d.shown t) { s with heap := h', toks := tk } :=
    fun h' t tk k => ⟨.str d.shown, H, I.kept k, ⟨t, rfl⟩, q⟩
  cases dp with
  | non =>
    cases ru
    exact PySem.P.repr_of_none (done _ _ _ fun _ _ z => z)
  | bl b =>
    cases ru
    exact PySem.P.repr_of_bool (done _ _ _ fun _ _ z => z)
  | int i =>
    obtain ⟨t, rfl⟩ := ru
    exact PySem.P.repr_of_int (by simpa [PyData.showable] using h1) (done _ _ _ fun _ _ z => z)
  | str y =>
    obtain ⟨t, rfl⟩ := ru
    exact PySem.P.repr_of_str (done _ _ _ fun _ _ z => z) (by simpa only [PyData.shown] using h4)
  | lst ha hb =>
    cases ru
    exact PySem.repr_of_reads' rd h1 (PyData.noDict_hsm h2) gd (by omega) (fun _ _ z => z) (fun h' u tk hk => done h' u tk hk) h4
  | tup ha hb =>
    cases ru
    exact PySem.repr_of_reads' rd h1 (PyData.noDict_hsm h2) gd (by omega) (fun _ _ z => z) (fun h' u tk hk => done h' u tk hk) h4
end
end PL
namespace PL
open PySem PySem.Spec PyProof.Rows L2 HT
/-! ### a tuple from its end: xs[::-1] -/
section
variable {prog : Program} {w : World} {A : Around} {E : Value → Shared → Prop} {s : Shared}
theorem adjust_rev (n : Nat) : Builtin.Slice.sliceAdjust none none (-1) (n : Int) = ((n : Int) - 1, -1) := by
  unfold Builtin.Slice.sliceAdjust
  have h1 : (-1 : Int) < 0 := by omega
  simp only [h1, if_true]
theorem places_rev (n : Nat) : Builtin.Slice.slicePlaces ((n : Int) - 1) (-1) (-1) = n := by
  unfold Builtin.Slice.slicePlaces
  have h1 : ¬ ((-1 : Int) > 0) := by omega
  simp only [h1, if_false]
  split <;> simp <;> omega
theorem sliceApplied_rev {sl : Addr} {vl vu vs : Value} {n : Nat} {Q : Int × Int × Nat → Shared → Prop} (hs : s.heap.IsSliceOf sl vl vu vs) (pl : IsPart vl none) (pu : IsPart vu none) (ps : IsPart vs (some (-1)))
    (h : Q ((n : Int) - 1, -1, n) s) : wpAny (model prog w) A (Builtin.Slice.sliceApplied (.ref sl) (pure (n : Int))) Q E s := by
  obtain ⟨os, hos, hcs, hds⟩ := id hs
  unfold Builtin.Slice.sliceApplied Builtin.Slice.sliceFields
  refine wpAny_bind (wpAny_bind (wpAny_field hos hds (x := vl) rfl (wpAny_bind (wpAny_field hos hds (x := vu) rfl (wpAny_bind (wpAny_field hos hds (x := vs) rfl (wpAny_pure ?_)))))))
  refine wpAny_bind (slicePart_ ps ?_)
  show wpAny _ _ (if ((-1 : Int) == 0) = true then _ else _) _ _ s
  rw [if_neg (by decide)]
  refine wpAny_bind (slicePart_ pl (wpAny_bind (slicePart_ pu (wpAny_bind (wpAny_pure ?_)))))
  show wpAny _ _ (match Builtin.Slice.sliceAdjust none none (-1) (n : Int) with | (lo, hi) => pure (lo, (-1 : Int), Builtin.Slice.slicePlaces lo hi (-1))) _ _ s
  rw [adjust_rev n]
  show wpAny _ _ (pure ((n : Int) - 1, (-1 : Int), Builtin.Slice.slicePlaces ((n : Int) - 1) (-1) (-1))) _ _ s
  rw [places_rev]
  exact wpAny_pure h
theorem pick_rev (xs : Array Value) : ((List.range xs.size).filterMap fun (m : Nat) => xs[(((xs.size : Nat) : Int) - 1 + (m : Int) * (-1)).toNat]?).toArray = xs.toList.reverse.toArray := by
  have key : ∀ (l : List Value), ((List.range l.length).filterMap fun (m : Nat) => l[(((l.length : Nat) : Int) - 1 + (m : Int) * (-1)).toNat]?) = l.reverse := by
    intro l
    have e : ((List.range l.length).filterMap fun (m : Nat) => l[(((l.length : Nat) : Int) - 1 + (m : Int) * (-1)).toNat]?) = (List.range l.length).map fun m => l.getD (l.length - 1 - m) .none := by
      have : ∀ ms : List Nat, (∀ m ∈ ms, m < l.length) → (ms.filterMap fun (m : Nat) => l[(((l.length : Nat) : Int) - 1 + (m : Int) * (-1)).toNat]?) = ms.map fun m => l.getD (l.length - 1 - m) .none := by
        intro ms
        induction ms with
        | nil => intro _; rfl
        | cons m ms ih =>
          intro hm
          have h1 := hm m List.mem_cons_self
          have h0 : (((l.length : Nat) : Int) - 1 + (m : Int) * (-1)).toNat = l.length - 1 - m := by omega
          have h2 : l.length - 1 - m < l.length := by omega
          rw [List.filterMap_cons_some (b := l.getD (l.length - 1 - m) .none) (by rw [h0]; simp [h2]), ih fun x hx => hm x (List.mem_cons_of_mem _ hx)]
          rfl
      exact this _ fun m hm => List.mem_range.mp hm
    rw [e]
    refine List.ext_getElem (by simp) fun i h1 h2 => ?_
    simp at h1
    have h3 : l.length - 1 - i < l.length := by omega
    simp [h3]
  have := key xs.toList
  simp only [Array.length_toList, Array.getElem?_toList] at this
  rw [this]
theorem getItem_tuple_rev {t sl : Addr} {items : Array Value} {vl vu vs : Value} {Q : Value → Shared → Prop} (ht : IsTup s.heap t items) (hs : s.heap.IsSliceOf sl vl vu vs) (pl : IsPart vl none) (pu : IsPart vu none) (ps : IsPart vs (some (-1)))
    (h : Q (.ref s.heap.objs.size) { s with heap := s.heap.push { cls := .type "tuple", data := .seq items.toList.reverse.toArray } })
    (hsz : items.size ≤ sizeLine) : wpAny (model prog w) A (getItem (.ref t) (.ref sl)) Q E s := by
  have htake : sizeOk (.seq items.toList.reverse.toArray) := by
    show items.toList.reverse.toArray.size ≤ sizeLine
    rw [List.size_toArray, List.length_reverse, Array.length_toList]
    exact hsz
  obtain ⟨os, hos, hcs, hds⟩ := id hs
  have hTs : s.TypeIs (.ref sl) "slice" := ⟨os, hos, hcs⟩
  unfold getItem
  try with_reducible refine wpAny_holding ?_
  first | refine wpAny_bind (wpAny_pure ?_) | skip
  refine wpAny_bind (wpAny_sequenceKey ht.typeIs (by decide) ?_)
  refine wpAny_bind (wpAny_callSpecial?_slot (name := Str.ofString "__getitem__") ht.typeIs PyProof.Rows.slot_tuple_getitem
    (wpAny_call_entry PyProof.Rows.slot_tuple_getitem ht.typeIs entry_tuple_getitem ?_ (args_tuple_getitem _ _)))
  show wpAny _ _ (Builtin.Tuple.tupleItemsOf (.ref t) >>= _) _ _ s
  refine wpAny_bind (tupleItemsOf_ ht ?_)
  refine wpAny_bind (wpAny_typeOf hTs ?_)
  rw [if_pos (by decide)]
  refine wpAny_bind (sliceApplied_rev hs pl pu ps ?_)
  have hno : ¬ ((((items.size : Nat) : Int) - 1 == 0 && (-1 : Int) == 1 && items.size == items.size) = true) := by
    intro q
    rw [Bool.and_eq_true, Bool.and_eq_true] at q
    exact absurd q.1.2 (by decide)
  show wpAny _ _ (if (((items.size : Nat) : Int) - 1 == 0 && (-1 : Int) == 1 && items.size == items.size) = true then _ else _) _ _ s
  rw [if_neg hno, pick_rev]
  first
    | exact wpAny_bind (m := Builtin.Tuple.tupleExact _) (wpAny_newObj_type (wpAny_pure ⟨_, rfl, wpAny_pure h⟩) htake)
    | exact wpAny_bind (m := Builtin.Tuple.tupleExact _) (wpAny_newObj_type (wpAny_bind (wpAny_pure (wpAny_pure ⟨_, rfl, wpAny_pure h⟩))) htake)
    | exact wpAny_bind (wpAny_bind (m := Builtin.Tuple.tupleExact _) (wpAny_newObj_type (wpAny_pure (wpAny_pure ⟨_, rfl, wpAny_pure h⟩)) htake))
    | exact wpAny_bind (wpAny_bind (m := Builtin.Tuple.tupleExact _) (wpAny_newObj_type (wpAny_pure ⟨_, rfl, wpAny_pure h⟩) htake))
end
def tRevT (K : PySem.W.Frag) (te : TE) : TE := fun σ H Q => te σ H fun x H1 => ∃ a xs, x = .ref a ∧ SqT K H1 a xs ∧ ∀ p, H1 p = none → Q (.ref p) (upd H1 p (.tup xs.reverse))
theorem pe_revT {X : Cx} {e : Expr} {te : TE} {k : Nat} {p1 p2 p3 pos : Pos} (he : PE X e te) : PE X (.Subscript e (.Slice none none (some (.UnaryOp .USub (.Constant (.int 1) k p1) p2)) p3) pos) (tRevT X.K te) := by
  refine ⟨fun pins s σ H Q I h => ?_⟩
  refine Subscript_ (thn (he.run pins s σ H _ I h) fun v s1 ⟨x, H1, I1, r1, q1⟩ => ?_)
  obtain ⟨a, xs, ex, hx, q⟩ := q1
  subst ex
  cases r1
  have hst : PO X (some (.UnaryOp .USub (.Constant (.int 1) k p1) p2)) (tPart (tUn (rU fun i => .int (-i)) (tC (.int 1)))) := po_some (pe_un un_neg pe_int)
  refine wpAny_Slice (thn (po_none.run pins s1 σ H1 (fun o H2 => o = none ∧ H2 = H1) I1 ⟨rfl, rfl⟩) fun vl s2 ⟨l, H2, I2, pl, el, e2⟩ => ?_)
  subst el e2
  refine thn (po_none.run pins s2 σ H2 (fun o H3 => o = none ∧ H3 = H2) I2 ⟨rfl, rfl⟩) fun vu s3 ⟨u, H3, I3, pu, eu, e3⟩ => ?_
  subst eu e3
  refine thn (hst.run pins s3 σ H3 (fun o H4 => o = some (-1) ∧ H4 = H3) I3 ⟨1, rfl, -1, rfl, rfl, rfl⟩) fun vs s4 ⟨o, H4, I4, ps, eo, e4⟩ => ?_
  subst eo e4
  have I5 : Inv X pins σ H4 { s4 with heap := s4.heap.push { cls := .type "slice", data := .fields #[vl, vu, vs] } } := I4.kept (t' := s4.toks) fun b ob q => Heap.get?_push_of_some _ q
  obtain ⟨its, r, ht, hz⟩ := I5.tuple hx
  have hlen := r.length
  show wpAny (model X.prog X.w) X.A (subscriptTail e (.Slice none none (some (.UnaryOp .USub (.Constant (.int 1) k p1) p2)) p3) (.ref a) (.ref s4.heap.objs.size)) (EP X pins σ Q) X.xe { s4 with heap := s4.heap.push { cls := .type "slice", data := .fields #[vl, vu, vs] } }
  refine tail_any (ops := [.ref a, .ref s4.heap.objs.size]) ht.typeIs (PyProof.Rows.slot_tuple_getitem.lookup) ?_ (by with_unfolding_all rfl)
  refine getItem_tuple_rev ht (Heap.IsSliceOf.new _ vl vu vs) pl pu ps ?_ (by rw [List.size_toArray]; omega)
  refine ⟨.ref _, _, I5.laid (t' := s4.toks) (o := .tup xs.reverse) (fun b ob q => Heap.get?_push_of_some _ q) (Nat.le_refl _) ?_, rfl, q _ (I5.hok.fresh (Nat.le_refl _))⟩
  exact ⟨by rw [List.length_reverse]; exact hz, _, r.reverse, ⟨_, Heap.get?_push_size _ rfl, rfl, ⟨_, rfl⟩⟩⟩
/-- one of two readings of an expression -/
theorem pe_or2 {X : Cx} {e : Expr} {t1 t2 : TE} (a : PE X e t1) (b : PE X e t2) : PE X e (fun σ H Q => t1 σ H Q ∨ t2 σ H Q) :=
  ⟨fun pins s σ H Q i h => h.elim (a.run pins s σ H Q i) (b.run pins s σ H Q i)⟩
end PL
namespace PL
open PySem PySem.Spec PyProof.Rows L2

/-! ### built-ins by data -/
def rC1 (K : PySem.W.Frag) (f : D → Option D) : List V → Hp → VK → Prop := fun xs H Q => ∃ x F dx d, xs = [x] ∧ Same F H ∧ En K F x dx ∧ f dx = some d ∧ Wd K F H d Q
def rC2 (K : PySem.W.Frag) (f : D → D → Option D) : List V → Hp → VK → Prop := fun xs H Q => ∃ x y F dx dy d, xs = [x, y] ∧ Same F H ∧ En K F x dx ∧ En K F y dy ∧ f dx dy = some d ∧ Wd K F H d Q
theorem cr_weak {X : Cx} {f : Value} {r r' : List V → Hp → VK → Prop} (h : CallR X f r) (k : ∀ xs H Q, r' xs H Q → r xs H Q) : CallR X f r' :=
  fun pins s σ H xs us Q I r q => h pins s σ H xs us Q I r (k xs H Q q)
section
variable {X : Cx}
theorem un_negD : UnR X (unaryOp .USub) (fun x H Q => ∃ F dx d, Same F H ∧ En X.K F x dx ∧ o1D .neg dx = some d ∧ Wd X.K F H d Q) := by
  intro pins s σ H x v Q I r h
  obtain ⟨F, dx, d, e, hx, hf, w⟩ := h
  refine un_neg pins s σ H x v Q I r ?_
  cases dx with
  | int i => cases hf; cases hx; exact ⟨_, rfl, w.now e (.int _)⟩
  | list _ => cases hf
  | tuple _ => cases hf
  | str _ => cases hf
  | none => cases hf
  | bool _ => cases hf
  | dict _ => cases hf
theorem cr_lenD : CallR X (.builtin "len") (rC1 X.K (o1D .len)) := cr_weak call_len fun xs H Q h => by
  obtain ⟨x, F, dx, d, rfl, e, hx, hf, w⟩ := h
  cases dx with
  | list ds =>
    cases hf
    cases hx with | lst hs ha =>
    refine ⟨_, ds.length, rfl, .inl ⟨_, SqL.of (e _ _ hs), ha.length.symm⟩, w.now e (.int _)⟩
  | tuple ds =>
    cases hf
    cases hx with | tup hs ha =>
    refine ⟨_, ds.length, rfl, .inr ⟨_, sqT_mono e hs, ha.length.symm⟩, w.now e (.int _)⟩
  | str z =>
    simp only [o1D] at hf
    split at hf
    · cases hf
      cases hx
      exact ⟨_, z.length, rfl, ⟨by assumption, rfl⟩, w.now e (.int _)⟩
    · cases hf
  | none => cases hf
  | bool _ => cases hf
  | int _ => cases hf
  | dict _ => cases hf
theorem cr_reprD (gd : X.A.guards = some []) (room : X.A.units + 64 < cLine) : CallR X (.builtin "repr") (rC1 X.K (o1D .repr)) := cr_weak (cr_reprG gd room) fun xs H Q h => by
  obtain ⟨x, F, dx, d, rfl, e, hx, hf, w⟩ := h
  rw [show o1D .repr dx = if rpOk dx then some (.str dx.shown) else none by cases dx <;> rfl] at hf
  split at hf
  · rename_i hr
    cases hf
    simp only [rpOk, Bool.and_eq_true, decide_eq_true_eq] at hr
    obtain ⟨⟨⟨h1, h2⟩, h3⟩, h4⟩ := hr
    exact ⟨x, dx, rfl, (hx.up e).dp h1, h2, PyData.hasDict_of_canLay dx h1, h3, h4, w.now e (.str _)⟩
  · cases hf
theorem cr_strD : CallR X (.type "str") (rC1 X.K (o1D .str)) := cr_weak call_str_int fun xs H Q h => by
  obtain ⟨x, F, dx, d, rfl, e, hx, hf, w⟩ := h
  cases dx with
  | int i =>
    have hf' : (if decide (i.natAbs.log2 < 1920) then some (PyData.str (toString i : Str)) else none) = some d := hf
    split at hf'
    · rename_i hz
      cases hf'; cases hx
      exact ⟨i, rfl, of_decide_eq_true hz, w.now e (.str _)⟩
    · cases hf'
  | bool _ => cases hf
  | list _ => cases hf
  | tuple _ => cases hf
  | str _ => cases hf
  | none => cases hf
  | dict _ => cases hf
theorem cr_absD : CallR X (.builtin "abs") (rC1 X.K (o1D .abs)) := cr_weak call_abs fun xs H Q h => by
  obtain ⟨x, F, dx, d, rfl, e, hx, hf, w⟩ := h
  cases dx with
  | int i => cases hf; cases hx; exact ⟨_, rfl, w.now e (.int _)⟩
  | list _ => cases hf
  | tuple _ => cases hf
  | str _ => cases hf
  | none => cases hf
  | bool _ => cases hf
  | dict _ => cases hf
theorem cr_intD : CallR X (.type "int") (rC1 X.K (o1D .int)) := cr_weak call_int1 fun xs H Q h => by
  obtain ⟨x, F, dx, d, rfl, e, hx, hf, w⟩ := h
  cases dx with
  | int i => cases hf; cases hx; exact .inl ⟨_, rfl, w.now e (.int _)⟩
  | bool i => cases hf; cases hx; exact .inr ⟨_, rfl, w.now e (.int _)⟩
  | list _ => cases hf
  | tuple _ => cases hf
  | str _ => cases hf
  | none => cases hf
  | dict _ => cases hf
theorem cr_sumD (hc : X.calm = true) : CallR X (.builtin "sum") (rC1 X.K (o1D .sum)) := cr_weak (cr_sum hc) fun xs H Q h => by
  obtain ⟨x, F, dx, d, rfl, e, hx, hf, w⟩ := h
  cases dx with
  | list ds =>
    obtain ⟨ns, e1, e2⟩ := Option.map_eq_some_iff.mp (show (ints? ds).map _ = some d from hf)
    subst e2
    cases ints?_eq e1
    cases hx with | lst hs ha =>
    cases ha.ints
    exact ⟨_, _, rfl, SqL.of (e _ _ hs), w.now e (.int _)⟩
  | int _ => cases hf
  | tuple _ => cases hf
  | str _ => cases hf
  | none => cases hf
  | bool _ => cases hf
  | dict _ => cases hf
theorem max_unique {ns : List Int} {k m : Int} (h : ns.max? = some k) (hm : m ∈ ns) (ht : ∀ y, y ∈ ns → y ≤ m) : m = k := by
  have h1 := List.max?_eq_some_iff.mp h
  have := h1.2 m hm
  have := ht k h1.1
  omega
theorem min_unique {ns : List Int} {k m : Int} (h : ns.min? = some k) (hm : m ∈ ns) (ht : ∀ y, y ∈ ns → m ≤ y) : m = k := by
  have h1 := List.min?_eq_some_iff.mp h
  have := h1.2 m hm
  have := ht k h1.1
  omega
theorem cr_maxD (hc : X.calm = true) : CallR X (.builtin "max") (rC1 X.K (o1D .max)) := cr_weak (cr_max hc) fun xs H Q h => by
  obtain ⟨x, F, dx, d, rfl, e, hx, hf, w⟩ := h
  cases dx with
  | list ds =>
    obtain ⟨k, e1, e2⟩ := Option.map_eq_some_iff.mp (show ((ints? ds).bind fun ns => ns.max?).map _ = some d from hf)
    subst e2
    obtain ⟨ns, e3, e4⟩ := Option.bind_eq_some_iff.mp e1
    cases ints?_eq e3
    cases hx with | lst hs ha =>
    cases ha.ints
    refine ⟨_, ns, rfl, SqL.of (e _ _ hs), ?_, fun m hm ht => ?_⟩
    · cases ns with
      | nil => cases e4
      | cons _ _ => simp
    · rw [max_unique e4 hm ht]; exact w.now e (.int _)
  | int _ => cases hf
  | tuple _ => cases hf
  | str _ => cases hf
  | none => cases hf
  | bool _ => cases hf
  | dict _ => cases hf
theorem cr_minD (hc : X.calm = true) : CallR X (.builtin "min") (rC1 X.K (o1D .min)) := cr_weak (cr_min hc) fun xs H Q h => by
  obtain ⟨x, F, dx, d, rfl, e, hx, hf, w⟩ := h
  cases dx with
  | list ds =>
    obtain ⟨k, e1, e2⟩ := Option.map_eq_some_iff.mp (show ((ints? ds).bind fun ns => ns.min?).map _ = some d from hf)
    subst e2
    obtain ⟨ns, e3, e4⟩ := Option.bind_eq_some_iff.mp e1
    cases ints?_eq e3
    cases hx with | lst hs ha =>
    cases ha.ints
    refine ⟨_, ns, rfl, SqL.of (e _ _ hs), ?_, fun m hm ht => ?_⟩
    · cases ns with
      | nil => cases e4
      | cons _ _ => simp
    · rw [min_unique e4 hm ht]; exact w.now e (.int _)
  | int _ => cases hf
  | tuple _ => cases hf
  | str _ => cases hf
  | none => cases hf
  | bool _ => cases hf
  | dict _ => cases hf
theorem cr_tupleD : CallR X (.type "tuple") (rC1 X.K (o1D .tuple)) := cr_weak call_tuple_of fun xs H Q h => by
  obtain ⟨x, F, dx, d, rfl, e, hx, hf, w⟩ := h
  cases dx with
  | list ds =>
    cases hf
    cases hx with | lst hs ha =>
    exact ⟨_, _, rfl, .inl ⟨SqL.of (e _ _ hs), fun l hl => w.tup e ha hl⟩⟩
  | tuple ds =>
    cases hf
    have hx' := hx
    cases hx with | tup hs ha =>
    exact ⟨_, _, rfl, .inr ⟨sqT_mono e hs, w.now e hx'⟩⟩
  | int _ => cases hf
  | str _ => cases hf
  | none => cases hf
  | bool _ => cases hf
  | dict _ => cases hf
theorem cr_listF : CallR X (.type "list") (fun xs H Q => ∃ x F dx ds, xs = [x] ∧ Same F H ∧ En X.K F x dx ∧ (dx = .list ds ∨ dx = .tuple ds) ∧ Wf X.K F H ds Q) := cr_weak call_list_of fun xs H Q h => by
  obtain ⟨x, F, dx, ds, rfl, e, hx, hf, w⟩ := h
  rcases hf with rfl | rfl
  · cases hx with | lst hs ha =>
    exact ⟨_, _, rfl, .inl (SqL.of (e _ _ hs)), fun l hl => w.new e ha hl⟩
  · cases hx with | tup hs ha =>
    exact ⟨_, _, rfl, .inr (sqT_mono e hs), fun l hl => w.new e ha hl⟩
theorem tyX {K : PySem.W.Frag} {F H : Hp} (e : Same F H) {x : V} {d : D} (h : En K F x d) : TyX K H x (.type (tyN d)) := by
  cases h with
  | non => exact .base .non
  | bl b => exact .base (.bl b)
  | int i => exact .base (.int i)
  | str x => exact .base (.str x)
  | lst hs _ => exact .base (.lst (e _ _ hs))
  | tup hs _ =>
    rcases hs with (hs | ⟨o, hs⟩) | ⟨o, its, n, hk, hc, _⟩
    · exact .base (.tup (e _ _ hs))
    · exact .fTuple (e _ _ hs)
    · exact .kTuple hk hc
  | scr hs =>
    rcases hs with (hs | ⟨o, hs⟩) | ⟨o, its, n, hk, hc, _⟩
    · exact .base (.lst (e _ _ hs))
    · exact .base (.frz (e _ _ hs))
    · exact .kList hk hc
theorem cr_isD (ty : String) : CallR X (.builtin "isinstance") (fun xs H Q => ∃ x F dx d, xs = [x, .ty ty] ∧ Same F H ∧ En X.K F x dx ∧ (kitB (tyN dx) ty).map PyData.bool = some d ∧ Wd X.K F H d Q) := cr_weak call_isi fun xs H Q h => by
  obtain ⟨x, F, dx, d, rfl, e, hx, hf, w⟩ := h
  obtain ⟨b, e1, e2⟩ := Option.map_eq_some_iff.mp hf
  subst e2
  exact ⟨x, .ty ty, .type (tyN dx), .type ty, b, rfl, .ty ty, tyX e hx, kit_ty e1, w.now e (.bl b)⟩
theorem cr_max2D (hc : X.calm = true) : CallR X (.builtin "max") (rC2 X.K (int2 fun i j => some (.int (if j > i then j else i)))) := cr_weak (call_max2 hc) fun xs H Q h => by
  obtain ⟨x, y, F, dx, dy, d, rfl, e, hx, hy, hf, w⟩ := h
  unfold int2 at hf
  split at hf
  · cases hx; cases hy; cases hf
    exact ⟨_, _, rfl, w.now e (.int _)⟩
  · cases hf
def rC3 (K : PySem.W.Frag) (f : D → D → D → Option D) : List V → Hp → VK → Prop := fun xs H Q => ∃ x y z F dx dy dz d, xs = [x, y, z] ∧ Same F H ∧ En K F x dx ∧ En K F y dy ∧ En K F z dz ∧ f dx dy dz = some d ∧ Wd K F H d Q
theorem cr_max3D (hc : X.calm = true) : CallR X (.builtin "max") (rC3 X.K top3) := cr_weak (call_max3Nu hc) fun xs H Q h => by
  obtain ⟨x, y, z, F, dx, dy, dz, d, rfl, e, hx, hy, hz, hf, w⟩ := h
  unfold top3 at hf
  split at hf
  · rename_i i j k
    cases hx; cases hy; cases hz; cases hf
    refine ⟨_, _, _, _, rfl, ?_, w.now e (.int _)⟩
    by_cases h1 : i < j
    · by_cases h2 : j < k <;> simp [nuMax3, nuMax2, nuLt, nuCB, h1, h2]
    · by_cases h2 : i < k <;> simp [nuMax3, nuMax2, nuLt, nuCB, h1, h2]
  · cases hf
theorem cr_min2D (hc : X.calm = true) : CallR X (.builtin "min") (rC2 X.K (int2 fun i j => some (.int (if j < i then j else i)))) := cr_weak (call_min2 hc) fun xs H Q h => by
  obtain ⟨x, y, F, dx, dy, d, rfl, e, hx, hy, hf, w⟩ := h
  unfold int2 at hf
  split at hf
  · cases hx; cases hy; cases hf
    exact ⟨_, _, rfl, w.now e (.int _)⟩
  · cases hf
theorem ixN_lt {n : Nat} {i : Int} {j : Nat} (h : ixN n i = some j) : j < n := (ixN_seq h).2.1
theorem atI_en {K : PySem.W.Frag} {F : Hp} {vs : List V} {ds : List D} {i : Int} {d : D} (ha : EnAll K F vs ds) (h : atI ds i = some d) : ∃ v, atI vs i = some v ∧ En K F v d := by
  unfold atI at h ⊢
  rw [ha.length]
  obtain ⟨j, e1, e2⟩ := Option.bind_eq_some_iff.mp h
  obtain ⟨v, e3, e4⟩ := ha.get e2
  exact ⟨v, by rw [e1]; exact e3, e4⟩
theorem ix_D : IxR X (rD2 X.K ixD) := by
  intro a b pins s σ H x y v u Q I rx ry h hs
  refine ix_seq a b pins s σ H x y v u Q I rx ry ?_ hs
  obtain ⟨F, dx, dy, d, e, hx, hy, hf, w⟩ := h
  unfold ixD at hf
  split at hf
  · cases hy
    cases hx with | lst hq ha =>
    obtain ⟨v, e1, e2⟩ := atI_en ha hf
    exact .inl ⟨_, _, _, v, rfl, rfl, SqL.of (e _ _ hq), e1, w.now e e2⟩
  · cases hy
    cases hx with | tup hq ha =>
    obtain ⟨v, e1, e2⟩ := atI_en ha hf
    exact .inr (.inl ⟨_, _, _, v, rfl, rfl, sqT_mono e hq, e1, w.now e e2⟩)
  · cases hy; cases hx
    split at hf
    · obtain ⟨c, e1, e2⟩ := Option.map_eq_some_iff.mp hf
      subst e2
      exact .inr (.inr ⟨_, _, c, rfl, rfl, by assumption, e1, w.now e (.str _)⟩)
    · cases hf
  · cases hf
theorem pe_ixv {i : Nat} {a b : Expr} {tb : TE} {pos : Pos} (ha : PE X a (tVar i)) (hb : PE X b tb) (hs : PlainIx b) : PE X (.Subscript a b pos) (tOp (rIxL X.K) (tVar i) tb) := pe_ix ix_list ha hb hs
end

/-! ### a def's promise, by data -/
def spP (K : PySem.W.Frag) (sem : Sem1) : Sp := fun vs H Q _ => ∃ F ds d, Same F H ∧ EnAll K F vs ds ∧ sem ds = some d ∧ Wd K F H d Q

/-- a def that returns a list of its own -/
def spO (K : PySem.W.Frag) (sem : Sem1) : Sp := fun vs H Q _ => ∃ F ds xs, Same F H ∧ EnAll K F vs ds ∧ sem ds = some (.list xs) ∧ Wf K F H xs Q
structure GoodX (X : Cx) (sc : Scope) (fnf : Str → Bool) (N bs cn gn : List Str) (Γ : List Sem1) (G : List D) (lvl : Nat) : Prop where
  N : X.N = N
  nd : X.N.Nodup
  sc : X.env.scope = sc
  kind : X.env.scope.kind = .function
  fnf : X.fn = fnf
  calm : X.calm = true
  room : Room lvl X.A
  gd : X.A.guards = some []
  blt : ∀ x ∈ bs, X.mg x = none
  fns : ∀ (j : Nat) (sem : Sem1), Γ[j]? = some sem → ∃ nm f fd ps, cn[j]? = some nm ∧ X.mg nm = some (.ref f) ∧ PySem.W.keepIn X.K (.ref f) = true ∧ Binds X.K fd ps [] ∧ FnG X.prog X.w X.K X.mg X.base lvl f fd ps (spP X.K sem)
  glb : ∀ (j : Nat) (d : D), G[j]? = some d → ∃ nm u v, gn[j]? = some nm ∧ X.mg nm = some u ∧ RelV v u ∧ ∀ F, En X.K F v d
  frs : ∀ (j : Nat) (sem : Sem1) (nm : Str), Γ[j]? = some sem → cn[j]? = some nm → gn.contains nm = true → ∃ f fd ps, X.mg nm = some (.ref f) ∧ PySem.W.keepIn X.K (.ref f) = true ∧ Binds X.K fd ps [] ∧ FnG X.prog X.w X.K X.mg X.base lvl f fd ps (spO X.K sem)
theorem GoodX.blk {X : Cx} {sc : Scope} {fnf : Str → Bool} {N bs cn gn : List Str} {Γ : List Sem1} {G : List D} {lvl : Nat} (g : GoodX X sc fnf N bs cn gn Γ G lvl) {scope : Scope} (hk : scope.kind = .function) (s : Shared) (H : Hp) (C : Addr) (cl : List (Str × Addr)) (fp : List Addr) :
    GoodX (X.blk s H scope (compEnvC scope cl C X.env) fp) (relS scope sc) (fun x => scope.names.lookup x == some .cell) N bs cn gn Γ G lvl :=
  ⟨g.N, g.nd, by rw [← g.sc]; rfl, hk, rfl, g.calm, g.room, g.gd, g.blt, g.fns, g.glb, g.frs⟩

/-! ### readings -/
section
variable (Γ : List Sem1) (G : List D) (K : PySem.W.Frag)
def LE (il : Ex) : TE := fun σ H Q => ∃ F st d, RelE K F H st σ ∧ ev Γ G il st = some d ∧ Wd K F H d Q
def LT (il : Ex) : TT := fun σ H Q => ∃ F st b, RelE K F H st σ ∧ ev Γ G il st = some (.bool b) ∧ ∀ H' F', Ext F H F' H' → Q b H'
def LA (es : Exs) : TA := fun σ H Q => ∃ F st ds, RelE K F H st σ ∧ evs Γ G es st = some ds ∧ ∀ vs H' F', Ext F H F' H' → EnAll K F' vs ds → Q vs H'
def LAnd (es : Exs) : TE := fun σ H Q => ∃ F st d, RelE K F H st σ ∧ evAnd Γ G es st = some d ∧ Wd K F H d Q
def LTAnd (es : Exs) : TT := fun σ H Q => ∃ F st b, RelE K F H st σ ∧ evAnd Γ G es st = some (.bool b) ∧ ∀ H' F', Ext F H F' H' → Q b H'
def LOr (es : Exs) : TE := fun σ H Q => ∃ F st d, RelE K F H st σ ∧ evOr Γ G es st = some d ∧ Wd K F H d Q
def LTOr (es : Exs) : TT := fun σ H Q => ∃ F st b, RelE K F H st σ ∧ evOr Γ G es st = some (.bool b) ∧ ∀ H' F', Ext F H F' H' → Q b H'
def LO (o : Oe) : TO := fun σ H Q => ∃ F st r, RelE K F H st σ ∧ evO Γ G o st = some r ∧ ∀ H' F', Ext F H F' H' → Q r H'
def noSlot : Ir → Bool
  | .slot _ => false
  | _ => true
def LI (it : Ir) : TI := fun σ H R => ∃ F st ds, RelE K F H st σ ∧ evI Γ G it st = some ds ∧ ∀ (J : L2.It) H' F' vs, Ext F H F' H' → EnAll K F' vs ds → Gz J H' vs → vs.length ≤ sizeLine → (noSlot it = true → Gz J F' vs) → R J H'
def LF (f : Fx) : TE := fun σ H Q => ∃ F st ds, RelE K F H st σ ∧ evF Γ G f st = some ds ∧ Wf K F H ds Q
def tgIn : Tg → List Nat → Prop
  | .name i, ws => i ∈ ws
  | .tup is, ws => ∀ i ∈ is, i ∈ ws
def LG (tg : Tg) : TG := fun v σ H Q => ∃ F st d st', RelE K F H st σ ∧ En K F v d ∧ bindTg tg d st = some st' ∧ ∀ σ', RelE K F H st' σ' → (∀ ws, tgIn tg ws → wipe σ' ws = wipe σ ws) → Q σ' H
end

/-! ### the checker -/
def vis (sc : Scope) (x : Str) : Bool := (match sc.names.lookup x with | some .local => true | some .cell => true | some .free => true | _ => false) && !(x == ("__debug__" : Str)) && !(x == ("__classdict__" : Str))
def glb (sc : Scope) (x : Str) : Bool := (match sc.names.lookup x with | some .globalImplicit => true | _ => false) && !(x == ("__debug__" : Str))
def notStar : Expr → Bool
  | .Starred .. => false
  | _ => true
def notSet : Expr → Bool
  | .Set .. => false
  | _ => true
def notSlice : Expr → Bool
  | .Slice .. => false
  | _ => true
def plainT : Expr → Bool
  | .UnaryOp .. => false
  | .BoolOp .. => false
  | .IfExp .. => false
  | .Compare .. => false
  | _ => true
def arOf : O2 → Option Operator
  | .add => some .Add
  | .sub => some .Sub
  | .mul => some .Mult
  | .fdiv => some .FloorDiv
  | .mod => some .Mod
  | .pow => some .Pow
  | .shl => some .LShift
  | .shr => some .RShift
  | .band => some .BitAnd
  | .bor => some .BitOr
  | _ => none
def cmOf : O2 → Option CmpOp
  | .eq => some .Eq
  | .ne => some .NotEq
  | .lt => some .Lt
  | .le => some .LtE
  | .gt => some .Gt
  | .ge => some .GtE
  | .isin => some .In
  | .notin => some .NotIn
  | .is => some .Is
  | .isnot => some .IsNot
  | _ => none
/-- a plain name, an item, a list: what has a method called of it in the ordinary way -/
def isNm : Expr → Bool
  | .Name .. => true
  | .Subscript .. => true
  | .List .. => true
  | _ => false
def nmOf : O1 → Option Str
  | .len => some "len"
  | .abs => some "abs"
  | .int => some "int"
  | .sum => some "sum"
  | .max => some "max"
  | .min => some "min"
  | .tuple => some "tuple"
  | .repr => some "repr"
  | .str => some "str"
  | _ => none
def litIs : D → Const → Bool
  | .none, .none => true
  | .bool b, .bool c => b == c
  | .int i, .int j => i == j
  | .str x, .str y => x == y
  | _, _ => false
def loc (sc : Scope) (fnf : Str → Bool) (x : Str) : Bool := match sc.names.lookup x with | some .local => true | some .cell => fnf x | _ => false
/-- the name at a slot, when it may be stored -/
def slotN (N : List Str) (sc : Scope) (fnf : Str → Bool) (i : Nat) (x : Str) : Bool := decide (N[i]? = some x) && loc sc fnf x
def namesAt (N : List Str) (sc : Scope) (fnf : Str → Bool) : List Nat → List Expr → Bool
  | [], [] => true
  | i :: is, .Name x _ :: es => slotN N sc fnf i x && namesAt N sc fnf is es
  | _, _ => false
def chkTg (N : List Str) (sc : Scope) (fnf : Str → Bool) : Tg → Expr → Bool
  | .name i, .Name x _ => slotN N sc fnf i x
  | .tup is, .Tuple es _ _ => namesAt N sc fnf is es
  | _, _ => false
def ownOf (N : List Str) : List Nat → List (Str × Nat)
  | [] => []
  | i :: r => (N.getD i "", i) :: ownOf N r
def tst : Ex → Bool
  | .ife .. => false
  | .scal a => tst a
  | .fr _ => false
  | .o1 .neg _ => false
  | _ => true
section
variable (N bs cn gn : List Str)
mutual
def chk (sc : Scope) : Ex → Expr → Bool
  | .var i, e => match e with
    | .Name x _ => vis sc x && decide (N[i]? = some x)
    | _ => false
  | .lit d, e => match e with
    | .Constant c _ _ => litIs d c
    | _ => false
  | .glb j, e => match e with
    | .Name x _ => glb sc x && decide (gn[j]? = some x)
    | _ => false
  | .o1 .neg a, e => match e with
    | .UnaryOp .USub x _ => chk sc a x
    | _ => false
  | .o1 (.isI ty) a, e => match e with
    | .Call (.Name f _) [x, .Name t _] [] _ => decide (f = "isinstance") && glb sc f && decide (f ∈ bs) && decide (t = ty) && glb sc t && decide (t ∈ bs) && notStar x && chk sc a x
    | _ => false
  | .o1 o a, e => match e with
    | .Call (.Name f _) [x] [] _ => decide (nmOf o = some f) && glb sc f && decide (f ∈ bs) && notStar x && chk sc a x
    | _ => false
  | .o2 o a b, e => match e with
    | .BinOp x p y _ => decide (arOf o = some p) && chk sc a x && chk sc b y
    | .Compare x [p] [y] _ => decide (cmOf o = some p) && notSet y && chk sc a x && chk sc b y
    | _ => false
  | .chain o o' a b c, e => match e with
    | .Compare x [p, q] [y, z] _ => decide (cmOf o = some p) && decide (cmOf o' = some q) && notSet z && chk sc a x && chk sc b y && chk sc c z
    | _ => false
  | .max2 a b, e => match e with
    | .Call (.Name f _) [x, y] [] _ => decide (f = "max") && glb sc f && decide (f ∈ bs) && notStar x && notStar y && chk sc a x && chk sc b y
    | _ => false
  | .max3 a b c, e => match e with
    | .Call (.Name f _) [x, y, z] [] _ => decide (f = "max") && glb sc f && decide (f ∈ bs) && notStar x && notStar y && notStar z && chk sc a x && chk sc b y && chk sc c z
    | _ => false
  | .min2 a b, e => match e with
    | .Call (.Name f _) [x, y] [] _ => decide (f = "min") && glb sc f && decide (f ∈ bs) && notStar x && notStar y && chk sc a x && chk sc b y
    | _ => false
  | .not a, e => match e with
    | .UnaryOp .Not x _ => chk sc a x && tst a
    | _ => false
  | .and es, e => match e with
    | .BoolOp .And xs _ => chkB sc es xs && decide (xs ≠ [])
    | _ => false
  | .or es, e => match e with
    | .BoolOp .Or xs _ => chkB sc es xs && decide (xs ≠ [])
    | _ => false
  | .ife c a b, e => match e with
    | .IfExp x y z _ => chk sc c x && tst c && chk sc a y && chk sc b z
    | _ => false
  | .ix a b, e => match e with
    | .Subscript x y _ => chk sc a x && chk sc b y && notSlice y
    | _ => false
  | .ixv i b, e => match e with
    | .Subscript (.Name x _) y _ => vis sc x && decide (N[i]? = some x) && chk sc b y && notSlice y
    | _ => false
  | .idx a b, e => match e with
    | .Call (.Attribute o m apos) [v] [] cpos => decide (m = "index") && notStar v && (apos.endLine == cpos.line) && isNm o && chk sc a o && chk sc b v
    | _ => false
  | .slt a lo hi, e => match e with
    | .Subscript x (.Slice l h none _) _ => chk sc a x && chkO sc lo l && chkO sc hi h
    | _ => false
  | .tup es, e => match e with
    | .Tuple xs _ _ => chks sc es xs
    | _ => false
  | .call j es, e => match e with
    | .Call (.Name f _) xs [] _ => glb sc f && decide (cn[j]? = some f) && decide (xs ≠ []) && chks sc es xs
    | _ => false
  | .scal a, e => chk sc a e
  | .fr f, e => chkF sc f e
  | .revA a, e => match e with
    | .Subscript x (.Slice none none (some (.UnaryOp .USub (.Constant (.int 1) _ _) _)) _) _ => chk sc a x
    | _ => false
def chks (sc : Scope) : Exs → List Expr → Bool
  | .nil, es => match es with
    | [] => true
    | _ => false
  | .cons a as, es => match es with
    | x :: xs => notStar x && chk sc a x && chks sc as xs
    | _ => false
def chkB (sc : Scope) : Exs → List Expr → Bool
  | .nil, es => match es with
    | [] => true
    | _ => false
  | .cons a as, es => match es with
    | x :: xs => chk sc a x && tst a && chkB sc as xs
    | _ => false
def chkO (sc : Scope) : Oe → Option Expr → Bool
  | .no, e => match e with
    | none => true
    | _ => false
  | .yes a, e => match e with
    | some x => chk sc a x
    | _ => false
def chkI (sc : Scope) : Ir → Expr → Bool
  | .seq a, e => notSet e && chk sc a e
  | .slot i, e => match e with
    | .Name x _ => vis sc x && decide (N[i]? = some x)
    | _ => false
  | .rng1 a, e => match e with
    | .Call (.Name f _) [x] [] _ => decide (f = "range") && glb sc f && decide (f ∈ bs) && notStar x && chk sc a x
    | _ => false
  | .rng2 a b, e => match e with
    | .Call (.Name f _) [x, y] [] _ => decide (f = "range") && glb sc f && decide (f ∈ bs) && notStar x && notStar y && chk sc a x && chk sc b y
    | _ => false
  | .rng3 a b c, e => match e with
    | .Call (.Name f _) [x, y, z] [] _ => decide (f = "range") && glb sc f && decide (f ∈ bs) && notStar x && notStar y && notStar z && chk sc a x && chk sc b y && chk sc c z
    | _ => false
  | .rvd a, e => match e with
    | .Call (.Name f _) [x] [] _ => decide (f = "reversed") && glb sc f && decide (f ∈ bs) && notStar x && chk sc a x
    | _ => false
def chkF (sc : Scope) : Fx → Expr → Bool
  | .lst es, e => match e with
    | .List xs _ => chks sc es xs
    | _ => false
  | .sl a lo hi, e => match e with
    | .Subscript x (.Slice l h none _) _ => chk sc a x && chkO sc lo l && chkO sc hi h
    | _ => false
  | .stp a lo hi k, e => match e with
    | .Subscript x (.Slice l h (some y) _) _ => chk sc a x && chkO sc lo l && chkO sc hi h && chk sc k y
    | _ => false
  | .slv i lo hi, e => match e with
    | .Subscript (.Name x _) (.Slice l h none _) _ => vis sc x && decide (N[i]? = some x) && chkO sc lo l && chkO sc hi h
    | _ => false
  | .listOf a, e => match e with
    | .Call (.Name f _) [x] [] _ => decide (f = "list") && glb sc f && decide (f ∈ bs) && notStar x && chk sc a x
    | _ => false
  | .lrg1 a, e => match e with
    | .Call (.Name f _) [.Call (.Name r _) [x] [] _] [] _ => decide (f = "list") && glb sc f && decide (f ∈ bs) && decide (r = "range") && glb sc r && decide (r ∈ bs) && notStar x && chk sc a x
    | _ => false
  | .lrg2 a b, e => match e with
    | .Call (.Name f _) [.Call (.Name r _) [x, y] [] _] [] _ => decide (f = "list") && glb sc f && decide (f ∈ bs) && decide (r = "range") && glb sc r && decide (r ∈ bs) && notStar x && notStar y && chk sc a x && chk sc b y
    | _ => false
  | .lsv i, e => match e with
    | .Call (.Name f _) [.Name x _] [] _ => decide (f = "list") && glb sc f && decide (f ∈ bs) && vis sc x && decide (N[i]? = some x)
    | _ => false
  | .addV i a, e => match e with
    | .BinOp (.Name x _) .Add y _ => vis sc x && decide (N[i]? = some x) && chk sc a y
    | _ => false
  | .callF j es, e => match e with
    | .Call (.Name f _) xs [] _ => glb sc f && decide (cn[j]? = some f) && decide (xs ≠ []) && gn.contains f && chks sc es xs
    | _ => false
  | .rev a, e => match e with
    | .Subscript x (.Slice none none (some (.UnaryOp .USub (.Constant (.int 1) _ _) _)) _) _ => chk sc a x
    | _ => false
  | .comp elt tg it cond ws, e => match e with
    | .ListComp x [⟨t, i, ifs, as⟩] scope _ => as == 0 && chkI sc it i && blkC N sc scope (ownOf N ws) && chkTg N (relS scope sc) (fun x => scope.names.lookup x == some .cell) tg t
        && (match tg with | .name i => ws.contains i | .tup is => is.all fun i => ws.contains i)
        && chk (relS scope sc) elt x && chkC (relS scope sc) cond ifs
    | _ => false
def chkC (sc : Scope) : Oe → List Expr → Bool
  | .no, e => match e with
    | [] => true
    | _ => false
  | .yes a, e => match e with
    | [x] => chk sc a x && tst a
    | _ => false
end
end
end PL
namespace PL
open PySem PySem.Spec PyProof.Rows L2

theorem wipe_get {σ : L2.St} {i : Nat} : ∀ {vs : List Nat}, (wipe σ vs)[i]? = if i ∈ vs ∧ i < σ.length then some none else σ[i]?
  | [] => by simp [wipe]
  | v :: vs => by
    unfold wipe
    rw [List.getElem?_set, wipe_length, wipe_get (vs := vs)]
    by_cases h : v = i
    · subst h
      by_cases hl : v < σ.length
      · simp [hl]
      · simp [hl]
    · have h' : ¬ i = v := fun e => h e.symm
      simp [h, h', List.mem_cons]
theorem wipe_eq {σ τ : L2.St} {vs : List Nat} (hl : τ.length = σ.length) (h : ∀ i, i ∉ vs → τ[i]? = σ[i]?) : wipe τ vs = wipe σ vs := by
  refine List.ext_getElem? fun i => ?_
  rw [wipe_get, wipe_get, hl]
  by_cases hi : i ∈ vs
  · by_cases hl' : i < σ.length
    · simp [hi, hl']
    · rw [if_neg (fun z => hl' z.2), if_neg (fun z => hl' z.2), List.getElem?_eq_none (by omega), List.getElem?_eq_none (by omega)]
  · rw [if_neg (fun z => hi z.1), if_neg (fun z => hi z.1)]
    exact h i hi
theorem wipe_wipe {σ : L2.St} {vs : List Nat} : wipe (wipe σ vs) vs = wipe σ vs :=
  wipe_eq (wipe_length σ vs) fun i hi => by rw [wipe_get, if_neg (fun z => hi z.1)]

section
variable {X : Cx} {sc : Scope} {fnf : Str → Bool} {N bs cn gn : List Str} {Γ : List Sem1} {G : List D} {lvl : Nat}
theorem vis_of {x : Str} (g : GoodX X sc fnf N bs cn gn Γ G lvl) (h : vis sc x = true) : Vis X.env.scope x ∧ (x == ("__debug__" : Str)) = false ∧ (x == ("__classdict__" : Str)) = false := by
  unfold vis at h
  rw [Bool.and_eq_true, Bool.and_eq_true] at h
  obtain ⟨⟨h1, h2⟩, h3⟩ := h
  refine ⟨?_, by simpa using h2, by simpa using h3⟩
  rw [g.sc]
  unfold Vis
  split at h1
  · exact .inl (by assumption)
  · exact .inr (.inl (by assumption))
  · exact .inr (.inr (by assumption))
  · cases h1
theorem glb_of {x : Str} (g : GoodX X sc fnf N bs cn gn Γ G lvl) (h : glb sc x = true) : Gl X x ∧ (x == ("__debug__" : Str)) = false := by
  unfold glb at h
  rw [Bool.and_eq_true] at h
  obtain ⟨h1, h2⟩ := h
  refine ⟨?_, by simpa using h2⟩
  show X.env.scope.names.lookup x = some .globalImplicit
  rw [g.sc]
  split at h1
  · assumption
  · cases h1
theorem star_of {e : Expr} (h : notStar e = true) (es : List Expr) (env : Env) : starEach (e :: es) env = (false, eval e env) :: starEach es env := by
  cases e <;> first | rfl | cases h
theorem set_of {e : Expr} (h : notSet e = true) (env : Env) : ∀ x, foldedSetIterable e env x = pure x := by
  intro x
  cases e <;> first | rfl | cases h
theorem slice_of {e : Expr} (h : notSlice e = true) : PlainIx e := by
  intro o i
  cases e <;> first | rfl | cases h
theorem mark_of {e : Expr} (h : notSet e = true) (op : CmpOp) : behindInMarks op e = false := by
  cases e <;> first | rfl | cases h
theorem plain_of {e : Expr} (h : plainT e = true) (env : Env) : ∀ whole, isTrue e env whole = (do let v ← whole; standAt e.pos; holding [v] (truthy v)) := by
  intro whole
  cases e <;> first | rfl | cases h
inductive NoStars : List Expr → Prop
  | nil : NoStars []
  | cons {e es} : notStar e = true → NoStars es → NoStars (e :: es)
theorem NoStars.any {es : List Expr} (h : NoStars es) (env : Env) (pos : Pos) : (backTo pos (starEach es env)).any (·.1) = false := by
  induction h with
  | nil => rfl
  | cons h1 _ ih =>
    rw [star_of h1]
    show (false || (backTo pos (starEach _ env)).any (·.1)) = false
    rw [ih]; rfl
theorem en_lit {K : PySem.W.Frag} {F : Hp} {d : D} {c : Const} (h : litIs d c = true) {X : Cx} {k : Nat} {pos : Pos} : ∃ v, PE X (.Constant c k pos) (tC v) ∧ ∀ F, En K F v d := by
  unfold litIs at h
  split at h
  · exact ⟨_, pe_non, fun _ => .non⟩
  · rw [beq_iff_eq] at h; subst h; exact ⟨_, pe_bl, fun _ => .bl _⟩
  · rw [beq_iff_eq] at h; subst h; exact ⟨_, pe_int, fun _ => .int _⟩
  · rw [beq_iff_eq] at h; subst h; exact ⟨_, pe_str, fun _ => .str _⟩
  · cases h
theorem dbg_of {x y : Str} (h : x = y) (h2 : (y == ("__debug__" : Str)) = false) : (x == ("__debug__" : Str)) = false := by rw [h]; exact h2

/-- what is shown of an expression -/
structure SE (X : Cx) (Γ : List Sem1) (G : List D) (il : Ex) (e : Expr) : Prop where
  pe : PE X e (LE Γ G X.K il)
  pt : tst il = true → PT X e (LT Γ G X.K il)
theorem pt_of_pe {il : Ex} {e : Expr} (h : PE X e (LE Γ G X.K il)) (p : plainT e = true) : PT X e (LT Γ G X.K il) :=
  pt_weak (pt_val h (plain_of p X.env)) fun σ H Q ⟨F, st, b, r, hv, w⟩ => ⟨F, st, _, r, hv, fun v H' F' x hE => by
    cases hE
    exact ⟨b, rfl, w H' F' x⟩⟩
theorem SE.mk' {il : Ex} {e : Expr} (h : PE X e (LE Γ G X.K il)) (p : plainT e = true) : SE X Γ G il e := ⟨h, fun _ => pt_of_pe h p⟩
theorem pt_of_cmp {il : Ex} {a b : Expr} {op : CmpOp} {pos : Pos} {r : R2} {ta tb : TE} (ho : OpR X (compareOp op) r) (ha : PE X a ta) (hb : PE X b tb) (hm : behindInMarks op b = false) (k : ∀ σ H Q, LE Γ G X.K il σ H Q → tOp r ta tb σ H Q) :
    SE X Γ G il (.Compare a [op] [b] pos) :=
  ⟨pe_weak (pe_cmpR ho ha hb hm) k, fun _ => pt_weak (pt_cmpR ho ha hb hm) fun σ H Q ⟨F, st, c, r, hv, w⟩ => k σ H _ ⟨F, st, _, r, hv, fun v H' F' x hE => by
    cases hE
    exact ⟨c, rfl, w H' F' x⟩⟩⟩
theorem ar_op {o : O2} {p : Operator} (h : arOf o = some p) : OpR X (binaryOp p) (rD2 X.K (o2D o)) := by
  cases o <;> first | (cases h; done) | skip
  · cases h; exact op_addD
  · cases h; exact op_subD
  · cases h; exact op_mulD
  · cases h; exact op_fdivD
  · cases h; exact op_modD
  · cases h; exact op_powD
  · cases h; exact op_shlD
  · cases h; exact op_shrD
  · cases h; exact op_bandD
  · cases h; exact op_borD
theorem cm_op {o : O2} {p : CmpOp} (h : cmOf o = some p) (hr : Room lvl X.A) : OpR X (compareOp p) (rD2 X.K (o2D o)) := by
  have hu := hr.un
  cases o <;> first | (cases h; done) | skip
  · cases h; exact op_eqDD (by omega)
  · cases h; exact op_neDD (by omega)
  · cases h; exact op_ltD
  · cases h; exact op_leD
  · cases h; exact op_gtD
  · cases h; exact op_geD
  · cases h; exact op_inDD (by omega)
  · cases h; exact op_notinDD (by omega)
  · cases h; exact op_isD
  · cases h; exact op_isnotD
/-- two operands in a row -/
theorem LE.two {a b : Ex} {st : Sto} {σ : L2.St} {F H : Hp} {dx dy : D} (r : RelE X.K F H st σ) (h1 : ev Γ G a st = some dx) (h2 : ev Γ G b st = some dy) {R : V → V → Hp → Prop}
    (k : ∀ x y F' H', Ext F H F' H' → En X.K F' x dx → En X.K F' y dy → R x y H') : LE Γ G X.K a σ H fun x H1 => LE Γ G X.K b σ H1 fun y H2 => R x y H2 :=
  ⟨F, st, dx, r, h1, fun x H1 F1 e1 hx => ⟨F1, st, dy, r.up e1, h2, fun y H2 F2 e2 hy => k x y F2 H2 (e1.trans e2) (hx.up e2.ff) hy⟩⟩
theorem o2_weak {a b : Ex} {o : O2} : ∀ σ H Q, LE Γ G X.K (.o2 o a b) σ H Q → tOp (rD2 X.K (o2D o)) (LE Γ G X.K a) (LE Γ G X.K b) σ H Q := fun σ H Q h => by
  obtain ⟨F, st, d, r, hv, w⟩ := h
  obtain ⟨dx, e1, hv⟩ := Option.bind_eq_some_iff.mp (show (ev Γ G a st).bind _ = some d from by simpa only [ev] using hv)
  obtain ⟨dy, e2, hv⟩ := Option.bind_eq_some_iff.mp hv
  exact LE.two r e1 e2 fun x y F' H' x' hx hy => ⟨F', dx, dy, d, x'.fh, hx, hy, hv, fun v H2 F2 e3 hE => w v H2 F2 (x'.trans e3) hE⟩
/-- a built-in of one argument -/
theorem pe_b1 {o : O1} {a : Ex} {e : Expr} {f : Str} {p pos : Pos} (hP : ∀ {t : TA}, PA X [e] t → PE X (.Call (.Name f p) [e] [] pos) (tCB (rC1 X.K (o1D o)) t)) (he : PE X e (LE Γ G X.K a)) (hs : notStar e = true) :
    PE X (.Call (.Name f p) [e] [] pos) (LE Γ G X.K (.o1 o a)) :=
  pe_weak (hP (pa_cons he pa_nil (star_of hs [] X.env))) fun σ H Q ⟨F, st, d, r, hv, w⟩ => by
    obtain ⟨dx, e1, hv⟩ := Option.bind_eq_some_iff.mp (show (ev Γ G a st).bind _ = some d from by simpa only [ev] using hv)
    exact ⟨F, st, dx, r, e1, fun v H1 F1 x1 hx => ⟨v, F1, dx, d, rfl, x1.fh, hx, hv, fun v H2 F2 e3 hE => w v H2 F2 (x1.trans e3) hE⟩⟩
end
end PL
namespace PL
open PySem PySem.Spec PyProof.Rows L2

section
variable {Γ : List Sem1} {G : List D}
theorem pe_never {X : Cx} {e : Expr} {t : TE} (h : ∀ σ H Q, ¬ t σ H Q) : PE X e t := ⟨fun _ _ σ H Q _ q => absurd q (h σ H Q)⟩
theorem bind2 {α β : Type} {a : Option α} {f : α → Option β} {d : β} (h : a.bind f = some d) : ∃ x, a = some x ∧ f x = some d := Option.bind_eq_some_iff.mp h
theorem le_frz {X : Cx} {a : Ex} {σ : L2.St} {H F : Hp} {st : Sto} {d : D} {Q : VK} (r : RelE X.K F H st σ) (h : ev Γ G a (frzAll st) = some d) (s : isScalar d = true) (w : Wd X.K F H d Q) : LE Γ G X.K a σ H Q :=
  ⟨frzH F H st σ, frzAll st, d, r.frz, h, fun v H' F' x hE => w v H' F ⟨Same.refl _, r.fh.trans x.hh, x.hh, fun _ q _ => q⟩ (hE.scalar s)⟩
theorem lo_none {X : Cx} : PO X none (LO Γ G X.K .no) := po_weak po_none fun σ H Q ⟨F, st, o, r, hv, w⟩ => by
  cases (show some none = some o from by simpa only [evO] using hv)
  exact w H F (Ext.refl r.fh)
theorem lo_some {X : Cx} {a : Ex} {x : Expr} (h : PE X x (LE Γ G X.K a)) : PO X (some x) (LO Γ G X.K (.yes a)) := po_weak (po_some h) fun σ H Q ⟨F, st, o, r, hv, w⟩ => by
  obtain ⟨d, e1, e2⟩ := bind2 (show (ev Γ G a st).bind _ = some o from by simpa only [evO] using hv)
  refine ⟨F, st, d, r, e1, fun v H1 F1 x1 hE => ?_⟩
  cases d with
  | int i => cases hE; cases e2; exact ⟨i, rfl, w H1 F1 x1⟩
  | none => cases e2
  | bool _ => cases e2
  | str _ => cases e2
  | list _ => cases e2
  | tuple _ => cases e2
  | dict _ => cases e2
theorem la_nil {X : Cx} : PA X [] (LA Γ G X.K .nil) := pa_weak pa_nil fun σ H Q ⟨F, st, ds, r, hv, w⟩ => by
  cases (show some [] = some ds from by simpa only [evs] using hv)
  exact w [] H F (Ext.refl r.fh) .nil
theorem la_cons {X : Cx} {a : Ex} {as : Exs} {x : Expr} {xs : List Expr} (hs : notStar x = true) (h : PE X x (LE Γ G X.K a)) (k : PA X xs (LA Γ G X.K as)) : PA X (x :: xs) (LA Γ G X.K (.cons a as)) :=
  pa_weak (pa_cons h k (star_of hs xs X.env)) fun σ H Q ⟨F, st, ds, r, hv, w⟩ => by
    obtain ⟨d, e1, e2⟩ := bind2 (show (ev Γ G a st).bind _ = some ds from by simpa only [evs] using hv)
    obtain ⟨r2, e3, e4⟩ := Option.map_eq_some_iff.mp e2
    subst e4
    exact ⟨F, st, d, r, e1, fun v H1 F1 x1 hE => ⟨F1, st, r2, r.up x1, e3, fun vs H2 F2 x2 hA => w (v :: vs) H2 F2 (x1.trans x2) (.cons (hE.up x2.ff) hA)⟩⟩
theorem le_fr {X : Cx} {f : Fx} {e : Expr} (h : PE X e (LF Γ G X.K f)) : PE X e (LE Γ G X.K (.fr f)) := pe_weak h fun σ H Q ⟨F, st, d, r, hv, w⟩ => by
  obtain ⟨ds, e1, e2⟩ := Option.map_eq_some_iff.mp (show (evF Γ G f st).map .list = some d from by simpa only [ev] using hv)
  subst e2
  exact ⟨F, st, ds, r, e1, w.wf r.fh⟩
theorem pg_one {X : Cx} {sc : Scope} {fnf : Str → Bool} {N bs cn gn : List Str} {lvl : Nat} (g : GoodX X sc fnf N bs cn gn Γ G lvl) {i : Nat} {x : Str} {p : Pos} (h : slotN N sc fnf i x = true) : PG X (.Name x p) (gName i) := by
  unfold slotN at h
  rw [Bool.and_eq_true, decide_eq_true_eq] at h
  obtain ⟨h1, h2⟩ := h
  unfold loc at h2
  split at h2
  · rename_i hl
    exact pg_name g.nd (by rw [g.N]; exact h1) (.inl (by rw [g.sc]; exact hl)) (.inr (by rw [g.sc]; exact hl))
  · rename_i hl
    exact pg_name g.nd (by rw [g.N]; exact h1) (.inr (by rw [g.sc]; exact hl)) (.inl (by rw [g.fnf]; exact h2))
  · cases h2
def gSets : List Nat → TGs := fun is vs σ H Q => is.length = vs.length ∧ Q ((is.zip vs).foldl (fun s p => s.set p.1 (some p.2)) σ) H
theorem assign_len {X : Cx} : ∀ (es : List Expr), (assignEach es X.env).length = es.length
  | [] => rfl
  | e :: es => by
    have ih := assign_len (X := X) es
    cases e <;> (show (assignEach es X.env).length + 1 = es.length + 1; rw [ih])
theorem names_ok {X : Cx} {sc : Scope} {fnf : Str → Bool} {N bs cn gn : List Str} {lvl : Nat} (g : GoodX X sc fnf N bs cn gn Γ G lvl) : ∀ (is : List Nat) (es : List Expr), namesAt N sc fnf is es = true →
    PGs X es (gSets is) ∧ es.length = is.length ∧ (assignEach es X.env).findIdx? (·.1) = none
  | [], [], _ => ⟨⟨fun pins s σ H vs us Q I r h => pgs_nil.run pins s σ H vs us Q I r ⟨(List.length_eq_zero_iff.mp h.1.symm), by
      have e : vs = [] := List.length_eq_zero_iff.mp h.1.symm
      subst e
      exact h.2⟩⟩, rfl, rfl⟩
  | i :: is, .Name x p :: es, h => by
    have h' : (slotN N sc fnf i x && namesAt N sc fnf is es) = true := h
    rw [Bool.and_eq_true] at h'
    obtain ⟨h1, h2⟩ := h'
    obtain ⟨k1, k2, k3⟩ := names_ok g is es h2
    refine ⟨⟨fun pins s σ H vs us Q I r q => ?_⟩, by rw [List.length_cons, List.length_cons, k2], ?_⟩
    · refine (pgs_cons (pg_one g h1) k1).run pins s σ H vs us Q I r ?_
      obtain ⟨ql, q⟩ := q
      cases vs with
      | nil => cases ql
      | cons v vs => exact ⟨v, vs, rfl, by simpa using ql, q⟩
    · show List.findIdx? _ ((false, assign (.Name x p) X.env) :: assignEach es X.env) = none
      rw [List.findIdx?_cons, k3]
      rfl
  | [], _ :: _, h => by cases h
  | _ :: _, [], h => by cases h
  | i :: is, e :: es, h => by
    cases e with
    | Name x p =>
      have h' : (slotN N sc fnf i x && namesAt N sc fnf is es) = true := h
      rw [Bool.and_eq_true] at h'
      obtain ⟨h1, h2⟩ := h'
      obtain ⟨k1, k2, k3⟩ := names_ok g is es h2
      refine ⟨⟨fun pins s σ H vs us Q I r q => ?_⟩, by rw [List.length_cons, List.length_cons, k2], ?_⟩
      · refine (pgs_cons (pg_one g h1) k1).run pins s σ H vs us Q I r ?_
        obtain ⟨ql, q⟩ := q
        cases vs with
        | nil => cases ql
        | cons v vs => exact ⟨v, vs, rfl, by simpa using ql, q⟩
      · show List.findIdx? _ ((false, assign (.Name x p) X.env) :: assignEach es X.env) = none
        rw [List.findIdx?_cons, k3]
        rfl
    | _ => cases h
theorem sets_rel {K : PySem.W.Frag} {F H : Hp} : ∀ (is : List Nat) (vs : List V) (ds : List D) {st : Sto} {σ : L2.St}, RelE K F H st σ → EnAll K F vs ds →
    RelE K F H ((is.zip ds).foldl (fun s p => put s p.1 (.val p.2)) st) ((is.zip vs).foldl (fun s p => s.set p.1 (some p.2)) σ)
  | [], _, _, _, _, r, _ => r
  | i :: is, [], _, _, _, r, h => by cases h; exact r
  | i :: is, v :: vs, _, _, _, r, h => by
    cases h with
    | cons h1 h2 => exact sets_rel is vs _ (r.put h1 i) h2
theorem sets_get : ∀ (is : List Nat) (vs : List V) {σ : L2.St} (j : Nat), j ∉ is → ((is.zip vs).foldl (fun s p => s.set p.1 (some p.2)) σ)[j]? = σ[j]?
  | [], _, _, _, _ => rfl
  | i :: is, [], _, _, _ => rfl
  | i :: is, v :: vs, σ, j, h => by
    have h' : j ≠ i ∧ j ∉ is := by simpa [List.mem_cons] using h
    show ((is.zip vs).foldl _ (σ.set i (some v)))[j]? = σ[j]?
    rw [sets_get is vs j h'.2, List.getElem?_set_ne (Ne.symm h'.1)]
theorem sets_len : ∀ (is : List Nat) (vs : List V) {σ : L2.St}, ((is.zip vs).foldl (fun s p => s.set p.1 (some p.2)) σ).length = σ.length
  | [], _, _ => rfl
  | i :: is, [], _ => rfl
  | i :: is, v :: vs, σ => by
    show ((is.zip vs).foldl _ (σ.set i (some v))).length = σ.length
    rw [sets_len is vs, List.length_set]
/-- one of two readings of a target -/
theorem pg_or {X : Cx} {e : Expr} {t1 t2 : TG} (a : PG X e t1) (b : PG X e t2) : PG X e (fun v σ H Q => t1 v σ H Q ∨ t2 v σ H Q) :=
  ⟨fun pins s σ H v u Q i r h => h.elim (a.run pins s σ H v u Q i r) (b.run pins s σ H v u Q i r)⟩
theorem tg_ok {X : Cx} {sc : Scope} {fnf : Str → Bool} {N bs cn gn : List Str} {lvl : Nat} (g : GoodX X sc fnf N bs cn gn Γ G lvl) {tg : Tg} {t : Expr} (h : chkTg N sc fnf tg t = true) : PG X t (LG X.K tg) := by
  cases tg with
  | name i =>
    cases t with
    | Name x p =>
      refine pg_weak (pg_one g (show slotN N sc fnf i x = true from h)) fun v σ H Q ⟨F, st, d, st', r, hE, hb, w⟩ => ?_
      have hb' : some (put st i (.val d)) = some st' := hb
      cases hb'
      exact w _ (r.put hE i) fun ws hi => wipe_eq (by rw [List.length_set]) fun j hj => by
        rw [List.getElem?_set_ne (fun z : i = j => hj (by rw [← z]; exact hi))]
    | _ => cases h
  | tup is =>
    cases t with
    | Tuple es k p =>
      obtain ⟨k1, k2, k3⟩ := names_ok g is es (show namesAt N sc fnf is es = true from h)
      refine pg_weak (pg_or (pg_tup (n := es.length) g.calm k1 (assign_len es) k3) (pg_unl (n := es.length) g.calm k1 (assign_len es) k3)) fun v σ H Q ⟨F, st, d, st', r, hE, hb, w⟩ => ?_
      cases d with
      | tuple ds =>
        have hb' : (if is.length = ds.length then some ((is.zip ds).foldl (fun s p => put s p.1 (.val p.2)) st) else none) = some st' := hb
        split at hb'
        · rename_i hl
          cases hb'
          cases hE with | tup hs ha =>
          have hl2 := ha.length
          exact .inl ⟨_, _, rfl, sqT_mono r.fh hs, by omega, by omega, w _ (sets_rel is _ ds r ha) fun ws hi => wipe_eq (sets_len is _) fun j hj => sets_get is _ j fun z => hj ((show ∀ i ∈ is, i ∈ ws from hi) j z)⟩
        · cases hb'
      | none => cases hb
      | bool _ => cases hb
      | str _ => cases hb
      | list ds =>
        have hb' : (if is.length = ds.length then some ((is.zip ds).foldl (fun s p => put s p.1 (.val p.2)) st) else none) = some st' := hb
        split at hb'
        · rename_i hl
          cases hb'
          cases hE with | lst hs ha =>
          have hl2 := ha.length
          exact .inr ⟨_, _, rfl, SqL.of (r.fh _ _ hs), by omega, by omega, w _ (sets_rel is _ ds r ha) fun ws hi => wipe_eq (sets_len is _) fun j hj => sets_get is _ j fun z => hj ((show ∀ i ∈ is, i ∈ ws from hi) j z)⟩
        · cases hb'
      | int _ => cases hb
      | dict _ => cases hb
    | _ => cases h
theorem own_snd (N : List Str) : ∀ ws, (ownOf N ws).map (·.2) = ws
  | [] => rfl
  | i :: r => by
    show i :: (ownOf N r).map (·.2) = i :: r
    rw [own_snd N r]
end
end PL
namespace PL
open PySem PySem.Spec PyProof.Rows L2

section
variable {Γ : List Sem1} {G : List D} {N bs cn gn : List Str} {lvl : Nat}
theorem boot_of {f : Str} {o : O1} (h : nmOf o = some f) : (o = .len ∧ f = "len") ∨ (o = .abs ∧ f = "abs") ∨ (o = .int ∧ f = "int") ∨ (o = .sum ∧ f = "sum") ∨ (o = .max ∧ f = "max") ∨ (o = .min ∧ f = "min") ∨ (o = .tuple ∧ f = "tuple") ∨ (o = .repr ∧ f = "repr") ∨ (o = .str ∧ f = "str") := by
  cases o <;> first | (cases h; done) | (cases h; simp)
theorem bltin1 {X : Cx} {sc : Scope} {fnf : Str → Bool} (g : GoodX X sc fnf N bs cn gn Γ G lvl) {o : O1} {f : Str} {p pos : Pos} {x : Expr} {a : Ex} (h1 : nmOf o = some f) (h2 : glb sc f = true) (h3 : f ∈ bs) (h4 : notStar x = true) (h5 : PE X x (LE Γ G X.K a)) :
    PE X (.Call (.Name f p) [x] [] pos) (LE Γ G X.K (.o1 o a)) := by
  obtain ⟨hg, hd⟩ := glb_of g h2
  have hm := g.blt f h3
  have hs := star_of h4 [] X.env
  have hp := (NoStars.nil).any X.env pos
  rcases boot_of h1 with ⟨rfl, rfl⟩ | ⟨rfl, rfl⟩ | ⟨rfl, rfl⟩ | ⟨rfl, rfl⟩ | ⟨rfl, rfl⟩ | ⟨rfl, rfl⟩ | ⟨rfl, rfl⟩ | ⟨rfl, rfl⟩ | ⟨rfl, rfl⟩
  · exact pe_b1 (fun k => pe_callB cr_lenD hg hm PySem.boot_len k (by decide) hd hs hp) h5 h4
  · exact pe_b1 (fun k => pe_callB cr_absD hg hm (by decide +kernel) k (by decide) hd hs hp) h5 h4
  · exact pe_b1 (fun k => pe_callTy cr_intD hg hm (by decide +kernel) k (by decide) hd hs hp) h5 h4
  · exact pe_b1 (fun k => pe_callB (cr_sumD g.calm) hg hm (by decide +kernel) k (by decide) hd hs hp) h5 h4
  · exact pe_b1 (fun k => pe_callB (cr_maxD g.calm) hg hm (by decide +kernel) k (by decide) hd hs hp) h5 h4
  · exact pe_b1 (fun k => pe_callB (cr_minD g.calm) hg hm (by decide +kernel) k (by decide) hd hs hp) h5 h4
  · exact pe_b1 (fun k => pe_callTy cr_tupleD hg hm (by decide +kernel) k (by decide) hd hs hp) h5 h4
  · exact pe_b1 (fun k => pe_callB (cr_reprD g.gd g.room.units) hg hm (by decide +kernel) k (by decide) hd hs hp) h5 h4
  · exact pe_b1 (fun k => pe_callTy cr_strD hg hm (by decide +kernel) k (by decide) hd hs hp) h5 h4
theorem isi1 {X : Cx} {sc : Scope} {fnf : Str → Bool} (g : GoodX X sc fnf N bs cn gn Γ G lvl) {f t ty : Str} {p q pos : Pos} {x : Expr} {a : Ex} (e1 : f = "isinstance") (h2 : glb sc f = true) (h3 : f ∈ bs) (e2 : t = ty) (h5 : glb sc t = true) (h6 : t ∈ bs) (h4 : notStar x = true)
    (h7 : PE X x (LE Γ G X.K a)) : PE X (.Call (.Name f p) [x, .Name t q] [] pos) (LE Γ G X.K (.o1 (.isI ty) a)) := by
  subst e1 e2
  obtain ⟨hg, hd⟩ := glb_of g h2
  obtain ⟨hg2, hd2⟩ := glb_of g h5
  have hm := g.blt _ h3
  have hm2 := g.blt _ h6
  have key : ∀ n : String, t = Str.ofString n → bootBuiltins t = some (.type n) → t ≠ "__name__" → (∀ d e, o1D (.isI t) d = some e → (kitB (tyN d) n).map PyData.bool = some e) →
      PE X (.Call (.Name "isinstance" p) [x, .Name t q] [] pos) (LE Γ G X.K (.o1 (.isI t) a)) := fun n hn hb hnn ho =>
    pe_weak (pe_callB (cr_isD n) hg hm (by decide +kernel) (pa_cons h7 (pa_cons (pe_bltn (v := .ty n) hg2 hm2 hb rfl hnn hd2) pa_nil) (star_of h4 _ X.env)) (by decide) hd (star_of h4 _ X.env) (by rfl)) fun σ H Q ⟨F, st, d, r, hv, w⟩ => by
      obtain ⟨dx, e1, hv⟩ := bind2 (show (ev Γ G a st).bind _ = some d from by simpa only [ev] using hv)
      exact ⟨F, st, dx, r, e1, fun v H1 F1 x1 hx => ⟨v, F1, dx, d, rfl, x1.fh, hx, ho dx d hv, fun v H2 F2 e3 hE => w v H2 F2 (x1.trans e3) hE⟩⟩
  by_cases c1 : t = "int"
  · subst c1
    exact key "int" rfl (by decide +kernel) (by decide) fun d e h => by simp only [o1D, ↓reduceIte] at h; exact h
  by_cases c2 : t = "bool"
  · subst c2
    exact key "bool" rfl (by decide +kernel) (by decide) fun d e h => by simp only [o1D, c1, ↓reduceIte] at h; exact h
  by_cases c3 : t = "str"
  · subst c3
    exact key "str" rfl (by decide +kernel) (by decide) fun d e h => by simp only [o1D, c1, c2, ↓reduceIte] at h; exact h
  by_cases c4 : t = "list"
  · subst c4
    exact key "list" rfl (by decide +kernel) (by decide) fun d e h => by simp only [o1D, c1, c2, c3, ↓reduceIte] at h; exact h
  by_cases c5 : t = "tuple"
  · subst c5
    exact key "tuple" rfl (by decide +kernel) (by decide) fun d e h => by simp only [o1D, c1, c2, c3, c4, ↓reduceIte] at h; exact h
  refine pe_never fun σ H Q ⟨F, st, d, r, hv, w⟩ => ?_
  obtain ⟨dx, e1, hv⟩ := bind2 (show (ev Γ G a st).bind _ = some d from by simpa only [ev] using hv)
  simp [o1D, c1, c2, c3, c4, c5] at hv
end
end PL
namespace PL
open PySem PySem.Spec PyProof.Rows L2

section
variable {Γ : List Sem1} {G : List D} {N bs cn gn : List Str} {lvl : Nat}
theorem b2 {a b : Bool} (h : (a && b) = true) : a = true ∧ b = true := Bool.and_eq_true_iff.mp h
theorem dc {p : Prop} [Decidable p] (h : decide p = true) : p := of_decide_eq_true h
theorem li_seq {X : Cx} {tg x : Expr} {a : Ex} (h : PE X x (LE Γ G X.K a)) : PI X tg x (LI Γ G X.K (.seq a)) := pi_weak (pi_seq h) fun σ H R ⟨F, st, ds, r, hv, w⟩ => by
  obtain ⟨d, e1, e2⟩ := bind2 (show (ev Γ G a st).bind _ = some ds from by simpa only [evI] using hv)
  refine ⟨F, st, d, r, e1, fun v H1 F1 x1 hE => ?_⟩
  cases d with
  | list es =>
    cases e2
    cases hE with | lst hs ha =>
    exact .inl ⟨_, _, rfl, SqL.of (x1.fh _ _ hs), fun hz => w _ H1 F1 _ x1 ha (gz_list (SqL.of (x1.fh _ _ hs))) hz fun _ => gz_list (SqL.of hs)⟩
  | tuple es =>
    cases e2
    cases hE with | tup hs ha =>
    exact .inr (.inl ⟨_, _, rfl, sqT_mono x1.fh hs, fun hz => w _ H1 F1 _ x1 ha (gz_tup (sqT_mono x1.fh hs)) hz fun _ => gz_tup hs⟩)
  | str z =>
    have e2' : (if z.length ≤ sizeLine then some (z.cps.toList.map fun c => PyData.str ⟨#[c]⟩) else none) = some ds := e2
    split at e2'
    · rename_i hz
      cases e2'
      cases hE
      refine .inr (.inr ⟨z, rfl, w _ H1 F1 (strL z) x1 (enAll_str z) gz_str ?_ fun _ => gz_str⟩)
      unfold strL
      rw [List.length_map, Array.length_toList]
      exact hz
    · cases e2'
  | none => cases e2
  | bool _ => cases e2
  | int _ => cases e2
  | dict _ => cases e2
theorem li_slot {X : Cx} {sc : Scope} {fnf : Str → Bool} (g : GoodX X sc fnf N bs cn gn Γ G lvl) {tg : Expr} {i : Nat} {y : Str} {p : Pos} (h1 : vis sc y = true) (h2 : N[i]? = some y) : PI X tg (.Name y p) (LI Γ G X.K (.slot i)) := by
  obtain ⟨v1, v2, v3⟩ := vis_of g h1
  refine pi_weak (pi_seq (pe_var (i := i) (by rw [g.N]; exact h2) v1 v2 v3)) fun σ H R ⟨F, st, ds, r, hv, w⟩ => ?_
  have hs := (r.sl i).vw
  cases he : vw (get st i) with
  | old d => exact (vw_old he).elim
  | new d => exact (vw_new he).elim
  | own es =>
    rw [he] at hs
    simp only [evI, he] at hv
    cases hv
    obtain ⟨q, vs, e1, e2, e3, e4⟩ := hs
    exact ⟨_, e1, .inl ⟨_, _, rfl, SqL.of e2, fun hz => w _ H F _ (Ext.refl r.fh) e4 (gz_list (SqL.of e2)) hz fun z => nomatch z⟩⟩
  | no =>
    simp only [evI, he] at hv
    cases hv
  | val d =>
    rw [he] at hs
    simp only [evI, he] at hv
    obtain ⟨v, e1, hE⟩ := hs
    refine ⟨v, e1, ?_⟩
    cases d with
    | list es =>
      cases hv
      cases hE with | lst hs ha =>
      exact .inl ⟨_, _, rfl, SqL.of (r.fh _ _ hs), fun hz => w _ H F _ (Ext.refl r.fh) ha (gz_list (SqL.of (r.fh _ _ hs))) hz fun _ => gz_list (SqL.of hs)⟩
    | tuple es =>
      cases hv
      cases hE with | tup hs ha =>
      exact .inr (.inl ⟨_, _, rfl, sqT_mono r.fh hs, fun hz => w _ H F _ (Ext.refl r.fh) ha (gz_tup (sqT_mono r.fh hs)) hz fun _ => gz_tup hs⟩)
    | str z =>
      have e2' : (if z.length ≤ sizeLine then some (z.cps.toList.map fun c => PyData.str ⟨#[c]⟩) else none) = some ds := hv
      split at e2'
      · rename_i hz
        cases e2'
        cases hE
        refine .inr (.inr ⟨z, rfl, w _ H F (strL z) (Ext.refl r.fh) (enAll_str z) gz_str ?_ fun _ => gz_str⟩)
        unfold strL
        rw [List.length_map, Array.length_toList]
        exact hz
      · cases e2'
    | none => cases hv
    | bool _ => cases hv
    | int _ => cases hv
    | dict _ => cases hv
theorem rngV_len (lo : Int) (n : Nat) : (rngV lo n).length = n := by unfold rngV; rw [List.length_map, List.length_range]
theorem rng_ok {i j : Int} (h : rngOk i j = true) : (-(2 ^ 62) ≤ i ∧ i < 2 ^ 62 ∧ -(2 ^ 62) ≤ j ∧ j < 2 ^ 62) ∧ (j - i).toNat ≤ sizeLine := by
  unfold rngOk at h
  simp only [Bool.and_eq_true, decide_eq_true_eq] at h
  obtain ⟨⟨h1, h2⟩, h3⟩ := h
  have e : ((2 ^ 62 : Nat) : Int) = (2 : Int) ^ 62 := by simp
  exact ⟨⟨by omega, by omega, by omega, by omega⟩, h3⟩
theorem li_rng1 {X : Cx} {sc : Scope} {fnf : Str → Bool} (g : GoodX X sc fnf N bs cn gn Γ G lvl) {tg x : Expr} {a : Ex} {f : Str} {p pos : Pos} (e1 : f = "range") (h2 : glb sc f = true) (h3 : f ∈ bs) (h4 : notStar x = true) (h : PE X x (LE Γ G X.K a)) :
    PI X tg (.Call (.Name f p) [x] [] pos) (LI Γ G X.K (.rng1 a)) := by
  subst e1
  obtain ⟨hg, hd⟩ := glb_of g h2
  refine pi_weak (pi_range1 hg (g.blt _ h3) (pa_cons h pa_nil (star_of h4 [] X.env)) (star_of h4 [] X.env)) fun σ H R ⟨F, st, ds, r, hv, w⟩ => ?_
  obtain ⟨d, e1, e2⟩ := bind2 (show (ev Γ G a st).bind _ = some ds from by simpa only [evI] using hv)
  refine ⟨F, st, d, r, e1, fun v H1 F1 x1 hE => ?_⟩
  cases d with
  | int i =>
    have e2' : (if rngOk 0 i then some (rngL 0 i) else none) = some ds := e2
    split at e2'
    · rename_i hz
      cases e2'
      cases hE
      obtain ⟨⟨_, _, b3, b4⟩, b5⟩ := rng_ok hz
      rw [Int.sub_zero] at b5
      refine ⟨i, rfl, b3, b4, w _ H1 F1 (rngV 0 i.toNat) x1 ?_ gz_rng (by rw [rngV_len]; exact b5) fun _ => gz_rng⟩
      have hr := enAll_rng (K := X.K) (F := F1) 0 i
      rw [Int.sub_zero] at hr
      exact hr
    · cases e2'
  | none => cases e2
  | bool _ => cases e2
  | str _ => cases e2
  | list _ => cases e2
  | tuple _ => cases e2
  | dict _ => cases e2
theorem star2 {x y : Expr} (h4 : notStar x = true) (h5 : notStar y = true) (env : Env) : starEach [x, y] env = [(false, eval x env), (false, eval y env)] := by
  have e1 := star_of h4 [y] env
  have e2 := star_of h5 [] env
  rw [e1, e2]; rfl
theorem li_rng2 {X : Cx} {sc : Scope} {fnf : Str → Bool} (g : GoodX X sc fnf N bs cn gn Γ G lvl) {tg x y : Expr} {a b : Ex} {f : Str} {p pos : Pos} (e1 : f = "range") (h2 : glb sc f = true) (h3 : f ∈ bs) (h4 : notStar x = true) (h5 : notStar y = true) (h : PE X x (LE Γ G X.K a)) (k : PE X y (LE Γ G X.K b)) :
    PI X tg (.Call (.Name f p) [x, y] [] pos) (LI Γ G X.K (.rng2 a b)) := by
  subst e1
  obtain ⟨hg, hd⟩ := glb_of g h2
  have s2 := star_of h5 [] X.env
  have s1 := star2 h4 h5 X.env
  refine pi_weak (pi_range2 hg (g.blt _ h3) (pa_cons h (pa_cons k pa_nil s2) (star_of h4 [y] X.env)) s1 s2) fun σ H R ⟨F, st, ds, r, hv, w⟩ => ?_
  obtain ⟨d, e1, hv⟩ := bind2 (show (ev Γ G a st).bind _ = some ds from by simpa only [evI] using hv)
  obtain ⟨d2, e2, hv⟩ := bind2 hv
  refine ⟨F, st, d, r, e1, fun v H1 F1 x1 hE => ⟨F1, st, d2, r.up x1, e2, fun v2 H2 F2 x2 hE2 => ?_⟩⟩
  cases d with
  | int i =>
    cases d2 with
    | int j =>
      have e2' : (if rngOk i j then some (rngL i j) else none) = some ds := hv
      split at e2'
      · rename_i hz
        cases e2'
        cases hE; cases hE2
        obtain ⟨b1, b5⟩ := rng_ok hz
        exact ⟨i, j, rfl, b1, w _ H2 F2 (rngV i (j - i).toNat) (x1.trans x2) (enAll_rng i j) gz_rng (by rw [rngV_len]; exact b5) fun _ => gz_rng⟩
      · cases e2'
    | none => cases hv
    | bool _ => cases hv
    | str _ => cases hv
    | list _ => cases hv
    | tuple _ => cases hv
    | dict _ => cases hv
  | none => cases hv
  | bool _ => cases hv
  | str _ => cases hv
  | list _ => cases hv
  | tuple _ => cases hv
  | dict _ => cases hv

/-- a comprehension of one clause -/
def LC (Γ : List Sem1) (G : List D) (K : PySem.W.Frag) (cond : Oe) : TT := fun σ H Q => ∃ F st b, RelE K F H st σ ∧ evC Γ G cond st = some b ∧ ∀ H' F', Ext F H F' H' → Q b H'
theorem lc_no {X : Cx} : PTs X [] (LC Γ G X.K .no) := ⟨fun pins s σ H Q I ⟨F, st, b, r, hv, w⟩ => by
  cases (show some true = some b from by simpa only [evC] using hv)
  exact pts_nil.run pins s σ H Q I (w H F (Ext.refl r.fh))⟩
theorem lc_yes {X : Cx} {c : Ex} {y : Expr} (h : PT X y (LT Γ G X.K c)) : PTs X [y] (LC Γ G X.K (.yes c)) := ⟨fun pins s σ H Q I ⟨F, st, b, r, hv, w⟩ => by
  refine (pts_one h).run pins s σ H Q I ?_
  simp only [evC] at hv
  obtain ⟨t, e1, e2⟩ := bind2 hv
  cases t with
  | bool b' => cases e2; exact ⟨F, st, b, r, e1, w⟩
  | none => cases e2
  | int _ => cases e2
  | str _ => cases e2
  | list _ => cases e2
  | tuple _ => cases e2
  | dict _ => cases e2⟩
theorem lf_comp {X : Cx} {sc : Scope} {fnf : Str → Bool} (g : GoodX X sc fnf N bs cn gn Γ G lvl) {x t i : Expr} {ifs : List Expr} {scope : Scope} {elt : Ex} {tg : Tg} {it : Ir} {cond : Oe} {ws : List Nat}
    (hi : PI X t i (LI Γ G X.K it)) (hb : blkC N sc scope (ownOf N ws) = true) (hin : tgIn tg ws)
    (hg : ∀ (s : Shared) (H : Hp) (C : Addr) (cl : List (Str × Addr)) (fp : List Addr), PG (X.blk s H scope (compEnvC scope cl C X.env) fp) t (LG X.K tg))
    (ht : ∀ (s : Shared) (H : Hp) (C : Addr) (cl : List (Str × Addr)) (fp : List Addr), PTs (X.blk s H scope (compEnvC scope cl C X.env) fp) ifs (LC Γ G X.K cond))
    (he : ∀ (s : Shared) (H : Hp) (C : Addr) (cl : List (Str × Addr)) (fp : List Addr), PE (X.blk s H scope (compEnvC scope cl C X.env) fp) x (LE Γ G X.K elt))
    (hset : ∀ y, foldedSetIterable i X.env y = pure y) (σ : L2.St) (H : Hp) (Q : VK) (h : LF Γ G X.K (.comp elt tg it cond ws) σ H Q) :
    tLc (LI Γ G X.K it) (LG X.K tg) (LC Γ G X.K cond) (LE Γ G X.K elt) ((ownOf N ws).map (·.2)) σ H Q := by
  rw [own_snd]
  obtain ⟨F, st, out, r, hv, w⟩ := h
  simp only [evF] at hv
  obtain ⟨ds, e1, e2⟩ := bind2 hv
  refine ⟨F, st, ds, r, e1, fun J H1 F1 vs x1 ha gz hz _ Dl hD => ?_⟩
  refine comp_turns (f := fun d => (bindTg tg d (wipeS st ws)).bind fun st1 => (evC Γ G cond st1).bind fun b => if b then (ev Γ G elt st1).map some else some none) x1.fh hD gz hz ha e2 (fun v d o F2 H2 R R0 x2 hE hf h1 h0 => ?_) fun p H' F' vs' x' h1 h2 h3 h4 => w p H' F' vs' (x1.trans x') ((x1.hh.free h1)) h2 h3 h4
  obtain ⟨st1, b1, b2⟩ := bind2 hf
  have r2 := ((r.up x1).up x2).wipe ws
  refine ⟨F2, wipeS st ws, d, st1, r2, hE, b1, fun σ' rr hw => ⟨(hw ws hin).trans wipe_wipe, ?_⟩⟩
  obtain ⟨b, c1, c2⟩ := bind2 b2
  refine ⟨F2, st1, b, rr, c1, fun H3 F3 x3 => ?_⟩
  cases b with
  | true =>
    rw [if_pos rfl] at c2 ⊢
    obtain ⟨y, c3, c4⟩ := Option.map_eq_some_iff.mp c2
    subst c4
    exact ⟨F3, st1, y, rr.up x3, c3, fun v' H' F' x4 hE' => h1 y rfl v' H' F' (x3.trans x4) hE'⟩
  | false =>
    rw [if_neg Bool.false_ne_true] at c2 ⊢
    cases c2
    exact h0 rfl H3 F3 x3
theorem gz_rev {K : PySem.W.Frag} {B : Hp} {a : Addr} {vs : List V} (h : SqL K B a vs) : Gz (Itv K a vs.length) B vs.reverse := by
  have rv : ∀ i, i < vs.length → vs.reverse[i]? = vs[vs.length - 1 - i]? := fun i hi => List.getElem?_reverse hi
  refine ⟨fun i H s hi => ?_, fun i H x H' s y hi => ?_, fun i H s hi => ?_⟩
  · rw [List.length_reverse] at hi
    exact ⟨hi, vs, vs[vs.length - 1 - i]'(by omega), s.seq h, List.getElem?_eq_getElem (by omega)⟩
  · rw [List.length_reverse] at hi
    obtain ⟨e, k⟩ := y
    exact ⟨e, by rw [rv i hi]; exact k vs (s.seq h)⟩
  · rw [List.length_reverse] at hi
    exact hi
theorem gz_revT {K : PySem.W.Frag} {B : Hp} {a : Addr} {vs : List V} (h : SqT K B a vs) : Gz (RT.ItvT K a vs.length) B vs.reverse := by
  have rv : ∀ i, i < vs.length → vs.reverse[i]? = vs[vs.length - 1 - i]? := fun i hi => List.getElem?_reverse hi
  refine ⟨fun i H s hi => ?_, fun i H x H' s y hi => ?_, fun i H s hi => ?_⟩
  · rw [List.length_reverse] at hi
    exact ⟨hi, vs, vs[vs.length - 1 - i]'(by omega), sqT_mono s h, List.getElem?_eq_getElem (by omega)⟩
  · rw [List.length_reverse] at hi
    obtain ⟨e, k⟩ := y
    exact ⟨e, by rw [rv i hi]; exact k vs (sqT_mono s h)⟩
  · rw [List.length_reverse] at hi
    exact hi
def rng3V (lo c : Int) (n : Nat) : List V := (List.range n).map fun k => V.int (lo + (k : Nat) * c)
theorem gz_rng3 {B : Hp} {lo c : Int} {n : Nat} : Gz (Itc lo c n) B (rng3V lo c n) := by
  have hl : (rng3V lo c n).length = n := by unfold rng3V; simp
  refine ⟨fun i H s hi => by rw [hl] at hi; exact hi, fun i H x H' s y hi => ?_, fun i H s hi => by rw [hl] at hi; exact hi⟩
  rw [hl] at hi
  obtain ⟨e, k⟩ := y
  refine ⟨e, ?_⟩
  unfold rng3V
  rw [List.getElem?_map, List.getElem?_range hi, k]; rfl
theorem enAll_rng3 {K : PySem.W.Frag} {F : Hp} (lo c : Int) (n : Nat) : EnAll K F (rng3V lo c n) (rng3L lo c n) := by
  unfold rng3V rng3L
  generalize List.range n = l
  induction l with
  | nil => exact .nil
  | cons k r ih => exact .cons (.int _) ih
theorem li_rvd {X : Cx} {sc : Scope} {fnf : Str → Bool} (g : GoodX X sc fnf N bs cn gn Γ G lvl) {tg x : Expr} {a : Ex} {f : Str} {p pos : Pos} (e1 : f = "reversed") (h2 : glb sc f = true) (h3 : f ∈ bs) (h4 : notStar x = true) (h : PE X x (LE Γ G X.K a)) :
    PI X tg (.Call (.Name f p) [x] [] pos) (LI Γ G X.K (.rvd a)) := by
  subst e1
  obtain ⟨hg, hd⟩ := glb_of g h2
  refine pi_weak (RT.pi_revA hg (g.blt _ h3) h (star_of h4 [] X.env)) fun σ H R ⟨F, st, ds, r, hv, w⟩ => ?_
  obtain ⟨d, e1, hv⟩ := bind2 (show (ev Γ G a st).bind _ = some ds from by simpa only [evI] using hv)
  refine ⟨F, st, d, r, e1, fun v H1 F1 x1 hE => ?_⟩
  cases d with
  | list es =>
    have hv' : (if es.length ≤ sizeLine then some es.reverse else none) = some ds := hv
    split at hv'
    · rename_i hz
      cases hv'
      cases hE with | lst hs ha =>
      have hq := SqL.of (K := X.K) (x1.fh _ _ hs)
      exact ⟨_, _, rfl, .inl ⟨hq, w _ H1 F1 _ x1 ha.reverse (gz_rev hq) (by rw [List.length_reverse, ha.length]; exact hz) fun _ => gz_rev (SqL.of hs)⟩⟩
    · cases hv'
  | tuple es =>
    have hv' : (if es.length ≤ sizeLine then some es.reverse else none) = some ds := hv
    split at hv'
    · rename_i hz
      cases hv'
      cases hE with | tup hs ha =>
      have hq := sqT_mono x1.fh hs
      exact ⟨_, _, rfl, .inr ⟨hq, w _ H1 F1 _ x1 ha.reverse (gz_revT hq) (by rw [List.length_reverse, ha.length]; exact hz) fun _ => gz_revT hs⟩⟩
    · cases hv'
  | none => cases hv
  | bool _ => cases hv
  | int _ => cases hv
  | str _ => cases hv
  | dict _ => cases hv
theorem li_rng3 {X : Cx} {sc : Scope} {fnf : Str → Bool} (g : GoodX X sc fnf N bs cn gn Γ G lvl) {tg x y z : Expr} {a b c : Ex} {f : Str} {p pos : Pos} (e1 : f = "range") (h2 : glb sc f = true) (h3 : f ∈ bs) (h4 : notStar x = true) (h5 : notStar y = true) (h6 : notStar z = true) (h : PE X x (LE Γ G X.K a)) (k : PE X y (LE Γ G X.K b)) (l : PE X z (LE Γ G X.K c)) :
    PI X tg (.Call (.Name f p) [x, y, z] [] pos) (LI Γ G X.K (.rng3 a b c)) := by
  subst e1
  obtain ⟨hg, hd⟩ := glb_of g h2
  refine pi_weak (pi_range3 hg (g.blt _ h3) (pa_cons h (pa_cons k (pa_cons l pa_nil (star_of h6 [] X.env)) (star_of h5 [z] X.env)) (star_of h4 [y, z] X.env)) (star_of h4 [y, z] X.env) ((NoStars.cons h5 (.cons h6 .nil)).any X.env pos)) fun σ H R ⟨F, st, ds, r, hv, w⟩ => ?_
  obtain ⟨d, e1, hv⟩ := bind2 (show (ev Γ G a st).bind _ = some ds from by simpa only [evI] using hv)
  obtain ⟨d2, e2, hv⟩ := bind2 hv
  obtain ⟨d3, e3, hv⟩ := bind2 hv
  refine ⟨F, st, d, r, e1, fun v H1 F1 x1 hE => ⟨F1, st, d2, r.up x1, e2, fun v2 H2 F2 x2 hE2 => ⟨F2, st, d3, (r.up x1).up x2, e3, fun v3 H3 F3 x3 hE3 => ?_⟩⟩⟩
  cases d with
  | int i =>
    cases d2 with
    | int j =>
      cases d3 with
      | int m =>
        have e2' : (if rng3Ok i j m then some (rng3L i m (Builtin.Range.rangeSize i j m).toNat) else none) = some ds := hv
        split at e2'
        · rename_i hz
          cases e2'
          cases hE; cases hE2; cases hE3
          unfold rng3Ok at hz
          simp only [Bool.and_eq_true, decide_eq_true_eq] at hz
          obtain ⟨⟨⟨⟨z1, z2⟩, z3⟩, z4⟩, z5⟩ := hz
          exact ⟨i, j, m, (Builtin.Range.rangeSize i j m).toNat, rfl, ⟨z1, z2, z3, z4.symm⟩, w _ H3 F3 (rng3V i m _) ((x1.trans x2).trans x3) (enAll_rng3 i m _) gz_rng3 (by unfold rng3V; simpa using z5) fun _ => gz_rng3⟩
        · cases e2'
      | none => cases hv
      | bool _ => cases hv
      | str _ => cases hv
      | list _ => cases hv
      | tuple _ => cases hv
      | dict _ => cases hv
    | none => cases hv
    | bool _ => cases hv
    | str _ => cases hv
    | list _ => cases hv
    | tuple _ => cases hv
    | dict _ => cases hv
  | none => cases hv
  | bool _ => cases hv
  | str _ => cases hv
  | list _ => cases hv
  | tuple _ => cases hv
  | dict _ => cases hv
end
end PL
namespace PL
open PySem PySem.Spec PyProof.Rows L2

section
variable {Γ : List Sem1} {G : List D} {N bs cn gn : List Str} {lvl : Nat}
/-- the arguments of a built-in of two -/
theorem two_args {X : Cx} {sc : Scope} {fnf : Str → Bool} (g : GoodX X sc fnf N bs cn gn Γ G lvl) {f : Str} {p pos : Pos} {x y : Expr} {a b : Ex} {id : String} {ff : D → D → Option D} {il : Ex} (hc : CallR X (.builtin id) (rC2 X.K ff)) (hv : bootBuiltins f = some (.builtin id)) (hn : f ≠ "__name__")
    (h2 : glb sc f = true) (h3 : f ∈ bs) (h4 : notStar x = true) (h5 : notStar y = true) (ha : PE X x (LE Γ G X.K a)) (hb : PE X y (LE Γ G X.K b))
    (hev : ∀ st d, ev Γ G il st = some d → ∃ dx dy, ev Γ G a st = some dx ∧ ev Γ G b st = some dy ∧ ff dx dy = some d) : PE X (.Call (.Name f p) [x, y] [] pos) (LE Γ G X.K il) := by
  obtain ⟨hg, hd⟩ := glb_of g h2
  refine pe_weak (pe_callB hc hg (g.blt f h3) hv (pa_cons ha (pa_cons hb pa_nil (star_of h5 [] X.env)) (star_of h4 [y] X.env)) hn hd (star_of h4 [y] X.env) ((NoStars.cons h5 .nil).any X.env pos)) fun σ H Q ⟨F, st, d, r, hv, w⟩ => ?_
  obtain ⟨dx, dy, e1, e2, e3⟩ := hev st d hv
  exact ⟨F, st, dx, r, e1, fun v H1 F1 x1 hx => ⟨F1, st, dy, r.up x1, e2, fun v2 H2 F2 x2 hy => ⟨v, v2, F2, dx, dy, d, rfl, x2.fh, hx.up x2.ff, hy, e3, fun v3 H3 F3 x3 hE => w v3 H3 F3 ((x1.trans x2).trans x3) hE⟩⟩⟩
/-- the arguments of a built-in of three -/
theorem three_args {X : Cx} {sc : Scope} {fnf : Str → Bool} (g : GoodX X sc fnf N bs cn gn Γ G lvl) {f : Str} {p pos : Pos} {x y z : Expr} {a b c : Ex} {id : String} {ff : D → D → D → Option D} {il : Ex} (hc : CallR X (.builtin id) (rC3 X.K ff)) (hv : bootBuiltins f = some (.builtin id)) (hn : f ≠ "__name__")
    (h2 : glb sc f = true) (h3 : f ∈ bs) (h4 : notStar x = true) (h5 : notStar y = true) (h6 : notStar z = true) (ha : PE X x (LE Γ G X.K a)) (hb : PE X y (LE Γ G X.K b)) (hz : PE X z (LE Γ G X.K c))
    (hev : ∀ st d, ev Γ G il st = some d → ∃ dx dy dz, ev Γ G a st = some dx ∧ ev Γ G b st = some dy ∧ ev Γ G c st = some dz ∧ ff dx dy dz = some d) : PE X (.Call (.Name f p) [x, y, z] [] pos) (LE Γ G X.K il) := by
  obtain ⟨hg, hd⟩ := glb_of g h2
  refine pe_weak (pe_callB hc hg (g.blt f h3) hv (pa_cons ha (pa_cons hb (pa_cons hz pa_nil (star_of h6 [] X.env)) (star_of h5 [z] X.env)) (star_of h4 [y, z] X.env)) hn hd (star_of h4 [y, z] X.env) ((NoStars.cons h5 (.cons h6 .nil)).any X.env pos)) fun σ H Q ⟨F, st, d, r, hv, w⟩ => ?_
  obtain ⟨dx, dy, dz, e1, e2, e3, e4⟩ := hev st d hv
  exact ⟨F, st, dx, r, e1, fun v H1 F1 x1 hx => ⟨F1, st, dy, r.up x1, e2, fun v2 H2 F2 x2 hy => ⟨F2, st, dz, (r.up x1).up x2, e3, fun v3 H3 F3 x3 hq => ⟨v, v2, v3, F3, dx, dy, dz, d, rfl, x3.fh, (hx.up x2.ff).up x3.ff, hy.up x3.ff, hq, e4, fun v4 H4 F4 x4 hE => w v4 H4 F4 (((x1.trans x2).trans x3).trans x4) hE⟩⟩⟩⟩
theorem slice_tup {X : Cx} {x : Expr} {l h : Option Expr} {p2 pos : Pos} {a : Ex} {lo hi : Oe} (ha : PE X x (LE Γ G X.K a)) (hl : PO X l (LO Γ G X.K lo)) (hh : PO X h (LO Γ G X.K hi)) :
    PE X (.Subscript x (.Slice l h none p2) pos) (LE Γ G X.K (.slt a lo hi)) := pe_weak (pe_slice sl_tup ha hl hh) fun σ H Q ⟨F, st, d, r, hv, w⟩ => by
  obtain ⟨dx, e1, hv⟩ := bind2 (show (ev Γ G a st).bind _ = some d from by simpa only [ev] using hv)
  obtain ⟨l', e2, hv⟩ := bind2 hv
  obtain ⟨h', e3, hv⟩ := bind2 hv
  refine ⟨F, st, dx, r, e1, fun v H1 F1 x1 hx => ⟨F1, st, l', r.up x1, e2, fun H2 F2 x2 => ⟨F2, st, h', (r.up x1).up x2, e3, fun H3 F3 x3 => ?_⟩⟩⟩
  cases dx with
  | tuple ds =>
    have hv' : (if HT.sIx ds.length 0 l' = 0 ∧ HT.sIx ds.length ds.length h' = ds.length then none else some (PyData.tuple (cutL ds l' h'))) = some d := hv
    split at hv'
    · cases hv'
    · rename_i hw
      cases hv'
      cases hx with | tup hs ha =>
      have e23 : Same F1 F3 := x2.ff.trans x3.ff
      refine ⟨_, _, rfl, sqT_mono (e23.trans x3.fh) hs, by rw [ha.length]; exact hw, fun q hq => ?_⟩
      have hA := (ha.up e23).cut l' h'
      exact w _ _ _ ((((x1.trans x2).trans x3)).trans (Ext.new x3.fh hq)) (.tup (SqT.of upd_same) (hA.up (same_new (x3.fh.free hq))))
  | none => cases hv
  | bool _ => cases hv
  | int _ => cases hv
  | str _ => cases hv
  | list _ => cases hv
  | dict _ => cases hv
theorem slice_stp {X : Cx} {x y : Expr} {l h : Option Expr} {p2 pos : Pos} {a k : Ex} {lo hi : Oe} (ha : PE X x (LE Γ G X.K a)) (hl : PO X l (LO Γ G X.K lo)) (hh : PO X h (LO Γ G X.K hi)) (hk : PE X y (LE Γ G X.K k)) :
    PE X (.Subscript x (.Slice l h (some y) p2) pos) (LF Γ G X.K (.stp a lo hi k)) := pe_weak (pe_step ha hl hh (po_some hk)) fun σ H Q ⟨F, st, d, r, hv, w⟩ => by
  obtain ⟨dx, e1, hv⟩ := bind2 (show (ev Γ G a st).bind _ = some d from by simpa only [evF] using hv)
  obtain ⟨l', e2, hv⟩ := bind2 hv
  obtain ⟨h', e3, hv⟩ := bind2 hv
  obtain ⟨k', e4, hv⟩ := bind2 hv
  cases dx with
  | list ds =>
    cases k' with
    | int i =>
      replace hv : (if i ≠ 0 ∧ (pickG ds l' h' (some i)).length ≤ sizeLine then some (pickG ds l' h' (some i)) else none) = some d := hv
      split at hv
      · rename_i hc
        cases hv
        refine ⟨F, st, .list ds, r, e1, fun v H1 F1 x1 hx => ⟨F1, st, l', r.up x1, e2, fun H2 F2 x2 => ⟨F2, st, h', (r.up x1).up x2, e3, fun H3 F3 x3 => ⟨F3, st, .int i, ((r.up x1).up x2).up x3, e4, fun v4 H4 F4 x4 hx4 => ?_⟩⟩⟩⟩
        cases hx4
        cases hx with | lst hs ha =>
        have x14 := ((x1.trans x2).trans x3).trans x4
        have e24 : Same F1 F4 := (x2.ff.trans x3.ff).trans x4.ff
        have hp := (ha.up e24).pick l' h' (some i)
        refine ⟨i, rfl, _, _, rfl, sqL_mono (e24.trans x4.fh) (SqL.of hs), ?_, by rw [hp.length]; exact hc.2, fun q hq => ?_⟩
        · intro z; cases z; exact hc.1 rfl
        · exact w q _ F4 _ (x14.trans (Ext.loose x4.fh hq)) (x14.hh.free hq) (x4.fh.free hq) upd_same hp
      · cases hv
    | none => cases hv
    | bool _ => cases hv
    | str _ => cases hv
    | list _ => cases hv
    | tuple _ => cases hv
    | dict _ => cases hv
  | none => cases hv
  | bool _ => cases hv
  | int _ => cases hv
  | str _ => cases hv
  | tuple _ => cases hv
  | dict _ => cases hv
theorem slice_lst {X : Cx} {x : Expr} {l h : Option Expr} {p2 pos : Pos} {a : Ex} {lo hi : Oe} (ha : PE X x (LE Γ G X.K a)) (hl : PO X l (LO Γ G X.K lo)) (hh : PO X h (LO Γ G X.K hi)) :
    PE X (.Subscript x (.Slice l h none p2) pos) (LF Γ G X.K (.sl a lo hi)) := pe_weak (pe_slice sl_list ha hl hh) fun σ H Q ⟨F, st, d, r, hv, w⟩ => by
  obtain ⟨dx, e1, hv⟩ := bind2 (show (ev Γ G a st).bind _ = some d from by simpa only [evF] using hv)
  obtain ⟨l', e2, hv⟩ := bind2 hv
  obtain ⟨h', e3, hv⟩ := bind2 hv
  refine ⟨F, st, dx, r, e1, fun v H1 F1 x1 hx => ⟨F1, st, l', r.up x1, e2, fun H2 F2 x2 => ⟨F2, st, h', (r.up x1).up x2, e3, fun H3 F3 x3 => ?_⟩⟩⟩
  have x13 := (x1.trans x2).trans x3
  have e23 : Same F1 F3 := x2.ff.trans x3.ff
  have fin : ∀ {p : Addr} {vs : List V} {ds : List D}, SqL X.K F1 p vs → EnAll X.K F1 vs ds → d = cutL ds l' h' → rSlL X.K (.ref p) l' h' H3 Q := fun {p vs ds} hs ha hd => by
    subst hd
    refine ⟨_, _, rfl, sqL_mono (e23.trans x3.fh) hs, fun q hq => ?_⟩
    have hA := (ha.up e23).cut l' h'
    exact w q _ F3 _ (x13.trans (Ext.loose x3.fh hq)) (x13.hh.free hq) (x3.fh.free hq) upd_same hA
  cases dx with
  | list ds =>
    cases hv
    cases hx with | lst hs ha => exact fin (SqL.of hs) ha rfl
  | dict ds =>
    cases hx with | scr hs =>
    cases hv
    exact fin hs (enAll_ints _) rfl
  | none => cases hv
  | bool _ => cases hv
  | int _ => cases hv
  | str _ => cases hv
  | tuple _ => cases hv
theorem slice_var {X : Cx} {sc : Scope} {fnf : Str → Bool} (g : GoodX X sc fnf N bs cn gn Γ G lvl) {i : Nat} {y : Str} {p : Pos} (h1 : vis sc y = true) (h2 : N[i]? = some y) {l h : Option Expr} {p2 pos : Pos} {lo hi : Oe} (hl : PO X l (LO Γ G X.K lo)) (hh : PO X h (LO Γ G X.K hi)) :
    PE X (.Subscript (.Name y p) (.Slice l h none p2) pos) (LF Γ G X.K (.slv i lo hi)) := by
  obtain ⟨v1, v2, v3⟩ := vis_of g h1
  refine pe_weak (pe_slice sl_list (pe_var (i := i) (by rw [g.N]; exact h2) v1 v2 v3) hl hh) fun σ H Q ⟨F, st, d, r, hv, w⟩ => ?_
  obtain ⟨l', e2, hv⟩ := bind2 (show (evO Γ G lo st).bind _ = some d from by simpa only [evF] using hv)
  obtain ⟨h', e3, hv⟩ := bind2 hv
  have hs := (r.sl i).vw
  cases he : vw (get st i) with
  | old d => exact (vw_old he).elim
  | new d => exact (vw_new he).elim
  | no => simp only [he] at hv; cases hv
  | own ds =>
    rw [he] at hs hv
    obtain ⟨q, vs, e1, f2, f3, f4⟩ := hs
    have hv' : some (cutL ds l' h') = some d := hv
    cases hv'
    refine ⟨_, e1, F, st, l', r, e2, fun H2 F2 x2 => ⟨F2, st, h', r.up x2, e3, fun H3 F3 x3 => ?_⟩⟩
    have x23 := x2.trans x3
    refine ⟨_, _, rfl, SqL.of (x23.hh _ _ f2), fun q hq => ?_⟩
    exact w q _ F3 _ (x23.trans (Ext.loose x3.fh hq)) (x23.hh.free hq) (x3.fh.free hq) upd_same ((f4.up x23.ff).cut l' h')
  | val dx =>
    rw [he] at hs hv
    obtain ⟨v, e1, hE⟩ := hs
    refine ⟨_, e1, F, st, l', r, e2, fun H2 F2 x2 => ⟨F2, st, h', r.up x2, e3, fun H3 F3 x3 => ?_⟩⟩
    have x23 := x2.trans x3
    cases dx with
    | list ds =>
      have hv' : some (cutL ds l' h') = some d := hv
      cases hv'
      cases hE with | lst hs ha =>
      refine ⟨_, _, rfl, SqL.of (x3.fh _ _ (x23.ff _ _ hs)), fun q hq => ?_⟩
      exact w q _ F3 _ (x23.trans (Ext.loose x3.fh hq)) (x23.hh.free hq) (x3.fh.free hq) upd_same ((ha.up x23.ff).cut l' h')
    | none => cases hv
    | bool _ => cases hv
    | int _ => cases hv
    | str _ => cases hv
    | tuple _ => cases hv
    | dict _ => cases hv
theorem ix_var {X : Cx} {sc : Scope} {fnf : Str → Bool} (g : GoodX X sc fnf N bs cn gn Γ G lvl) {i : Nat} {y : Str} {p pos : Pos} {b : Expr} {ib : Ex} (h1 : vis sc y = true) (h2 : N[i]? = some y) (hb : PE X b (LE Γ G X.K ib)) (hs : notSlice b = true) : PE X (.Subscript (.Name y p) b pos) (LE Γ G X.K (.ixv i ib)) := by
  obtain ⟨v1, v2, v3⟩ := vis_of g h1
  refine pe_weak (pe_ix ix_seq (pe_var (i := i) (by rw [g.N]; exact h2) v1 v2 v3) hb (slice_of hs)) fun σ H Q ⟨F, st, d, r, hv, w⟩ => ?_
  obtain ⟨dy, e2, hv⟩ := bind2 (show (ev Γ G ib st).bind _ = some d from by simpa only [ev] using hv)
  have hsl := (r.sl i).vw
  cases he : vw (get st i) with
  | old d => exact (vw_old he).elim
  | new d => exact (vw_new he).elim
  | no => simp only [he] at hv; cases hv
  | own ds =>
    rw [he] at hsl hv
    obtain ⟨q, vs, e1, f2, f3, f4⟩ := hsl
    refine ⟨_, e1, F, st, dy, r, e2, fun v H2 F2 x2 hE => ?_⟩
    cases dy with
    | int k =>
      cases hE
      obtain ⟨u, a1, a2⟩ := atI_en f4 (show atI ds k = some d from hv)
      exact .inl ⟨_, _, _, u, rfl, rfl, SqL.of (x2.hh _ _ f2), a1, w u H2 F2 x2 (a2.up x2.ff)⟩
    | none => cases hv
    | bool _ => cases hv
    | list _ => cases hv
    | str _ => cases hv
    | tuple _ => cases hv
    | dict _ => cases hv
  | val dx =>
    rw [he] at hsl hv
    obtain ⟨v0, e1, hE0⟩ := hsl
    refine ⟨_, e1, F, st, dy, r, e2, fun v H2 F2 x2 hE => ?_⟩
    have hv' : ixD dx dy = some d := hv
    unfold ixD at hv'
    split at hv'
    · cases hE
      cases hE0 with | lst hq ha =>
      obtain ⟨u, a1, a2⟩ := atI_en ha hv'
      exact .inl ⟨_, _, _, u, rfl, rfl, SqL.of (x2.fh _ _ (x2.ff _ _ hq)), a1, w u H2 F2 x2 (a2.up x2.ff)⟩
    · cases hE
      cases hE0 with | tup hq ha =>
      obtain ⟨u, a1, a2⟩ := atI_en ha hv'
      exact .inr (.inl ⟨_, _, _, u, rfl, rfl, sqT_mono (x2.ff.trans x2.fh) hq, a1, w u H2 F2 x2 (a2.up x2.ff)⟩)
    · cases hE; cases hE0
      split at hv'
      · obtain ⟨c, a1, a2⟩ := Option.map_eq_some_iff.mp hv'
        subst a2
        exact .inr (.inr ⟨_, _, c, rfl, rfl, by assumption, a1, w _ H2 F2 x2 (.str _)⟩)
      · cases hv'
    · cases hv'
end
end PL
namespace PL
open PySem PySem.Spec PyProof.Rows L2

section
variable {Γ : List Sem1} {G : List D} {N bs cn gn : List Str} {lvl : Nat}
theorem chks_nostar {sc : Scope} : ∀ (es : Exs) (xs : List Expr), chks N bs cn gn sc es xs = true → NoStars xs
  | .nil, [], _ => .nil
  | .nil, _ :: _, h => by simp [chks] at h
  | .cons a as, [], h => by simp [chks] at h
  | .cons a as, x :: xs, h => by
    simp only [chks, Bool.and_eq_true] at h
    exact .cons h.1.1 (chks_nostar as xs h.2)
theorem inTg {tg : Tg} {ws : List Nat} (h : (match tg with | .name i => ws.contains i | .tup is => is.all fun i => ws.contains i) = true) : tgIn tg ws := by
  cases tg with
  | name i => exact (List.contains_iff_mem).mp h
  | tup is => exact fun i hi => (List.contains_iff_mem).mp (List.all_eq_true.mp h i hi)
theorem call_pe {X : Cx} {sc : Scope} {fnf : Str → Bool} (g : GoodX X sc fnf N bs cn gn Γ G lvl) {f : Str} {j : Nat} {p pos : Pos} {xs : List Expr} {es : Exs} (h1 : glb sc f = true) (h2 : cn[j]? = some f) (h3 : xs ≠ []) (hn : NoStars xs) (ha : PA X xs (LA Γ G X.K es)) :
    PE X (.Call (.Name f p) xs [] pos) (LE Γ G X.K (.call j es)) := by
  obtain ⟨hg, hd⟩ := glb_of g h1
  cases hj : Γ[j]? with
  | none =>
    refine pe_never fun σ H Q ⟨F, st, d, r, hv, w⟩ => ?_
    simp only [ev, hj] at hv
    obtain ⟨_, _, e2⟩ := bind2 hv
    cases e2
  | some sem =>
    obtain ⟨nm, fa, fd, ps, c1, c2, c3, c4, c5⟩ := g.fns j sem hj
    rw [h2] at c1
    cases c1
    cases xs with
    | nil => exact absurd rfl h3
    | cons x xs =>
      cases hn with
      | cons hn1 hn2 =>
        refine pe_weak (pe_callG c5 g.room g.gd hg c2 c3 c4 ha hd (star_of hn1 xs X.env) (hn2.any X.env pos)) fun σ H Q ⟨F, st, d, r, hv, w⟩ => ?_
        simp only [ev, hj] at hv
        obtain ⟨ds, e1, e2⟩ := bind2 hv
        refine ⟨F, st, ds, r, e1, fun vs H' F' x' hA => ?_⟩
        show spP X.K sem (vs ++ []) H' Q E0
        rw [List.append_nil]
        exact ⟨F', ds, d, x'.fh, hA, e2, fun v H2 F2 x2 hE => w v H2 F2 (x'.trans x2) hE⟩
theorem lsv_pe {X : Cx} {sc : Scope} {fnf : Str → Bool} (g : GoodX X sc fnf N bs cn gn Γ G lvl) {f y : Str} {i : Nat} {p pos p2 : Pos} (e0 : f = "list") (h1 : glb sc f = true) (hb : f ∈ bs) (h2 : vis sc y = true) (h3 : N[i]? = some y) :
    PE X (.Call (.Name f p) [.Name y p2] [] pos) (LF Γ G X.K (.lsv i)) := by
  subst e0
  obtain ⟨hg, hd⟩ := glb_of g h1
  obtain ⟨v1, v2, v3⟩ := vis_of g h2
  have hy : notStar (.Name y p2) = true := rfl
  refine pe_weak (pe_callTy call_list_of hg (g.blt _ hb) (by decide +kernel) (pa_cons (pe_var (i := i) (by rw [g.N]; exact h3) v1 v2 v3) pa_nil (star_of hy [] X.env)) (by decide) hd (star_of hy [] X.env) ((NoStars.nil).any X.env _)) fun σ H Q ⟨F, st, d, r, hv, w⟩ => ?_
  have hs := (r.sl i).vw
  simp only [evF] at hv
  cases he : vw (get st i) with
  | old d => exact (vw_old he).elim
  | new d => exact (vw_new he).elim
  | no => rw [he] at hv; cases hv
  | own ds =>
    rw [he] at hs hv
    obtain ⟨q, vs, e1, f2, f3, f4⟩ := hs
    cases hv
    exact ⟨_, e1, q, vs, rfl, .inl (SqL.of f2), fun l hl => w l _ F _ (Ext.loose r.fh hl) hl (r.fh.free hl) upd_same f4⟩
  | val dx =>
    rw [he] at hs hv
    obtain ⟨v, e1, hE⟩ := hs
    cases dx with
    | list ds =>
      cases hv
      cases hE with | lst hq ha =>
      exact ⟨_, e1, _, _, rfl, .inl (SqL.of (r.fh _ _ hq)), fun l hl => w l _ F _ (Ext.loose r.fh hl) hl (r.fh.free hl) upd_same ha⟩
    | tuple ds =>
      cases hv
      cases hE with | tup hq ha =>
      exact ⟨_, e1, _, _, rfl, .inr (sqT_mono r.fh hq), fun l hl => w l _ F _ (Ext.loose r.fh hl) hl (r.fh.free hl) upd_same ha⟩
    | none => cases hv
    | bool _ => cases hv
    | int _ => cases hv
    | str _ => cases hv
    | dict _ => cases hv
theorem addV_pe {X : Cx} {sc : Scope} {fnf : Str → Bool} (g : GoodX X sc fnf N bs cn gn Γ G lvl) {x : Str} {i : Nat} {p pos : Pos} {a : Ex} {y : Expr} (h1 : vis sc x = true) (h2 : N[i]? = some x) (hy : PE X y (LE Γ G X.K a)) :
    PE X (.BinOp (.Name x p) .Add y pos) (LF Γ G X.K (.addV i a)) := by
  obtain ⟨v1, v2, v3⟩ := vis_of g h1
  refine pe_weak (pe_op op_cat (pe_var (i := i) (by rw [g.N]; exact h2) v1 v2 v3) hy) fun σ H Q ⟨F, st, d, r, hv, w⟩ => ?_
  have hs := (r.sl i).vw
  simp only [evF] at hv
  obtain ⟨dy, ey, hv⟩ := bind2 hv
  cases he : vw (get st i) with
  | old d => exact (vw_old he).elim
  | new d => exact (vw_new he).elim
  | no => rw [he] at hv; cases hv
  | val dx => rw [he] at hv; cases hv
  | own ds =>
    rw [he] at hv hs
    cases dy with
    | list es =>
      have hv' : (if (ds ++ es).length ≤ sizeLine then some (ds ++ es) else none) = some d := hv
      split at hv'
      · rename_i hz
        cases hv'
        obtain ⟨q, vs, e1, f2, f3, f4⟩ := hs
        refine ⟨_, e1, F, st, .list es, r, ey, fun v H' F' x' hE => ?_⟩
        have hs' := ((r.up x').sl i).vw
        rw [he] at hs'
        obtain ⟨q', vs', e1', f2', f3', f4'⟩ := hs'
        cases e1.symm.trans e1'
        cases hE with | lst hq ha =>
        refine ⟨_, _, _, _, rfl, rfl, f2', x'.fh _ _ hq, ?_, fun l hl => ?_⟩
        · rw [f4'.length, ha.length, ← List.length_append]; exact hz
        · exact w l _ F' _ (x'.trans (Ext.loose x'.fh hl)) (x'.hh.free hl) (x'.fh.free hl) upd_same (f4'.append ha)
      · cases hv'
    | none => cases hv
    | bool _ => cases hv
    | int _ => cases hv
    | str _ => cases hv
    | tuple _ => cases hv
    | dict _ => cases hv
theorem callF_pe {X : Cx} {sc : Scope} {fnf : Str → Bool} (g : GoodX X sc fnf N bs cn gn Γ G lvl) {f : Str} {j : Nat} {p pos : Pos} {xs : List Expr} {es : Exs} (h1 : glb sc f = true) (h2 : cn[j]? = some f) (h3 : xs ≠ []) (h4 : gn.contains f = true) (hn : NoStars xs) (ha : PA X xs (LA Γ G X.K es)) :
    PE X (.Call (.Name f p) xs [] pos) (LF Γ G X.K (.callF j es)) := by
  obtain ⟨hg, hd⟩ := glb_of g h1
  cases hj : Γ[j]? with
  | none =>
    refine pe_never fun σ H Q ⟨F, st, d, r, hv, w⟩ => ?_
    simp only [evF, hj] at hv
    obtain ⟨_, _, e2⟩ := bind2 hv
    cases e2
  | some sem =>
    obtain ⟨fa, fd, ps, c2, c3, c4, c5⟩ := g.frs j sem f hj h2 h4
    cases xs with
    | nil => exact absurd rfl h3
    | cons x xs =>
      cases hn with
      | cons hn1 hn2 =>
        refine pe_weak (pe_callG c5 g.room g.gd hg c2 c3 c4 ha hd (star_of hn1 xs X.env) (hn2.any X.env pos)) fun σ H Q ⟨F, st, d, r, hv, w⟩ => ?_
        simp only [evF, hj] at hv
        obtain ⟨ds, e1, e2⟩ := bind2 hv
        obtain ⟨dx, e3, e4⟩ := bind2 (show (sem ds).bind _ = some d from e2)
        cases dx with
        | list ys =>
          cases e4
          refine ⟨F, st, ds, r, e1, fun vs H' F' x' hA => ?_⟩
          show spO X.K sem (vs ++ []) H' Q E0
          rw [List.append_nil]
          exact ⟨F', ds, d, x'.fh, hA, e3, fun p H2 F2 vs2 x2 k1 k2 k3 k4 => w p H2 F2 vs2 (x'.trans x2) (x'.hh.free k1) k2 k3 k4⟩
        | none => cases e4
        | bool _ => cases e4
        | int _ => cases e4
        | str _ => cases e4
        | tuple _ => cases e4
        | dict _ => cases e4
theorem glb_pe {X : Cx} {sc : Scope} {fnf : Str → Bool} (g : GoodX X sc fnf N bs cn gn Γ G lvl) {x : Str} {j : Nat} {p : Pos} (h1 : glb sc x = true) (h2 : gn[j]? = some x) : PE X (.Name x p) (LE Γ G X.K (.glb j)) := by
  obtain ⟨hg, hd⟩ := glb_of g h1
  cases hj : G[j]? with
  | none =>
    refine pe_never fun σ H Q ⟨F, st, d, r, hv, w⟩ => ?_
    simp only [ev, hj] at hv
    cases hv
  | some d =>
    obtain ⟨nm, u, v, c1, c2, c3, c4⟩ := g.glb j d hj
    rw [h2] at c1
    cases c1
    refine pe_weak (pe_glob hg c2 c3 hd) fun σ H Q ⟨F, st, d', r, hv, w⟩ => ?_
    simp only [ev, hj] at hv
    cases hv
    exact w.now r.fh (c4 F)
theorem band_true {α : Type} {b : Bool} {x : α} : (match some (PyData.bool b) with | some (.bool true) => some x | _ => none) = if b then some x else none := by cases b <;> rfl

theorem idx_pe {X : Cx} {sc : Scope} {fnf : Str → Bool} (g : GoodX X sc fnf N bs cn gn Γ G lvl) {o v : Expr} {m : Str} {a b : Ex} {apos cpos : Pos} (hm : m = "index") (h2 : notStar v = true) (h3 : (apos.endLine == cpos.line) = true) (h4 : isNm o = true) (ha : PE X o (LE Γ G X.K a)) (hb : PE X v (LE Γ G X.K b)) :
    PE X (.Call (.Attribute o m apos) [v] [] cpos) (LE Γ G X.K (.idx a b)) := by
  subst hm
  have hbase : attributeBase o "index" X.env (eval o X.env) = eval o X.env := by
    cases o <;> first | rfl | cases h4
  have hu := g.room.un
  refine pe_weak (pe_bm PySem.F.plainAttrs_list PySem.F.slot_list_index PySem.F.type_list_index (mt_indexD (by omega)) ha (pa_cons hb pa_nil (star_of h2 [] X.env)) hbase (by rw [star_of h2]; rfl) h3 (star_of h2 [] X.env) ((NoStars.nil).any X.env cpos)) fun σ H Q ⟨F, st, d, r, hv, w⟩ => ?_
  simp only [ev] at hv
  obtain ⟨dx, e1, hv⟩ := bind2 hv
  obtain ⟨dy, e2, hv⟩ := bind2 hv
  refine ⟨F, st, dx, r, e1, fun x H1 F1 x1 hx => ?_⟩
  unfold idxD at hv
  split at hv
  · rename_i ds _
    split at hv
    · rename_i hs
      obtain ⟨s1, s2⟩ := b2 hs
      obtain ⟨j, e3, e4⟩ := Option.map_eq_some_iff.mp hv
      subst e4
      cases hx with | lst hq ha =>
      refine ⟨.inl ⟨rfl, _, SqL.of (x1.fh _ _ hq)⟩, F1, st, dy, r.up x1, e2, fun y H2 F2 x2 hy => ?_⟩
      obtain ⟨hj, e5, e6⟩ := List.findIdx?_eq_some_iff_getElem.mp e3
      refine ⟨_, y, dy, ds, j, ds[j], rfl, rfl, ((En.lst hq ha).up (x2.ff.trans x2.fh)).dp (SeqAt.canLay_of_shaped s1), (hy.up x2.fh).dp (SeqAt.canLay_of_shaped s2), s1, s2, List.getElem?_eq_getElem hj, e5, fun m z' hm hz => ?_, w _ H2 F2 (x1.trans x2) (.int _)⟩
      obtain ⟨hl, rfl⟩ := List.getElem?_eq_some_iff.mp hz
      simpa using e6 m hm
    · cases hv
  · cases hv
theorem lrg1_pe {X : Cx} {sc : Scope} {fnf : Str → Bool} (g : GoodX X sc fnf N bs cn gn Γ G lvl) {f r : Str} {p q pos pos2 : Pos} {x : Expr} {a : Ex} (h1 : f = "list") (h2 : glb sc f = true) (h3 : f ∈ bs) (k1 : r = "range") (k2 : glb sc r = true) (k3 : r ∈ bs) (hs : notStar x = true) (ha : PE X x (LE Γ G X.K a)) :
    PE X (.Call (.Name f p) [.Call (.Name r q) [x] [] pos2] [] pos) (LF Γ G X.K (.lrg1 a)) := by
  subst h1 k1
  refine pe_weak (pe_listRg g.calm (glb_of g h2).1 (g.blt _ h3) (prg_1 (glb_of g k2).1 (g.blt _ k3) ha (star_of hs [] X.env))) fun σ H Q ⟨F, st, d, r, hv, w⟩ => ?_
  simp only [evF] at hv
  obtain ⟨dx, e1, hv⟩ := bind2 hv
  refine ⟨F, st, dx, r, e1, fun x H1 F1 x1 hx => ?_⟩
  cases dx with
  | int i =>
    have hv' : (if rngOk 0 i then some (rngL 0 i) else none) = some d := hv
    split at hv'
    · rename_i hz
      cases hv'; cases hx
      obtain ⟨⟨c1, c2, c3, c4⟩, c5⟩ := rng_ok hz
      exact ⟨i, rfl, ⟨c1, c2, c3, c4, by have := sizeLine_eq; omega⟩, fun l hl => w l _ F1 _ (x1.trans (Ext.loose x1.fh hl)) (x1.hh.free hl) (x1.fh.free hl) upd_same (enAll_rng 0 i)⟩
    · cases hv'
  | bool _ => cases hv
  | list _ => cases hv
  | tuple _ => cases hv
  | str _ => cases hv
  | none => cases hv
  | dict _ => cases hv
theorem lrg2_pe {X : Cx} {sc : Scope} {fnf : Str → Bool} (g : GoodX X sc fnf N bs cn gn Γ G lvl) {f r : Str} {p q pos pos2 : Pos} {x y : Expr} {a b : Ex} (h1 : f = "list") (h2 : glb sc f = true) (h3 : f ∈ bs) (k1 : r = "range") (k2 : glb sc r = true) (k3 : r ∈ bs) (hs : notStar x = true) (hs2 : notStar y = true) (ha : PE X x (LE Γ G X.K a)) (hb : PE X y (LE Γ G X.K b)) :
    PE X (.Call (.Name f p) [.Call (.Name r q) [x, y] [] pos2] [] pos) (LF Γ G X.K (.lrg2 a b)) := by
  subst h1 k1
  refine pe_weak (pe_listRg g.calm (glb_of g h2).1 (g.blt _ h3) (prg_2 (glb_of g k2).1 (g.blt _ k3) ha hb (star_of hs [y] X.env) (star_of hs2 [] X.env) ((NoStars.cons hs2 .nil).any X.env _))) fun σ H Q ⟨F, st, d, r, hv, w⟩ => ?_
  simp only [evF] at hv
  obtain ⟨dx, e1, hv⟩ := bind2 hv
  obtain ⟨dy, e2, hv⟩ := bind2 hv
  refine ⟨F, st, dx, r, e1, fun x H1 F1 x1 hx => ⟨F1, st, dy, r.up x1, e2, fun y H2 F2 x2 hy => ?_⟩⟩
  cases dx with
  | int i =>
    cases dy with
    | int j =>
      have hv' : (if rngOk i j then some (rngL i j) else none) = some d := hv
      split at hv'
      · rename_i hz
        cases hv'; cases hx; cases hy
        obtain ⟨⟨c1, c2, c3, c4⟩, c5⟩ := rng_ok hz
        exact ⟨i, j, rfl, rfl, ⟨c1, c2, c3, c4, by have := sizeLine_eq; omega⟩, fun l hl => w l _ F2 _ ((x1.trans x2).trans (Ext.loose x2.fh hl)) ((x1.trans x2).hh.free hl) (x2.fh.free hl) upd_same (enAll_rng i j)⟩
      · cases hv'
    | bool _ => cases hv
    | list _ => cases hv
    | tuple _ => cases hv
    | str _ => cases hv
    | none => cases hv
    | dict _ => cases hv
  | bool _ => cases hv
  | list _ => cases hv
  | tuple _ => cases hv
  | str _ => cases hv
  | none => cases hv
  | dict _ => cases hv
mutual
theorem sE : ∀ (il : Ex) {X : Cx} {sc : Scope} {fnf : Str → Bool}, GoodX X sc fnf N bs cn gn Γ G lvl → ∀ e : Expr, chk N bs cn gn sc il e = true → SE X Γ G il e
  | .var i, X, sc, fnf, g, e, h => by
    simp only [chk] at h
    split at h
    · obtain ⟨h1, h2⟩ := b2 h
      obtain ⟨v1, v2, v3⟩ := vis_of g h1
      refine SE.mk' (pe_weak (pe_var (i := i) (by rw [g.N]; exact dc h2) v1 v2 v3) fun σ H Q ⟨F, st, d, r, hv, w⟩ => ?_) rfl
      have hs := (r.sl i).vw
      simp only [ev] at hv
      rw [rdV_vw] at hv
      cases he : vw (get st i) with
      | old d => exact (vw_old he).elim
      | new d => exact (vw_new he).elim
      | val d' =>
        rw [he] at hs hv
        cases hv
        obtain ⟨v, q, hE⟩ := hs
        exact ⟨v, q, w.now r.fh hE⟩
      | no => rw [he] at hv; cases hv
      | own _ => rw [he] at hv; cases hv
    · cases h
  | .lit d, X, sc, fnf, g, e, h => by
    simp only [chk] at h
    split at h
    · obtain ⟨v, hp, hE⟩ := en_lit (K := X.K) (F := fun _ => none) h (X := X)
      refine SE.mk' (pe_weak hp fun σ H Q ⟨F, st, d', r, hv, w⟩ => ?_) rfl
      simp only [ev] at hv
      cases hv
      exact w.now r.fh (hE F)
    · cases h
  | .glb j, X, sc, fnf, g, e, h => by
    simp only [chk] at h
    split at h
    · obtain ⟨h1, h2⟩ := b2 h
      exact SE.mk' (glb_pe g h1 (dc h2)) rfl
    · cases h
  | .o1 o a, X, sc, fnf, g, e, h => by
    cases o with
    | neg =>
      simp only [chk] at h
      split at h
      · have k := (sE a g _ h).pe
        refine ⟨pe_weak (pe_un un_negD k) fun σ H Q ⟨F, st, d, r, hv, w⟩ => ?_, fun z => by cases z⟩
        simp only [ev] at hv
        obtain ⟨dx, e1, e2⟩ := bind2 hv
        exact ⟨F, st, dx, r, e1, fun v H1 F1 x1 hx => ⟨F1, dx, d, x1.fh, hx, e2, fun v2 H2 F2 x2 hE => w v2 H2 F2 (x1.trans x2) hE⟩⟩
      · cases h
    | isI ty =>
      simp only [chk] at h
      split at h
      · obtain ⟨h, h8⟩ := b2 h
        obtain ⟨h, h7⟩ := b2 h
        obtain ⟨h, h6⟩ := b2 h
        obtain ⟨h, h5⟩ := b2 h
        obtain ⟨h, h4⟩ := b2 h
        obtain ⟨h, h3⟩ := b2 h
        obtain ⟨h1, h2⟩ := b2 h
        exact SE.mk' (isi1 g (dc h1) h2 (dc h3) (dc h4) h5 (dc h6) h7 (sE a g _ h8).pe) rfl
      · cases h
    | _ =>
      simp only [chk] at h
      split at h
      · obtain ⟨h, h5⟩ := b2 h
        obtain ⟨h, h4⟩ := b2 h
        obtain ⟨h, h3⟩ := b2 h
        obtain ⟨h1, h2⟩ := b2 h
        exact SE.mk' (bltin1 g (dc h1) h2 (dc h3) h4 (sE a g _ h5).pe) rfl
      · cases h
  | .o2 o a b, X, sc, fnf, g, e, h => by
    simp only [chk] at h
    split at h
    · obtain ⟨h, h3⟩ := b2 h
      obtain ⟨h1, h2⟩ := b2 h
      exact SE.mk' (pe_weak (pe_op (ar_op (dc h1)) (sE a g _ h2).pe (sE b g _ h3).pe) o2_weak) rfl
    · obtain ⟨h, h4⟩ := b2 h
      obtain ⟨h, h3⟩ := b2 h
      obtain ⟨h1, h2⟩ := b2 h
      exact pt_of_cmp (cm_op (dc h1) g.room) (sE a g _ h3).pe (sE b g _ h4).pe (mark_of h2 _) o2_weak
    · cases h
  | .chain o o' a b c, X, sc, fnf, g, e, h => by
    simp only [chk] at h
    split at h
    · obtain ⟨h, h6⟩ := b2 h
      obtain ⟨h, h5⟩ := b2 h
      obtain ⟨h, h4⟩ := b2 h
      obtain ⟨h, h3⟩ := b2 h
      obtain ⟨h1, h2⟩ := b2 h
      have ka := (sE a g _ h4).pe
      have kb := (sE b g _ h5).pe
      have kc := (sE c g _ h6).pe
      have hm : ∀ y z p q, notSet z = true → lastMarks [p, q] [y, z] = false := fun y z p q hz => by
        show behindInMarks q z = false
        exact mark_of hz q
      have key : ∀ σ H Q, LE Γ G X.K (.chain o o' a b c) σ H Q → tChain (rD2 X.K (o2D o)) (rD2 X.K (o2D o')) (LE Γ G X.K a) (LE Γ G X.K b) (LE Γ G X.K c) σ H Q := fun σ H Q ⟨F, st, d, r, hv, w⟩ => by
        simp only [ev] at hv
        obtain ⟨dx, e1, hv⟩ := bind2 hv
        obtain ⟨dy, e2, hv⟩ := bind2 hv
        obtain ⟨t, e3, hv⟩ := bind2 hv
        refine LE.two r e1 e2 fun x y F1 H1 x1 hx hy => ⟨F1, dx, dy, t, x1.fh, hx, hy, e3, fun z H2 F2 x2 hz => ?_⟩
        cases t with
        | bool k =>
          cases hz
          refine ⟨k, rfl, ?_⟩
          cases k with
          | true =>
            rw [if_pos rfl]
            obtain ⟨dz, e4, e5⟩ := bind2 hv
            exact ⟨F2, st, dz, (r.up x1).up x2, e4, fun w' H3 F3 x3 hw => ⟨F3, dy, dz, d, x3.fh, (hy.up x2.ff).up x3.ff, hw, e5, fun v4 H4 F4 x4 hE => w v4 H4 F4 (((x1.trans x2).trans x3).trans x4) hE⟩⟩
          | false =>
            rw [if_neg Bool.false_ne_true]
            cases hv
            exact w _ H2 F2 (x1.trans x2) (.bl _)
        | none => cases hv
        | int _ => cases hv
        | str _ => cases hv
        | list _ => cases hv
        | tuple _ => cases hv
        | dict _ => cases hv
      refine ⟨pe_weak (pe_chain (cm_op (dc h1) g.room) (cm_op (dc h2) g.room) ka kb kc (hm _ _ _ _ h3)) key, fun _ => pt_weak (pt_chain (cm_op (dc h1) g.room) (cm_op (dc h2) g.room) ka kb kc (hm _ _ _ _ h3)) fun σ H Q ⟨F, st, b', r, hv, w⟩ => ?_⟩
      exact key σ H _ ⟨F, st, _, r, hv, fun v H' F' x hE => by
        cases hE
        exact ⟨b', rfl, w H' F' x⟩⟩
    · cases h
  | .max2 a b, X, sc, fnf, g, e, h => by
    simp only [chk] at h
    split at h
    · obtain ⟨h, h7⟩ := b2 h
      obtain ⟨h, h6⟩ := b2 h
      obtain ⟨h, h5⟩ := b2 h
      obtain ⟨h, h4⟩ := b2 h
      obtain ⟨h, h3⟩ := b2 h
      obtain ⟨h1, h2⟩ := b2 h
      cases dc h1
      refine SE.mk' (two_args g (cr_max2D g.calm) (by decide +kernel) (by decide) h2 (dc h3) h4 h5 (sE a g _ h6).pe (sE b g _ h7).pe fun st d hv => ?_) rfl
      simp only [ev] at hv
      obtain ⟨dx, e1, hv⟩ := bind2 hv
      obtain ⟨dy, e2, hv⟩ := bind2 hv
      exact ⟨dx, dy, e1, e2, hv⟩
    · cases h
  | .max3 a b c, X, sc, fnf, g, e, h => by
    simp only [chk] at h
    split at h
    · obtain ⟨h, h9⟩ := b2 h
      obtain ⟨h, h8⟩ := b2 h
      obtain ⟨h, h7⟩ := b2 h
      obtain ⟨h, h6⟩ := b2 h
      obtain ⟨h, h5⟩ := b2 h
      obtain ⟨h, h4⟩ := b2 h
      obtain ⟨h, h3⟩ := b2 h
      obtain ⟨h1, h2⟩ := b2 h
      cases dc h1
      refine SE.mk' (three_args g (cr_max3D g.calm) (by decide +kernel) (by decide) h2 (dc h3) h4 h5 h6 (sE a g _ h7).pe (sE b g _ h8).pe (sE c g _ h9).pe fun st d hv => ?_) rfl
      simp only [ev] at hv
      obtain ⟨dx, e1, hv⟩ := bind2 hv
      obtain ⟨dy, e2, hv⟩ := bind2 hv
      obtain ⟨dz, e3, hv⟩ := bind2 hv
      exact ⟨dx, dy, dz, e1, e2, e3, hv⟩
    · cases h
  | .min2 a b, X, sc, fnf, g, e, h => by
    simp only [chk] at h
    split at h
    · obtain ⟨h, h7⟩ := b2 h
      obtain ⟨h, h6⟩ := b2 h
      obtain ⟨h, h5⟩ := b2 h
      obtain ⟨h, h4⟩ := b2 h
      obtain ⟨h, h3⟩ := b2 h
      obtain ⟨h1, h2⟩ := b2 h
      cases dc h1
      refine SE.mk' (two_args g (cr_min2D g.calm) (by decide +kernel) (by decide) h2 (dc h3) h4 h5 (sE a g _ h6).pe (sE b g _ h7).pe fun st d hv => ?_) rfl
      simp only [ev] at hv
      obtain ⟨dx, e1, hv⟩ := bind2 hv
      obtain ⟨dy, e2, hv⟩ := bind2 hv
      exact ⟨dx, dy, e1, e2, hv⟩
    · cases h
  | .not a, X, sc, fnf, g, e, h => by
    simp only [chk] at h
    split at h
    · obtain ⟨h1, h2⟩ := b2 h
      have k := sE a g _ h1
      have hb : ∀ st d, ev Γ G (.not a) st = some d → ∃ b, ev Γ G a st = some (.bool b) ∧ d = .bool (!b) := fun st d hv => by
        simp only [ev] at hv
        obtain ⟨t, e1, e2⟩ := bind2 hv
        cases t with
        | bool b => cases e2; exact ⟨b, e1, rfl⟩
        | none => cases e2
        | int _ => cases e2
        | str _ => cases e2
        | list _ => cases e2
        | tuple _ => cases e2
        | dict _ => cases e2
      refine ⟨pe_weak (pe_not k.pe) fun σ H Q ⟨F, st, d, r, hv, w⟩ => ?_, fun _ => pt_weak (pt_not (k.pt h2)) fun σ H Q ⟨F, st, b, r, hv, w⟩ => ?_⟩
      · obtain ⟨b, e1, e2⟩ := hb st d hv
        subst e2
        exact ⟨F, st, _, r, e1, fun v H' F' x hE => by
          cases hE
          exact ⟨b, rfl, w _ H' F' x (.bl _)⟩⟩
      · obtain ⟨b', e1, e2⟩ := hb st _ hv
        cases e2
        exact ⟨F, st, b', r, e1, fun H' F' x => w H' F' x⟩
    · cases h
  | .and es, X, sc, fnf, g, e, h => by
    simp only [chk] at h
    split at h
    · obtain ⟨h1, h2⟩ := b2 h
      rename_i xs pos
      have k := sAnd es g xs pos (dc h2) h1
      refine ⟨pe_weak k.1 fun σ H Q ⟨F, st, d, r, hv, w⟩ => ⟨F, st, d, r, by simpa only [ev] using hv, w⟩, fun _ => pt_weak k.2.pt fun σ H Q ⟨F, st, d, r, hv, w⟩ => ⟨F, st, d, r, by simpa only [ev] using hv, w⟩⟩
    · cases h
  | .or es, X, sc, fnf, g, e, h => by
    simp only [chk] at h
    split at h
    · obtain ⟨h1, h2⟩ := b2 h
      rename_i xs pos
      have k := sOr es g xs pos (dc h2) h1
      refine ⟨pe_weak k.1 fun σ H Q ⟨F, st, d, r, hv, w⟩ => ⟨F, st, d, r, by simpa only [ev] using hv, w⟩, fun _ => pt_weak k.2.pt fun σ H Q ⟨F, st, d, r, hv, w⟩ => ⟨F, st, d, r, by simpa only [ev] using hv, w⟩⟩
    · cases h
  | .ife c a b, X, sc, fnf, g, e, h => by
    simp only [chk] at h
    split at h
    · obtain ⟨h, h4⟩ := b2 h
      obtain ⟨h, h3⟩ := b2 h
      obtain ⟨h1, h2⟩ := b2 h
      refine ⟨pe_weak (pe_ifExp ((sE c g _ h1).pt h2) (sE a g _ h3).pe (sE b g _ h4).pe) fun σ H Q ⟨F, st, d, r, hv, w⟩ => ?_, fun z => by cases z⟩
      simp only [ev] at hv
      obtain ⟨t, e1, e2⟩ := bind2 hv
      cases t with
      | bool k =>
        refine ⟨F, st, k, r, e1, fun H1 F1 x1 => ?_⟩
        cases k with
        | true =>
          rw [if_pos rfl]
          exact ⟨F1, st, d, r.up x1, e2, fun v H2 F2 x2 hE => w v H2 F2 (x1.trans x2) hE⟩
        | false =>
          rw [if_neg Bool.false_ne_true]
          exact ⟨F1, st, d, r.up x1, e2, fun v H2 F2 x2 hE => w v H2 F2 (x1.trans x2) hE⟩
      | none => cases e2
      | int _ => cases e2
      | str _ => cases e2
      | list _ => cases e2
      | tuple _ => cases e2
      | dict _ => cases e2
    · cases h
  | .ix a b, X, sc, fnf, g, e, h => by
    simp only [chk] at h
    split at h
    · obtain ⟨h, h3⟩ := b2 h
      obtain ⟨h1, h2⟩ := b2 h
      refine SE.mk' (pe_weak (pe_ix ix_D (sE a g _ h1).pe (sE b g _ h2).pe (slice_of h3)) fun σ H Q ⟨F, st, d, r, hv, w⟩ => ?_) rfl
      simp only [ev] at hv
      obtain ⟨dx, e1, hv⟩ := bind2 hv
      obtain ⟨dy, e2, hv⟩ := bind2 hv
      exact LE.two r e1 e2 fun x y F' H' x' hx hy => ⟨F', dx, dy, d, x'.fh, hx, hy, hv, fun v H2 F2 e3 hE => w v H2 F2 (x'.trans e3) hE⟩
    · cases h
  | .ixv i b, X, sc, fnf, g, e, h => by
    simp only [chk] at h
    split at h
    · obtain ⟨h, h4⟩ := b2 h
      obtain ⟨h, h3⟩ := b2 h
      obtain ⟨h1, h2⟩ := b2 h
      exact SE.mk' (ix_var g h1 (dc h2) (sE b g _ h3).pe h4) rfl
    · cases h
  | .idx a b, X, sc, fnf, g, e, h => by
    simp only [chk] at h
    split at h
    · obtain ⟨h, h6⟩ := b2 h
      obtain ⟨h, h5⟩ := b2 h
      obtain ⟨h, h4⟩ := b2 h
      obtain ⟨h, h3⟩ := b2 h
      obtain ⟨h1, h2⟩ := b2 h
      exact SE.mk' (idx_pe g (dc h1) h2 h3 h4 (sE a g _ h5).pe (sE b g _ h6).pe) rfl
    · cases h
  | .slt a lo hi, X, sc, fnf, g, e, h => by
    simp only [chk] at h
    split at h
    · obtain ⟨h, h3⟩ := b2 h
      obtain ⟨h1, h2⟩ := b2 h
      exact SE.mk' (slice_tup (sE a g _ h1).pe (sO lo g _ h2) (sO hi g _ h3)) rfl
    · cases h
  | .tup es, X, sc, fnf, g, e, h => by
    simp only [chk] at h
    split at h
    · refine SE.mk' (pe_weak (pe_tup (sEs es g _ h)) fun σ H Q ⟨F, st, d, r, hv, w⟩ => ?_) rfl
      simp only [ev] at hv
      obtain ⟨ds, e1, e2⟩ := bind2 hv
      split at e2
      · rename_i hz
        cases e2
        exact ⟨F, st, ds, r, e1, fun vs H' F' x hA => ⟨by rw [hA.length]; exact hz, fun p hp => w _ _ _ (x.trans (Ext.new x.fh hp)) (.tup (SqT.of upd_same) (hA.up (same_new (x.fh.free hp))))⟩⟩
      · cases e2
    · cases h
  | .call j es, X, sc, fnf, g, e, h => by
    simp only [chk] at h
    split at h
    · obtain ⟨h, h4⟩ := b2 h
      obtain ⟨h, h3⟩ := b2 h
      obtain ⟨h1, h2⟩ := b2 h
      exact SE.mk' (call_pe g h1 (dc h2) (dc h3) (chks_nostar es _ h4) (sEs es g _ h4)) rfl
    · cases h
  | .scal a, X, sc, fnf, g, e, h => by
    simp only [chk] at h
    have k := sE a g e h
    refine ⟨pe_weak k.pe fun σ H Q ⟨F, st, d, r, hv, w⟩ => ?_, fun z => pt_weak (k.pt z) fun σ H Q ⟨F, st, b, r, hv, w⟩ => ?_⟩
    · simp only [ev] at hv
      obtain ⟨d', e1, e2⟩ := bind2 hv
      split at e2
      · rename_i hz
        cases e2
        exact le_frz r e1 hz w
      · cases e2
    · simp only [ev] at hv
      obtain ⟨d', e1, e2⟩ := bind2 hv
      split at e2
      · cases e2
        exact ⟨frzH F H st σ, frzAll st, b, r.frz, e1, fun H' F' x => w H' F ⟨Same.refl _, r.fh.trans x.hh, x.hh, fun _ q _ => q⟩⟩
      · cases e2
  | .fr f, X, sc, fnf, g, e, h => by
    simp only [chk] at h
    exact ⟨le_fr (sF f g e h), fun z => by cases z⟩
  | .revA a, X, sc, fnf, g, e, h => by
    simp only [chk] at h
    split at h
    · refine SE.mk' (pe_weak (pe_or2 (pe_revL (sE a g _ h).pe) (pe_revT (sE a g _ h).pe)) fun σ H Q ⟨F, st, d, r, hv, w⟩ => ?_) rfl
      simp only [ev] at hv
      obtain ⟨dx, e1, e2⟩ := bind2 hv
      cases dx with
      | list ds =>
        cases e2
        refine .inl ⟨F, st, _, r, e1, fun v H1 F1 x1 hE => ?_⟩
        cases hE with | lst hs ha =>
        exact ⟨_, _, rfl, SqL.of (x1.fh _ _ hs), fun p hp => Wd.lst (fun v' H' F' x hE => w v' H' F' (x1.trans x) hE) x1.fh ha.reverse hp⟩
      | tuple ds =>
        cases e2
        refine .inr ⟨F, st, _, r, e1, fun v H1 F1 x1 hE => ?_⟩
        cases hE with | tup hs ha =>
        exact ⟨_, _, rfl, sqT_mono x1.fh hs, fun p hp => Wd.tup (fun v' H' F' x hE => w v' H' F' (x1.trans x) hE) x1.fh ha.reverse hp⟩
      | none => cases e2
      | bool _ => cases e2
      | int _ => cases e2
      | str _ => cases e2
      | dict _ => cases e2
    · cases h
theorem sEs : ∀ (es : Exs) {X : Cx} {sc : Scope} {fnf : Str → Bool}, GoodX X sc fnf N bs cn gn Γ G lvl → ∀ xs : List Expr, chks N bs cn gn sc es xs = true → PA X xs (LA Γ G X.K es)
  | .nil, X, sc, fnf, g, xs, h => by
    simp only [chks] at h
    split at h
    · exact la_nil
    · cases h
  | .cons a as, X, sc, fnf, g, xs, h => by
    simp only [chks] at h
    split at h
    · obtain ⟨h, h3⟩ := b2 h
      obtain ⟨h1, h2⟩ := b2 h
      exact la_cons h1 (sE a g _ h2).pe (sEs as g _ h3)
    · cases h
theorem sAnd : ∀ (es : Exs) {X : Cx} {sc : Scope} {fnf : Str → Bool}, GoodX X sc fnf N bs cn gn Γ G lvl → ∀ (xs : List Expr) (pos : Pos), xs ≠ [] → chkB N bs cn gn sc es xs = true →
    PE X (.BoolOp .And xs pos) (LAnd Γ G X.K es) ∧ PW X (.BoolOp .And xs pos) (LTAnd Γ G X.K es)
  | .nil, X, sc, fnf, g, xs, pos, hne, h => by
    cases xs with
    | nil => exact absurd rfl hne
    | cons _ _ => simp [chkB] at h
  | .cons a as, X, sc, fnf, g, xs, pos, hne, h => by
    simp only [chkB] at h
    split at h
    · rename_i x xs
      obtain ⟨h, h3⟩ := b2 h
      obtain ⟨h1, h2⟩ := b2 h
      have k := sE a g _ h1
      have kt := k.pt h2
      have hb : ∀ st d, evAnd Γ G (.cons a as) st = some d → ∃ b, ev Γ G a st = some (.bool b) ∧ (if b = true then evAnd Γ G as st = some d else d = .bool false) := fun st d hv => by
        simp only [evAnd] at hv
        obtain ⟨t, e1, e2⟩ := bind2 hv
        cases t with
        | bool b => cases b with
          | true => exact ⟨true, e1, by rw [if_pos rfl]; exact e2⟩
          | false => cases e2; exact ⟨false, e1, by rw [if_neg Bool.false_ne_true]⟩
        | none => cases e2
        | int _ => cases e2
        | str _ => cases e2
        | list _ => cases e2
        | tuple _ => cases e2
        | dict _ => cases e2
      cases xs with
      | nil =>
        have has : ∀ st, evAnd Γ G as st = some (.bool true) := fun st => by
          cases as with
          | nil => simp only [evAnd]
          | cons _ _ => simp [chkB] at h3
        have hb' : ∀ st d, evAnd Γ G (.cons a as) st = some d → ev Γ G a st = some d := fun st d hv => by
          obtain ⟨b, e1, e2⟩ := hb st d hv
          rw [has] at e2
          cases b with
          | true => rw [if_pos rfl] at e2; cases e2; exact e1
          | false => rw [if_neg Bool.false_ne_true] at e2; subst e2; exact e1
        refine ⟨pe_weak (pe_one k.pe) fun σ H Q ⟨F, st, d, r, hv, w⟩ => ⟨F, st, d, r, hb' st d hv, w⟩, ⟨fun wh pins s σ H Q I ⟨F, st, d, r, hv, w⟩ => (pw_and1 kt).run wh pins s σ H Q I ⟨F, st, d, r, hb' st _ hv, w⟩⟩⟩
      | cons y ys =>
        have rcc := sAnd as g (y :: ys) pos (fun z => nomatch z) h3
        refine ⟨pe_weak (pe_and k.pe rcc.1) fun σ H Q ⟨F, st, d, r, hv, w⟩ => ?_, ⟨fun wh pins s σ H Q I ⟨F, st, d, r, hv, w⟩ => (pw_and kt rcc.2).run wh pins s σ H Q I ?_⟩⟩
        · obtain ⟨b, e1, e2⟩ := hb st d hv
          refine ⟨F, st, _, r, e1, fun v H1 F1 x1 hE => ?_⟩
          cases hE
          refine ⟨b, rfl, ?_⟩
          cases b with
          | true =>
            rw [if_pos rfl] at e2 ⊢
            exact ⟨F1, st, d, r.up x1, e2, fun v H2 F2 x2 hE => w v H2 F2 (x1.trans x2) hE⟩
          | false =>
            rw [if_neg Bool.false_ne_true] at e2 ⊢
            subst e2
            exact w _ H1 F1 x1 (.bl _)
        · obtain ⟨b, e1, e2⟩ := hb st _ hv
          refine ⟨F, st, b, r, e1, fun H1 F1 x1 => ?_⟩
          cases b with
          | true =>
            rw [if_pos rfl] at e2 ⊢
            exact ⟨F1, st, d, r.up x1, e2, fun H2 F2 x2 => w H2 F2 (x1.trans x2)⟩
          | false =>
            rw [if_neg Bool.false_ne_true] at e2 ⊢
            cases e2
            exact w H1 F1 x1
    · cases h
theorem sOr : ∀ (es : Exs) {X : Cx} {sc : Scope} {fnf : Str → Bool}, GoodX X sc fnf N bs cn gn Γ G lvl → ∀ (xs : List Expr) (pos : Pos), xs ≠ [] → chkB N bs cn gn sc es xs = true →
    PE X (.BoolOp .Or xs pos) (LOr Γ G X.K es) ∧ PW X (.BoolOp .Or xs pos) (LTOr Γ G X.K es)
  | .nil, X, sc, fnf, g, xs, pos, hne, h => by
    cases xs with
    | nil => exact absurd rfl hne
    | cons _ _ => simp [chkB] at h
  | .cons a as, X, sc, fnf, g, xs, pos, hne, h => by
    simp only [chkB] at h
    split at h
    · rename_i x xs
      obtain ⟨h, h3⟩ := b2 h
      obtain ⟨h1, h2⟩ := b2 h
      have k := sE a g _ h1
      have kt := k.pt h2
      have hb : ∀ st d, evOr Γ G (.cons a as) st = some d → ∃ b, ev Γ G a st = some (.bool b) ∧ (if b = true then d = .bool true else evOr Γ G as st = some d) := fun st d hv => by
        simp only [evOr] at hv
        obtain ⟨t, e1, e2⟩ := bind2 hv
        cases t with
        | bool b => cases b with
          | false => exact ⟨false, e1, by rw [if_neg Bool.false_ne_true]; exact e2⟩
          | true => cases e2; exact ⟨true, e1, by rw [if_pos rfl]⟩
        | none => cases e2
        | int _ => cases e2
        | str _ => cases e2
        | list _ => cases e2
        | tuple _ => cases e2
        | dict _ => cases e2
      cases xs with
      | nil =>
        have has : ∀ st, evOr Γ G as st = some (.bool false) := fun st => by
          cases as with
          | nil => simp only [evOr]
          | cons _ _ => simp [chkB] at h3
        have hb' : ∀ st d, evOr Γ G (.cons a as) st = some d → ev Γ G a st = some d := fun st d hv => by
          obtain ⟨b, e1, e2⟩ := hb st d hv
          rw [has] at e2
          cases b with
          | true => rw [if_pos rfl] at e2; subst e2; exact e1
          | false => rw [if_neg Bool.false_ne_true] at e2; cases e2; exact e1
        refine ⟨pe_weak (pe_one k.pe) fun σ H Q ⟨F, st, d, r, hv, w⟩ => ⟨F, st, d, r, hb' st d hv, w⟩, ⟨fun wh pins s σ H Q I ⟨F, st, d, r, hv, w⟩ => (pw_or1 kt).run wh pins s σ H Q I ⟨F, st, d, r, hb' st _ hv, w⟩⟩⟩
      | cons y ys =>
        have rcc := sOr as g (y :: ys) pos (fun z => nomatch z) h3
        refine ⟨pe_weak (pe_or k.pe rcc.1) fun σ H Q ⟨F, st, d, r, hv, w⟩ => ?_, ⟨fun wh pins s σ H Q I ⟨F, st, d, r, hv, w⟩ => (pw_or kt rcc.2).run wh pins s σ H Q I ?_⟩⟩
        · obtain ⟨b, e1, e2⟩ := hb st d hv
          refine ⟨F, st, _, r, e1, fun v H1 F1 x1 hE => ?_⟩
          cases hE
          refine ⟨b, rfl, ?_⟩
          cases b with
          | true =>
            rw [if_pos rfl] at e2 ⊢
            subst e2
            exact w _ H1 F1 x1 (.bl _)
          | false =>
            rw [if_neg Bool.false_ne_true] at e2 ⊢
            exact ⟨F1, st, d, r.up x1, e2, fun v H2 F2 x2 hE => w v H2 F2 (x1.trans x2) hE⟩
        · obtain ⟨b, e1, e2⟩ := hb st _ hv
          refine ⟨F, st, b, r, e1, fun H1 F1 x1 => ?_⟩
          cases b with
          | true =>
            rw [if_pos rfl] at e2 ⊢
            cases e2
            exact w H1 F1 x1
          | false =>
            rw [if_neg Bool.false_ne_true] at e2 ⊢
            exact ⟨F1, st, d, r.up x1, e2, fun H2 F2 x2 => w H2 F2 (x1.trans x2)⟩
    · cases h
theorem sO : ∀ (o : Oe) {X : Cx} {sc : Scope} {fnf : Str → Bool}, GoodX X sc fnf N bs cn gn Γ G lvl → ∀ e : Option Expr, chkO N bs cn gn sc o e = true → PO X e (LO Γ G X.K o)
  | .no, X, sc, fnf, g, e, h => by
    simp only [chkO] at h
    split at h
    · exact lo_none
    · cases h
  | .yes a, X, sc, fnf, g, e, h => by
    simp only [chkO] at h
    split at h
    · exact lo_some (sE a g _ h).pe
    · cases h
theorem sI : ∀ (it : Ir) {X : Cx} {sc : Scope} {fnf : Str → Bool}, GoodX X sc fnf N bs cn gn Γ G lvl → ∀ tg e : Expr, chkI N bs cn gn sc it e = true → PI X tg e (LI Γ G X.K it) ∧ ∀ y, foldedSetIterable e X.env y = pure y
  | .seq a, X, sc, fnf, g, tg, e, h => by
    simp only [chkI] at h
    obtain ⟨h1, h2⟩ := b2 h
    exact ⟨li_seq (sE a g _ h2).pe, set_of h1 X.env⟩
  | .slot i, X, sc, fnf, g, tg, e, h => by
    simp only [chkI] at h
    split at h
    · obtain ⟨h1, h2⟩ := b2 h
      exact ⟨li_slot g h1 (dc h2), fun _ => rfl⟩
    · cases h
  | .rng1 a, X, sc, fnf, g, tg, e, h => by
    simp only [chkI] at h
    split at h
    · obtain ⟨h, h5⟩ := b2 h
      obtain ⟨h, h4⟩ := b2 h
      obtain ⟨h, h3⟩ := b2 h
      obtain ⟨h1, h2⟩ := b2 h
      exact ⟨li_rng1 g (dc h1) h2 (dc h3) h4 (sE a g _ h5).pe, fun _ => rfl⟩
    · cases h
  | .rng2 a b, X, sc, fnf, g, tg, e, h => by
    simp only [chkI] at h
    split at h
    · obtain ⟨h, h7⟩ := b2 h
      obtain ⟨h, h6⟩ := b2 h
      obtain ⟨h, h5⟩ := b2 h
      obtain ⟨h, h4⟩ := b2 h
      obtain ⟨h, h3⟩ := b2 h
      obtain ⟨h1, h2⟩ := b2 h
      exact ⟨li_rng2 g (dc h1) h2 (dc h3) h4 h5 (sE a g _ h6).pe (sE b g _ h7).pe, fun _ => rfl⟩
    · cases h
  | .rng3 a b c, X, sc, fnf, g, tg, e, h => by
    simp only [chkI] at h
    split at h
    · obtain ⟨h, h9⟩ := b2 h
      obtain ⟨h, h8⟩ := b2 h
      obtain ⟨h, h7⟩ := b2 h
      obtain ⟨h, h6⟩ := b2 h
      obtain ⟨h, h5⟩ := b2 h
      obtain ⟨h, h4⟩ := b2 h
      obtain ⟨h, h3⟩ := b2 h
      obtain ⟨h1, h2⟩ := b2 h
      exact ⟨li_rng3 g (dc h1) h2 (dc h3) h4 h5 h6 (sE a g _ h7).pe (sE b g _ h8).pe (sE c g _ h9).pe, fun _ => rfl⟩
    · cases h
  | .rvd a, X, sc, fnf, g, tg, e, h => by
    simp only [chkI] at h
    split at h
    · obtain ⟨h, h5⟩ := b2 h
      obtain ⟨h, h4⟩ := b2 h
      obtain ⟨h, h3⟩ := b2 h
      obtain ⟨h1, h2⟩ := b2 h
      exact ⟨li_rvd g (dc h1) h2 (dc h3) h4 (sE a g _ h5).pe, fun _ => rfl⟩
    · cases h
theorem sF : ∀ (f : Fx) {X : Cx} {sc : Scope} {fnf : Str → Bool}, GoodX X sc fnf N bs cn gn Γ G lvl → ∀ e : Expr, chkF N bs cn gn sc f e = true → PE X e (LF Γ G X.K f)
  | .lst es, X, sc, fnf, g, e, h => by
    simp only [chkF] at h
    split at h
    · refine pe_weak (pe_lst (sEs es g _ h)) fun σ H Q ⟨F, st, d, r, hv, w⟩ => ?_
      simp only [evF] at hv
      obtain ⟨ds, e1, e2⟩ := bind2 hv
      split at e2
      · rename_i hz
        cases e2
        exact ⟨F, st, d, r, e1, fun vs H' F' x hA => ⟨by rw [hA.length]; exact hz, fun p hp => w p _ F' _ (x.trans (Ext.loose x.fh hp)) (x.hh.free hp) (x.fh.free hp) upd_same hA⟩⟩
      · cases e2
    · cases h
  | .sl a lo hi, X, sc, fnf, g, e, h => by
    simp only [chkF] at h
    split at h
    · obtain ⟨h, h3⟩ := b2 h
      obtain ⟨h1, h2⟩ := b2 h
      exact slice_lst (sE a g _ h1).pe (sO lo g _ h2) (sO hi g _ h3)
    · cases h
  | .stp a lo hi k, X, sc, fnf, g, e, h => by
    simp only [chkF] at h
    split at h
    · obtain ⟨h, h4⟩ := b2 h
      obtain ⟨h, h3⟩ := b2 h
      obtain ⟨h1, h2⟩ := b2 h
      exact slice_stp (sE a g _ h1).pe (sO lo g _ h2) (sO hi g _ h3) (sE k g _ h4).pe
    · cases h
  | .slv i lo hi, X, sc, fnf, g, e, h => by
    simp only [chkF] at h
    split at h
    · obtain ⟨h, h4⟩ := b2 h
      obtain ⟨h, h3⟩ := b2 h
      obtain ⟨h1, h2⟩ := b2 h
      exact slice_var g h1 (dc h2) (sO lo g _ h3) (sO hi g _ h4)
    · cases h
  | .listOf a, X, sc, fnf, g, e, h => by
    simp only [chkF] at h
    split at h
    · obtain ⟨h, h5⟩ := b2 h
      obtain ⟨h, h4⟩ := b2 h
      obtain ⟨h, h3⟩ := b2 h
      obtain ⟨h1, h2⟩ := b2 h
      cases dc h1
      obtain ⟨hg, hd⟩ := glb_of g h2
      refine pe_weak (pe_callTy cr_listF hg (g.blt _ (dc h3)) (by decide +kernel) (pa_cons (sE a g _ h5).pe pa_nil (star_of h4 [] X.env)) (by decide) hd (star_of h4 [] X.env) ((NoStars.nil).any X.env _)) fun σ H Q ⟨F, st, d, r, hv, w⟩ => ?_
      simp only [evF] at hv
      obtain ⟨dx, e1, e2⟩ := bind2 hv
      refine ⟨F, st, dx, r, e1, fun v H1 F1 x1 hE => ⟨v, F1, dx, d, rfl, x1.fh, hE, ?_, fun p H' F' vs x' h1 h2 h3 h4 => w p H' F' vs (x1.trans x') (x1.hh.free h1) h2 h3 h4⟩⟩
      cases dx with
      | list ds => cases e2; exact .inl rfl
      | tuple ds => cases e2; exact .inr rfl
      | none => cases e2
      | bool _ => cases e2
      | int _ => cases e2
      | str _ => cases e2
      | dict _ => cases e2
    · cases h
  | .addV i a, X, sc, fnf, g, e, h => by
    simp only [chkF] at h
    split at h
    · obtain ⟨h, h3⟩ := b2 h
      obtain ⟨h1, h2⟩ := b2 h
      exact addV_pe g h1 (dc h2) (sE a g _ h3).pe
    · cases h
  | .lrg1 a, X, sc, fnf, g, e, h => by
    simp only [chkF] at h
    split at h
    · obtain ⟨h, h8⟩ := b2 h
      obtain ⟨h, h7⟩ := b2 h
      obtain ⟨h, h6⟩ := b2 h
      obtain ⟨h, h5⟩ := b2 h
      obtain ⟨h, h4⟩ := b2 h
      obtain ⟨h, h3⟩ := b2 h
      obtain ⟨h1, h2⟩ := b2 h
      exact lrg1_pe g (dc h1) h2 (dc h3) (dc h4) h5 (dc h6) h7 (sE a g _ h8).pe
    · cases h
  | .lrg2 a b, X, sc, fnf, g, e, h => by
    simp only [chkF] at h
    split at h
    · obtain ⟨h, h10⟩ := b2 h
      obtain ⟨h, h9⟩ := b2 h
      obtain ⟨h, h8⟩ := b2 h
      obtain ⟨h, h7⟩ := b2 h
      obtain ⟨h, h6⟩ := b2 h
      obtain ⟨h, h5⟩ := b2 h
      obtain ⟨h, h4⟩ := b2 h
      obtain ⟨h, h3⟩ := b2 h
      obtain ⟨h1, h2⟩ := b2 h
      exact lrg2_pe g (dc h1) h2 (dc h3) (dc h4) h5 (dc h6) h7 h8 (sE a g _ h9).pe (sE b g _ h10).pe
    · cases h
  | .lsv i, X, sc, fnf, g, e, h => by
    simp only [chkF] at h
    split at h
    · obtain ⟨h, h5⟩ := b2 h
      obtain ⟨h, h4⟩ := b2 h
      obtain ⟨h, h3⟩ := b2 h
      obtain ⟨h1, h2⟩ := b2 h
      exact lsv_pe g (dc h1) h2 (dc h3) h4 (dc h5)
    · cases h
  | .callF j es, X, sc, fnf, g, e, h => by
    simp only [chkF] at h
    split at h
    · obtain ⟨h, h5⟩ := b2 h
      obtain ⟨h, h4⟩ := b2 h
      obtain ⟨h, h3⟩ := b2 h
      obtain ⟨h1, h2⟩ := b2 h
      exact callF_pe g h1 (dc h2) (dc h3) h4 (chks_nostar es _ h5) (sEs es g _ h5)
    · cases h
  | .rev a, X, sc, fnf, g, e, h => by
    simp only [chkF] at h
    split at h
    · refine pe_weak (pe_revL (sE a g _ h).pe) fun σ H Q ⟨F, st, d, r, hv, w⟩ => ?_
      simp only [evF] at hv
      obtain ⟨dx, e1, e2⟩ := bind2 hv
      refine ⟨F, st, dx, r, e1, fun v H1 F1 x1 hE => ?_⟩
      cases dx with
      | list ds =>
        cases e2
        cases hE with | lst hs ha =>
        exact ⟨_, _, rfl, SqL.of (x1.fh _ _ hs), fun p hp => w p _ F1 _ (x1.trans (Ext.loose x1.fh hp)) (x1.hh.free hp) (x1.fh.free hp) upd_same ha.reverse⟩
      | none => cases e2
      | bool _ => cases e2
      | int _ => cases e2
      | str _ => cases e2
      | tuple _ => cases e2
      | dict _ => cases e2
    · cases h
  | .comp elt tg it cond ws, X, sc, fnf, g, e, h => by
    simp only [chkF] at h
    split at h
    · rename_i x t i ifs as scope pos
      obtain ⟨h, h7⟩ := b2 h
      obtain ⟨h, h6⟩ := b2 h
      obtain ⟨h, h5⟩ := b2 h
      obtain ⟨h, h4⟩ := b2 h
      obtain ⟨h, h3⟩ := b2 h
      obtain ⟨h1, h2⟩ := b2 h
      rw [beq_iff_eq] at h1
      subst h1
      have hk : scope.kind = .function := (blkOk_by h3).kind
      have gb := fun s H C cl fp => g.blk hk s H C cl fp
      have hi := sI it g t i h2
      have hT : ∀ (s : Shared) (H : Hp) (C : Addr) (cl : List (Str × Addr)) (fp : List Addr), PTs (X.blk s H scope (compEnvC scope cl C X.env) fp) ifs (LC Γ G X.K cond) := by
        exact fun s H C cl fp => sC cond (gb s H C cl fp) ifs h7
      exact pe_weak (pe_lc (own := ownOf N ws) g.calm g.nd hi.1 (by rw [g.N, g.sc]; exact blkOk_by h3) (fun s H C cl fp => tg_ok (gb s H C cl fp) h4) hT (fun s H C cl fp => (sE elt (gb s H C cl fp) _ h6).pe) hi.2)
        (lf_comp g hi.1 h3 (inTg h5) (fun s H C cl fp => tg_ok (gb s H C cl fp) h4) hT (fun s H C cl fp => (sE elt (gb s H C cl fp) _ h6).pe) hi.2)
    · cases h
theorem sC : ∀ (o : Oe) {X : Cx} {sc : Scope} {fnf : Str → Bool}, GoodX X sc fnf N bs cn gn Γ G lvl → ∀ e : List Expr, chkC N bs cn gn sc o e = true → PTs X e (LC Γ G X.K o)
  | .no, X, sc, fnf, g, e, h => by
    simp only [chkC] at h
    split at h
    · exact lc_no
    · cases h
  | .yes a, X, sc, fnf, g, e, h => by
    simp only [chkC] at h
    split at h
    · obtain ⟨h1, h2⟩ := b2 h
      exact lc_yes ((sE a g _ h1).pt h2)
    · cases h
end
end
end PL
namespace PL
open PySem PySem.Spec PyProof.Rows L2

/-! ### values with new lists: lists that nothing else knows -/
mutual
/-- no list within -/
@[simp] def noL : D → Bool
  | .none => true
  | .bool _ => true
  | .int _ => true
  | .str _ => true
  | .list _ => false
  | .tuple ds => noLs ds
  | .dict _ => false
@[simp] def noLs : List D → Bool
  | [] => true
  | d :: r => noL d && noLs r
end
mutual
/-- the lists within, as data -/
@[simp] def lsIn : D → List (List D)
  | .none => []
  | .bool _ => []
  | .int _ => []
  | .str _ => []
  | .list ds => ds :: lsIns ds
  | .tuple ds => lsIns ds
  | .dict _ => []
@[simp] def lsIns : List D → List (List D)
  | [] => []
  | d :: r => lsIn d ++ lsIns r
end
mutual
/-- lists only as leaves (lists of what has no list within), not long -/
@[simp] def lf1 : D → Bool
  | .none => true
  | .bool _ => true
  | .int _ => true
  | .str _ => true
  | .list ds => noLs ds && decide (ds.length ≤ 1000000)
  | .tuple ds => lf1s ds
  | .dict _ => false
@[simp] def lf1s : List D → Bool
  | [] => true
  | d :: r => lf1 d && lf1s r
end
mutual
@[simp] def noDc : D → Bool
  | .none => true
  | .bool _ => true
  | .int _ => true
  | .str _ => true
  | .list ds => noDcs ds
  | .tuple ds => noDcs ds
  | .dict _ => false
@[simp] def noDcs : List D → Bool
  | [] => true
  | d :: r => noDc d && noDcs r
end
/-- lists that can't be the same object -/
def apL (ds es : List D) : Bool := decide (ds.length ≠ es.length)
def apart (args : List D) (d : D) : Bool := noDcs args && (lsIn d).all fun ds => (lsIns args).all fun es => apL ds es
theorem noL_in : ∀ (d : D), noL d = true → lsIn d = []
  | .none, _ => rfl
  | .bool _, _ => rfl
  | .int _, _ => rfl
  | .str _, _ => rfl
  | .list _, h => by cases h
  | .tuple ds, h => go ds h
  | .dict _, _ => rfl
where go : ∀ (ds : List D), noLs ds = true → lsIns ds = []
  | [], _ => rfl
  | d :: r, h => by
    have h' : (noL d && noLs r) = true := h
    rw [Bool.and_eq_true] at h'
    show lsIn d ++ lsIns r = []
    rw [noL_in d h'.1, go r h'.2]; rfl
section
variable {K : PySem.W.Frag} {F F' H : Hp}
mutual
/-- the list with the items es stands at a, within a value -/
inductive Rl (K : PySem.W.Frag) (F : Hp) : V → D → Addr → List D → Prop
  | here {a : Addr} {xs : List V} {ds : List D} : F a = some (.lst xs) → xs.length = ds.length → Rl K F (.ref a) (.list ds) a ds
  | lst {p a : Addr} {xs : List V} {ds es : List D} : F p = some (.lst xs) → RlAll K F xs ds a es → Rl K F (.ref p) (.list ds) a es
  | tup {p a : Addr} {xs : List V} {ds es : List D} : SqT K F p xs → RlAll K F xs ds a es → Rl K F (.ref p) (.tuple ds) a es
inductive RlAll (K : PySem.W.Frag) (F : Hp) : List V → List D → Addr → List D → Prop
  | hd {v : V} {vs : List V} {d : D} {ds : List D} {a : Addr} {es : List D} : Rl K F v d a es → RlAll K F (v :: vs) (d :: ds) a es
  | tl {v : V} {vs : List V} {d : D} {ds : List D} {a : Addr} {es : List D} : RlAll K F vs ds a es → RlAll K F (v :: vs) (d :: ds) a es
end
mutual
theorem rl_in {a : Addr} {es : List D} : ∀ {v : V} {d : D}, Rl K F v d a es → es ∈ lsIn d ∧ ∃ xs, F a = some (.lst xs) ∧ xs.length = es.length
  | _, _, .here h e => ⟨List.mem_cons_self, _, h, e⟩
  | _, _, .lst _ h => ⟨List.mem_cons_of_mem _ (rlAll_in h).1, (rlAll_in h).2⟩
  | _, _, .tup _ h => rlAll_in h
theorem rlAll_in {a : Addr} {es : List D} : ∀ {vs : List V} {ds : List D}, RlAll K F vs ds a es → es ∈ lsIns ds ∧ ∃ xs, F a = some (.lst xs) ∧ xs.length = es.length
  | _, _, .hd h => ⟨List.mem_append_left _ (rl_in h).1, (rl_in h).2⟩
  | _, _, .tl h => ⟨List.mem_append_right _ (rlAll_in h).1, (rlAll_in h).2⟩
end
open Classical in
/-- a known part with some of its lists alone -/
noncomputable def rst (F : Hp) (P : Addr → Prop) : Hp := fun a => match F a with
  | some (.lst xs) => if P a then some (.lst xs) else none
  | o => o
theorem rst_same {P : Addr → Prop} : Same (rst F P) F := fun a o e => by
  unfold rst at e
  split at e
  · rename_i xs hx
    split at e
    · cases e; exact hx
    · cases e
  · exact e
theorem rst_lst {P : Addr → Prop} {a : Addr} {xs : List V} (h : F a = some (.lst xs)) (p : P a) : rst F P a = some (.lst xs) := by
  unfold rst
  rw [h]
  exact if_pos p
theorem rst_none {P : Addr → Prop} {a : Addr} {xs : List V} (h : F a = some (.lst xs)) (p : ¬ P a) : rst F P a = none := by
  unfold rst
  rw [h]
  exact if_neg p
theorem rst_not {P : Addr → Prop} {a : Addr} {o : HO} (h : F a = some o) (k : ∀ xs, o ≠ .lst xs) : rst F P a = some o := by
  unfold rst
  rw [h]
  cases o <;> first | rfl | exact absurd rfl (k _)
theorem rst_p {P : Addr → Prop} {a : Addr} {xs : List V} (h : rst F P a = some (.lst xs)) : P a := by
  unfold rst at h
  split at h
  · split at h
    · assumption
    · cases h
  · rename_i hn
    exact absurd h (hn xs)
theorem sqT_rst {P : Addr → Prop} {a : Addr} {xs : List V} (h : SqT K F a xs) : SqT K (rst F P) a xs := by
  rcases h with (h | ⟨o, h⟩) | h
  · exact .inl (.inl (rst_not h fun _ z => by cases z))
  · exact .inl (.inr ⟨o, rst_not h fun _ z => by cases z⟩)
  · exact .inr h
mutual
theorem en_rst {P : Addr → Prop} : ∀ (d : D) (v : V), noDc d = true → (∀ a es, Rl K F v d a es → P a) → En K F v d → En K (rst F P) v d
  | .none, _, _, _, h => by cases h; exact .non
  | .bool b, _, _, _, h => by cases h; exact .bl b
  | .int i, _, _, _, h => by cases h; exact .int i
  | .str x, _, _, _, h => by cases h; exact .str x
  | .list ds, _, n, p, h => by
    cases h with
    | lst hs ha => exact .lst (rst_lst hs (p _ _ (.here hs ha.length))) (enAll_rst ds _ n (fun a es r => p a es (.lst hs r)) ha)
  | .tuple ds, _, n, p, h => by
    cases h with
    | tup hs ha => exact .tup (sqT_rst hs) (enAll_rst ds _ n (fun a es r => p a es (.tup hs r)) ha)
  | .dict _, _, n, _, _ => by cases n
theorem enAll_rst {P : Addr → Prop} : ∀ (ds : List D) (vs : List V), noDcs ds = true → (∀ a es, RlAll K F vs ds a es → P a) → EnAll K F vs ds → EnAll K (rst F P) vs ds
  | [], _, _, _, h => by cases h; exact .nil
  | d :: ds, _, n, p, h => by
    have n' : (noDc d && noDcs ds) = true := n
    rw [Bool.and_eq_true] at n'
    cases h with
    | cons h1 h2 => exact .cons (en_rst d _ n'.1 (fun a es r => p a es (.hd r)) h1) (enAll_rst ds _ n'.2 (fun a es r => p a es (.tl r)) h2)
end
mutual
theorem noL_rl : ∀ (d : D) {v : V} {a : Addr} {es : List D}, noL d = true → ¬ Rl K F v d a es
  | .tuple ds, _, _, _, n, h => by
    cases h with
    | tup _ r => exact noLs_rl ds n r
  | .list _, _, _, _, n, _ => by cases n
  | .none, _, _, _, _, h => by cases h
  | .bool _, _, _, _, _, h => by cases h
  | .int _, _, _, _, _, h => by cases h
  | .str _, _, _, _, _, h => by cases h
  | .dict _, _, _, _, n, _ => by cases n
theorem noLs_rl : ∀ (ds : List D) {vs : List V} {a : Addr} {es : List D}, noLs ds = true → ¬ RlAll K F vs ds a es
  | [], _, _, _, _, h => by cases h
  | d :: ds, _, _, _, n, h => by
    have n' : (noL d && noLs ds) = true := n
    rw [Bool.and_eq_true] at n'
    cases h with
    | hd r => exact noL_rl d n'.1 r
    | tl r => exact noLs_rl ds n'.2 r
end
mutual
theorem noL_dc : ∀ (d : D), noL d = true → noDc d = true
  | .tuple ds, n => noLs_dc ds n
  | .list _, n => by cases n
  | .none, _ => rfl
  | .bool _, _ => rfl
  | .int _, _ => rfl
  | .str _, _ => rfl
  | .dict _, n => by cases n
theorem noLs_dc : ∀ (ds : List D), noLs ds = true → noDcs ds = true
  | [], _ => rfl
  | d :: ds, n => by
    have n' : (noL d && noLs ds) = true := n
    rw [Bool.and_eq_true] at n'
    show (noDc d && noDcs ds) = true
    rw [noL_dc d n'.1, noLs_dc ds n'.2]; rfl
end
/-- what has no list within is known whatever lists are -/
theorem En.rstL {P : Addr → Prop} {v : V} {d : D} (n : noL d = true) (h : En K F v d) : En K (rst F P) v d := en_rst d v (noL_dc d n) (fun a es r => absurd r (noL_rl d n)) h
theorem EnAll.rstL {P : Addr → Prop} {vs : List V} {ds : List D} (n : noLs ds = true) (h : EnAll K F vs ds) : EnAll K (rst F P) vs ds := enAll_rst ds vs (noLs_dc ds n) (fun a es r => absurd r (noLs_rl ds n)) h
/-! a value's way to its new lists -/
mutual
inductive Wt (K : PySem.W.Frag) (F C : Hp) (L : Addr → Prop) : V → D → Prop
  | flat {v : V} {d : D} : noL d = true → Wt K F C L v d
  | leaf {p : Addr} {ds : List D} : noLs ds = true → L p → Wt K F C L (.ref p) (.list ds)
  | lst {q : Addr} {xs : List V} {ds : List D} : noLs ds = false → C q = some (.lst xs) → WtAll K F C L xs ds → Wt K F C L (.ref q) (.list ds)
  | tup {q : Addr} {xs : List V} {ds : List D} : SqT K F q xs → WtAll K F C L xs ds → Wt K F C L (.ref q) (.tuple ds)
inductive WtAll (K : PySem.W.Frag) (F C : Hp) (L : Addr → Prop) : List V → List D → Prop
  | nil : WtAll K F C L [] []
  | cons {v : V} {vs : List V} {d : D} {ds : List D} : Wt K F C L v d → WtAll K F C L vs ds → WtAll K F C L (v :: vs) (d :: ds)
end
variable {C C' : Hp} {L L' : Addr → Prop}
mutual
theorem wt_mono (e : Same F F') (c : Same C C') (l : ∀ a, L a → L' a) : ∀ {v : V} {d : D}, Wt K F C L v d → Wt K F' C' L' v d
  | _, _, .flat n => .flat n
  | _, _, .leaf n h => .leaf n (l _ h)
  | _, _, .lst n h k => .lst n (c _ _ h) (wtAll_mono e c l k)
  | _, _, .tup h k => .tup (sqT_mono e h) (wtAll_mono e c l k)
theorem wtAll_mono (e : Same F F') (c : Same C C') (l : ∀ a, L a → L' a) : ∀ {vs : List V} {ds : List D}, WtAll K F C L vs ds → WtAll K F' C' L' vs ds
  | _, _, .nil => .nil
  | _, _, .cons h k => .cons (wt_mono e c l h) (wtAll_mono e c l k)
end
mutual
theorem wt_rst {P : Addr → Prop} : ∀ {v : V} {d : D}, Wt K F C L v d → Wt K (rst F P) C L v d
  | _, _, .flat n => .flat n
  | _, _, .leaf n h => .leaf n h
  | _, _, .lst n h k => .lst n h (wtAll_rst k)
  | _, _, .tup h k => .tup (sqT_rst h) (wtAll_rst k)
theorem wtAll_rst {P : Addr → Prop} : ∀ {vs : List V} {ds : List D}, WtAll K F C L vs ds → WtAll K (rst F P) C L vs ds
  | _, _, .nil => .nil
  | _, _, .cons h k => .cons (wt_rst h) (wtAll_rst k)
end
mutual
theorem wt_of : ∀ (d : D) (v : V), lf1 d = true → En K F v d → (∀ a es, Rl K F v d a es → L a) → Wt K F C L v d
  | .none, _, _, _, _ => .flat rfl
  | .bool _, _, _, _, _ => .flat rfl
  | .int _, _, _, _, _ => .flat rfl
  | .str _, _, _, _, _ => .flat rfl
  | .list ds, _, n, h, l => by
    have n' : (noLs ds && decide (ds.length ≤ 1000000)) = true := n
    rw [Bool.and_eq_true] at n'
    cases h with
    | lst hs ha => exact .leaf n'.1 (l _ _ (.here hs ha.length))
  | .tuple ds, _, n, h, l => by
    cases h with
    | tup hs ha => exact .tup hs (wtAll_of ds _ n ha fun a es r => l a es (.tup hs r))
  | .dict _, _, n, _, _ => by cases n
theorem wtAll_of : ∀ (ds : List D) (vs : List V), lf1s ds = true → EnAll K F vs ds → (∀ a es, RlAll K F vs ds a es → L a) → WtAll K F C L vs ds
  | [], _, _, h, _ => by cases h; exact .nil
  | d :: ds, _, n, h, l => by
    have n' : (lf1 d && lf1s ds) = true := n
    rw [Bool.and_eq_true] at n'
    cases h with
    | cons h1 h2 => exact .cons (wt_of d _ n'.1 h1 fun a es r => l a es (.hd r)) (wtAll_of ds _ n'.2 h2 fun a es r => l a es (.tl r))
end
mutual
theorem lf1_len : ∀ (d : D), lf1 d = true → ∀ es ∈ lsIn d, es.length ≤ 1000000
  | .none, _ => fun _ h => by cases h
  | .bool _, _ => fun _ h => by cases h
  | .int _, _ => fun _ h => by cases h
  | .str _, _ => fun _ h => by cases h
  | .list ds, n => by
    have n' : (noLs ds && decide (ds.length ≤ 1000000)) = true := n
    rw [Bool.and_eq_true, decide_eq_true_eq] at n'
    intro es h
    have h' : es ∈ ds :: lsIns ds := h
    rw [noL_in.go ds n'.1, List.mem_singleton] at h'
    rw [h']; exact n'.2
  | .tuple ds, n => lf1s_len ds n
  | .dict _, _ => fun _ h => by cases h
theorem lf1s_len : ∀ (ds : List D), lf1s ds = true → ∀ es ∈ lsIns ds, es.length ≤ 1000000
  | [], _ => fun _ h => by cases h
  | d :: ds, n => by
    have n' : (lf1 d && lf1s ds) = true := n
    rw [Bool.and_eq_true] at n'
    intro es h
    rcases List.mem_append.mp (show es ∈ lsIn d ++ lsIns ds from h) with h | h
    · exact lf1_len d n'.1 es h
    · exact lf1s_len ds n'.2 es h
end
end
/-- a value whose lists are new since H -/
structure Nw (K : PySem.W.Frag) (H F : Hp) (C : Hp) (L : Addr → Prop) (v : V) (d : D) : Prop where
  wt : Wt K F C L v d
  fr : ∀ p, L p → H p = none ∧ C p = none ∧ ∃ xs, F p = some (.lst xs) ∧ xs.length ≤ 1000000
  cs : Same C F
  cn : ∀ q o, C q = some o → H q = none
def Wn (K : PySem.W.Frag) (F H : Hp) (d : D) (Q : VK) : Prop := ∀ v H' F', Ext F H F' H' → En K F' v d → (∃ C L, Nw K H F' C L v d) → Q v H'
/-! ### the language of them -/
mutual
inductive NwE where
  | fx (f : Fx)
  | call (j : Nat) (es : Exs)
  | lst (ns : NwEs)
inductive NwEs where
  | nil
  | cons (n : NwE) (ns : NwEs)
end
mutual
@[simp] def evN (Γ : List Sem1) (G : List D) : NwE → Sto → Option D
  | .fx f, st => (evF Γ G f st).bind fun ds => if noLs ds && decide (ds.length ≤ 1000000) then some (.list ds) else none
  | .call j es, st => (evs Γ G es st).bind fun as => (Γ[j]?).bind fun f => (f as).bind fun d => if lf1 d && apart as d then some d else none
  | .lst ns, st => (evNs Γ G ns st).bind fun ds => if decide (ds.length ≤ 1000) && !noLs ds then some (.list ds) else none
@[simp] def evNs (Γ : List Sem1) (G : List D) : NwEs → Sto → Option (List D)
  | .nil, _ => some []
  | .cons n ns, st => (evN Γ G n st).bind fun d => (evNs Γ G ns st).map (d :: ·)
end
section
variable (N bs cn gn : List Str)
mutual
def chkN (sc : Scope) : NwE → Expr → Bool
  | .fx f, e => chkF N bs cn gn sc f e
  | .call j es, e => match e with
    | .Call (.Name f _) xs [] _ => glb sc f && decide (cn[j]? = some f) && decide (xs ≠ []) && chks N bs cn gn sc es xs
    | _ => false
  | .lst ns, e => match e with
    | .List xs _ => chkNs sc ns xs
    | _ => false
def chkNs (sc : Scope) : NwEs → List Expr → Bool
  | .nil, es => match es with
    | [] => true
    | _ => false
  | .cons n ns, es => match es with
    | x :: xs => notStar x && chkN sc n x && chkNs sc ns xs
    | _ => false
end
end
def LN (Γ : List Sem1) (G : List D) (K : PySem.W.Frag) (n : NwE) : TE := fun σ H Q => ∃ F st d, RelE K F H st σ ∧ evN Γ G n st = some d ∧ Wn K F H d Q
def LNs (Γ : List Sem1) (G : List D) (K : PySem.W.Frag) (n : NwEs) : TA := fun σ H Q => ∃ F st ds, RelE K F H st σ ∧ evNs Γ G n st = some ds ∧
  ∀ vs H' F', Ext F H F' H' → EnAll K F' vs ds → (∃ C L, WtAll K F' C L vs ds ∧ (∀ p, L p → H p = none ∧ C p = none ∧ ∃ xs, F' p = some (.lst xs) ∧ xs.length ≤ 1000000) ∧ Same C F' ∧ ∀ q o, C q = some o → H q = none) → Q vs H'
section
variable {Γ : List Sem1} {G : List D} {N bs cn gn : List Str} {lvl : Nat}
/-- two known parts together -/
noncomputable def joinH (A B : Hp) : Hp := fun p => match A p with
  | some o => some o
  | none => B p
theorem joinH_left {A B : Hp} : Same A (joinH A B) := fun p o e => by unfold joinH; rw [e]
theorem call_new {X : Cx} {sc : Scope} {fnf : Str → Bool} (g : GoodX X sc fnf N bs cn gn Γ G lvl) {f : Str} {j : Nat} {p pos : Pos} {xs : List Expr} {es : Exs} (h1 : glb sc f = true) (h2 : cn[j]? = some f) (h3 : xs ≠ []) (hn : NoStars xs) (ha : PA X xs (LA Γ G X.K es)) :
    PE X (.Call (.Name f p) xs [] pos) (LN Γ G X.K (.call j es)) := by
  obtain ⟨hg, hd⟩ := glb_of g h1
  cases hj : Γ[j]? with
  | none =>
    refine pe_never fun σ H Q ⟨F, st, d, r, hv, w⟩ => ?_
    simp only [evN, hj] at hv
    obtain ⟨_, _, e2⟩ := bind2 hv
    cases e2
  | some sem =>
    obtain ⟨nm, fa, fd, ps, c1, c2, c3, c4, c5⟩ := g.fns j sem hj
    rw [h2] at c1
    cases c1
    cases xs with
    | nil => exact absurd rfl h3
    | cons x xs =>
      cases hn with
      | cons hn1 hn2 =>
        refine pe_weak (pe_callG c5 g.room g.gd hg c2 c3 c4 ha hd (star_of hn1 xs X.env) (hn2.any X.env pos)) fun σ H Q ⟨F, st, d, r, hv, w⟩ => ?_
        simp only [evN, hj] at hv
        obtain ⟨as, e1, e2⟩ := bind2 hv
        obtain ⟨d', e3, e4⟩ := bind2 (show (sem as).bind _ = some d from e2)
        split at e4
        · rename_i hc
          cases e4
          obtain ⟨hl, hap⟩ := b2 hc
          obtain ⟨hdc, hap⟩ := b2 hap
          refine ⟨F, st, as, r, e1, fun vs H1 F1 x1 hA => ?_⟩
          show spP X.K sem (vs ++ []) H1 Q E0
          rw [List.append_nil]
          let P : Addr → Prop := fun a => ∃ es, RlAll X.K F1 vs as a es
          have sr : Same (rst F1 P) F1 := rst_same
          refine ⟨rst F1 P, as, d, sr.trans x1.fh, enAll_rst as vs hdc (fun a es r => ⟨es, r⟩) hA, e3, fun v H2 F2 x2 hE => ?_⟩
          have f12 : Same F1 (joinH F2 F1) := fun b o e => by
            unfold joinH
            split
            · rename_i o' q
              have := x2.fh b o' q
              have k := x2.hh b o (x1.fh b o e)
              rw [k] at this
              cases this
              rfl
            · exact e
          have x12 : Ext F1 H1 (joinH F2 F1) H2 := by
            refine ⟨f12, fun b o e => ?_, x2.hh, fun b q n => ?_⟩
            · unfold joinH at e
              split at e
              · rename_i q; cases e; exact x2.fh b _ q
              · exact x2.hh b o (x1.fh b o e)
            · unfold joinH
              rw [x2.fr b (sr.free q) n]
              exact q
          refine w v H2 _ (x1.trans x12) (hE.up joinH_left) ⟨fun _ => none, fun a => H1 a = none ∧ ∃ xs, joinH F2 F1 a = some (.lst xs) ∧ xs.length ≤ 1000000, wt_mono joinH_left (Same.refl _) (fun _ l => l) (wt_of d v hl hE fun a es rl => ?_), fun a l => ⟨x1.hh.free l.1, rfl, l.2⟩, (fun _ _ z => nomatch z), (fun _ _ z => nomatch z)⟩
          -- the list at a is new
          obtain ⟨m, ys, hy, hyl⟩ := rl_in rl
          have hlen := lf1_len d hl es m
          refine ⟨?_, ys, joinH_left a _ hy, by omega⟩
          refine Classical.byContradiction fun hne => ?_
          obtain ⟨o, ho⟩ : ∃ o, H1 a = some o := by
            cases q : H1 a with
            | none => exact absurd q hne
            | some o => exact ⟨o, rfl⟩
          have hf : rst F1 P a ≠ none := fun z => by
            rw [x2.fr a z (by rw [ho]; exact fun z => nomatch z)] at hy
            cases hy
          obtain ⟨o2, ho2⟩ : ∃ o, rst F1 P a = some o := by
            cases q : rst F1 P a with
            | none => exact absurd q hf
            | some o => exact ⟨o, rfl⟩
          have := x2.ff a o2 ho2
          rw [hy] at this
          cases this
          obtain ⟨es3, r3⟩ := rst_p ho2
          obtain ⟨m3, zs, hz, hzl⟩ := rlAll_in r3
          have h1' := sr a _ ho2
          rw [hz] at h1'
          cases h1'
          have := List.all_eq_true.mp (List.all_eq_true.mp hap es m) es3 m3
          unfold apL at this
          rw [decide_eq_true_eq] at this
          omega
        · cases e4
theorem fx_new {X : Cx} {f : Fx} {e : Expr} (h : PE X e (LF Γ G X.K f)) : PE X e (LN Γ G X.K (.fx f)) := pe_weak h fun σ H Q ⟨F, st, d, r, hv, w⟩ => by
  simp only [evN] at hv
  obtain ⟨ds, e1, e2⟩ := bind2 hv
  split at e2
  · rename_i hc
    cases e2
    obtain ⟨n1, n2⟩ := b2 hc
    rw [decide_eq_true_eq] at n2
    refine ⟨F, st, ds, r, e1, fun p H' F' vs x hp fp hv ha => ?_⟩
    have sp : Same F' (upd F' p (.lst vs)) := same_new fp
    refine w _ _ (upd F' p (.lst vs)) ⟨x.ff.trans sp, fun b o q => ?_, x.hh, fun a q n => ?_⟩ (.lst upd_same (ha.up sp)) ⟨fun _ => none, fun a => a = p, .leaf n1 rfl, fun a e => ?_, (fun _ _ z => nomatch z), (fun _ _ z => nomatch z)⟩
    · by_cases hb : b = p
      · subst hb; rw [upd_same] at q; cases q; exact hv
      · rw [upd_ne hb] at q; exact x.fh b o q
    · have : a ≠ p := fun z => n (z ▸ hp)
      rw [upd_ne this]; exact x.fr a q n
    · subst e
      exact ⟨hp, rfl, vs, upd_same, by rw [ha.length]; exact n2⟩
  · cases e2
theorem laN_new0 {X : Cx} : PA X [] (LNs Γ G X.K .nil) := pa_weak pa_nil fun σ H Q ⟨F, st, ds, r, hv, w⟩ => by
  cases (show some [] = some ds from by simpa only [evNs] using hv)
  exact w [] H F (Ext.refl r.fh) .nil ⟨fun _ => none, fun _ => False, .nil, fun _ z => z.elim, (fun _ _ z => nomatch z), (fun _ _ z => nomatch z)⟩
theorem laN_new {X : Cx} {n : NwE} {ns : NwEs} {x : Expr} {xs : List Expr} (hs : notStar x = true) (h : PE X x (LN Γ G X.K n)) (k : PA X xs (LNs Γ G X.K ns)) : PA X (x :: xs) (LNs Γ G X.K (.cons n ns)) :=
  pa_weak (pa_cons h k (star_of hs xs X.env)) fun σ H Q ⟨F, st, ds, r, hv, w⟩ => by
    obtain ⟨d, e1, e2⟩ := bind2 (show (evN Γ G n st).bind _ = some ds from by simpa only [evNs] using hv)
    obtain ⟨r2, e3, e4⟩ := Option.map_eq_some_iff.mp e2
    subst e4
    refine ⟨F, st, d, r, e1, fun v H1 F1 x1 hE ⟨C1, L1, w1⟩ => ⟨F1, st, r2, r.up x1, e3, fun vs H2 F2 x2 hA ⟨C2, L2, w2, f2, s2, n2⟩ => ?_⟩⟩
    have c12 : ∀ p o, C2 p = some o → C1 p = none := fun p o q => by
      cases z : C1 p with
      | none => rfl
      | some o' =>
        have := x1.fh p _ (w1.cs p _ z)
        rw [n2 p o q] at this
        cases this
    have sC2 : Same C2 (joinH C1 C2) := fun p o q => by
      unfold joinH
      rw [c12 p o q]; exact q
    refine w (v :: vs) H2 F2 (x1.trans x2) (.cons (hE.up x2.ff) hA) ⟨joinH C1 C2, fun p => L1 p ∨ L2 p, .cons (wt_mono x2.ff joinH_left (fun _ l => .inl l) w1.wt) (wtAll_mono (Same.refl _) sC2 (fun _ l => .inr l) w2), fun p l => ?_, fun p o q => ?_, fun p o q => ?_⟩
    · rcases l with l | l
      · obtain ⟨a, b, xs, c, e⟩ := w1.fr p l
        refine ⟨a, ?_, xs, x2.ff p _ c, e⟩
        unfold joinH
        rw [b]
        cases z : C2 p with
        | none => rfl
        | some o =>
          have := x1.fh p _ c
          rw [n2 p o z] at this
          cases this
      · obtain ⟨a, b, c⟩ := f2 p l
        refine ⟨x1.hh.free a, ?_, c⟩
        unfold joinH
        cases z : C1 p with
        | none => exact b
        | some o =>
          have := x1.fh p _ (w1.cs p _ z)
          rw [a] at this
          cases this
    · unfold joinH at q
      split at q
      · rename_i z; cases q; exact x2.ff p _ (w1.cs p _ z)
      · exact s2 p o q
    · unfold joinH at q
      split at q
      · rename_i z; exact w1.cn p _ z
      · exact x1.hh.free (n2 p o q)
theorem lst_new {X : Cx} {ns : NwEs} {xs : List Expr} {pos : Pos} (h : PA X xs (LNs Γ G X.K ns)) : PE X (.List xs pos) (LN Γ G X.K (.lst ns)) := pe_weak (pe_lst h) fun σ H Q ⟨F, st, d, r, hv, w⟩ => by
  simp only [evN] at hv
  obtain ⟨ds, e1, e2⟩ := bind2 hv
  split at e2
  · rename_i hc
    cases e2
    obtain ⟨n1, n2⟩ := b2 hc
    rw [decide_eq_true_eq] at n1
    have n2 : noLs ds = false := by simpa using n2
    refine ⟨F, st, ds, r, e1, fun vs H1 F1 x1 hA ⟨C, L, k1, k2, k3, k4⟩ => ⟨by rw [hA.length]; have := sizeLine_eq; omega, fun q hq => ?_⟩⟩
    have fq : F1 q = none := x1.fh.free hq
    have sq : Same F1 (upd F1 q (.lst vs)) := same_new fq
    have cq : C q = none := k3.free fq
    have ne : ∀ p, L p → p ≠ q := fun p l z => by
      obtain ⟨-, -, ys, c, -⟩ := k2 p l
      rw [z, fq] at c
      cases c
    refine w _ _ _ (x1.trans (Ext.new x1.fh hq)) (.lst upd_same (hA.up sq)) ⟨upd C q (.lst vs), L, .lst n2 upd_same (wtAll_mono sq (same_new cq) (fun _ l => l) k1), fun p l => ?_, fun p o e => ?_, fun p o e => ?_⟩
    · obtain ⟨a, b, ys, c, e⟩ := k2 p l
      refine ⟨a, ?_, ys, sq p _ c, e⟩
      rw [upd_ne (ne p l)]; exact b
    · by_cases z : p = q
      · subst z; rw [upd_same] at e ⊢; exact e
      · rw [upd_ne z] at e ⊢; exact k3 p o e
    · by_cases z : p = q
      · subst z; exact x1.hh.free hq
      · rw [upd_ne z] at e; exact k4 p o e
  · cases e2
mutual
theorem sN : ∀ (il : NwE) {X : Cx} {sc : Scope} {fnf : Str → Bool}, GoodX X sc fnf N bs cn gn Γ G lvl → ∀ e : Expr, chkN N bs cn gn sc il e = true → PE X e (LN Γ G X.K il)
  | .fx f, X, sc, fnf, g, e, h => fx_new (sF f g e h)
  | .call j es, X, sc, fnf, g, e, h => by
    simp only [chkN] at h
    split at h
    · obtain ⟨h, h4⟩ := b2 h
      obtain ⟨h, h3⟩ := b2 h
      obtain ⟨h1, h2⟩ := b2 h
      exact call_new g h1 (dc h2) (dc h3) (chks_nostar es _ h4) (sEs es g _ h4)
    · cases h
  | .lst ns, X, sc, fnf, g, e, h => by
    simp only [chkN] at h
    split at h
    · exact lst_new (sNs ns g _ h)
    · cases h
theorem sNs : ∀ (il : NwEs) {X : Cx} {sc : Scope} {fnf : Str → Bool}, GoodX X sc fnf N bs cn gn Γ G lvl → ∀ e : List Expr, chkNs N bs cn gn sc il e = true → PA X e (LNs Γ G X.K il)
  | .nil, X, sc, fnf, g, e, h => by
    simp only [chkNs] at h
    split at h
    · exact laN_new0
    · cases h
  | .cons n ns, X, sc, fnf, g, e, h => by
    simp only [chkNs] at h
    split at h
    · obtain ⟨h, h3⟩ := b2 h
      obtain ⟨h1, h2⟩ := b2 h
      exact laN_new h1 (sN n g _ h2) (sNs ns g _ h3)
    · cases h
end
end
end PL
namespace PL
open PySem PySem.Spec PyProof.Rows L2

/-! ### statements -/
/-- a change of a new list: name[k]..append(e); for x in name[k]..: x.append(e) -/
inductive Mt where
  | app (ks : List Nat) (e : Ex)
  | all (j : Nat) (ks : List Nat) (e : Ex)
mutual
inductive Sm where
  | set (i : Nat) (e : Ex)
  | setN (i : Nat) (n : NwE)
  | setF (i : Nat) (f : Fx)
  | par2 (i j : Nat) (a b : Ex)
  | par3 (i j l : Nat) (a b c : Ex)
  | unp (is : List Nat) (e : Ex)
  | app (i : Nat) (e : Ex)
  | extd (i : Nat) (e : Ex)
  | ins (i : Nat) (k e : Ex)
  | sti (i : Nat) (k e : Ex)
  | popL (j i : Nat)
  | popT (is : List Nat) (i : Nat)
  | popX (i : Nat)
  | ret (e : Ex)
  | retO (i : Nat)
  | retF (f : Fx)
  | retN
  | ite (c : Ex) (a b : Sms)
  | whl (c : Ex) (b : Sms)
  | forr (tg : Tg) (it : Ir) (b : Sms)
  | pass
  | dead
inductive Sms where
  | nil
  | frz (i : Nat) (r : Sms)
  | mark (r : Sms)
  | muts (i : Nat) (ms : List Mt) (r : Sms)
  | cons (s : Sm) (r : Sms)
end
inductive Out where
  | next (st : Sto) | ret (d : D) | own (ds : List D)
@[simp] def thenO (o : Option Out) (k : Sto → Option Out) : Option Out := o.bind fun x => match x with
  | .next st => k st
  | .ret d => some (.ret d)
  | .own ds => some (.own ds)
@[simp] def frz1 (i : Nat) (st : Sto) : Sto := put st i (fz (get st i))
def forL (f : D → Sto → Option Out) : List D → Sto → Option Out
  | [], st => some (.next st)
  | d :: r, st => thenO (f d st) (forL f r)
def whileP (c : Sto → Option D) (b : Sto → Option Out) (st : Sto) : Option Out := do
  let t ← c st
  match t with
  | .bool true => do
    let x ← b st
    match x with
    | .next st' => whileP c b st'
    | .ret d => some (.ret d)
    | .own ds => some (.own ds)
  | .bool false => some (.next st)
  | _ => none
partial_fixpoint
@[simp] def ownAt (st : Sto) (i : Nat) : Option (List D) := match get st i with
  | .own ds => some ds
  | _ => none
@[simp] def wipeF : Sto → List Nat → Sto
  | st, [] => st
  | st, j :: js => wipeF (put st j .no) js
/-- what is older from here on -/
@[simp] def mk1 : Sl → Sl
  | .val d => .old d
  | .new d => .old d
  | .old d => .old d
  | .no => .no
  | .own ds => .own ds
@[simp] def markA (st : Sto) : Sto := st.map mk1
/-- what is left when new lists were changed -/
@[simp] def drp : Sl → Sl
  | .val d => if noL d then .val d else .no
  | .new _ => .no
  | .old d => .old d
  | .no => .no
  | .own ds => if noLs ds then .own ds else .no
@[simp] def drpA (st : Sto) : Sto := st.map drp
@[simp] def blank (st : Sto) : Sto := st.map fun _ => .no
/-- the value at a way -/
@[simp] def wayD : D → List Nat → Option D
  | d, [] => some d
  | .tuple ds, k :: ks => (ds[k]?).bind fun d => wayD d ks
  | .list ds, k :: ks => if noLs ds then none else (ds[k]?).bind fun d => wayD d ks
  | _, _ :: _ => none
@[simp] def isLeaf : D → Bool
  | .list ds => noLs ds
  | _ => false
@[simp] def mtOk (Γ : List Sem1) (G : List D) (st : Sto) (d : D) : Mt → Bool
  | .app ks e => (match wayD d ks with | some x => isLeaf x | none => false) && (ev Γ G e (blank st)).isSome
  | .all j ks e => (match wayD d ks with | some (.list xs) => !noLs xs && xs.all isLeaf && decide (xs.length ≤ 1000) | _ => false) && (ev Γ G e (blank st)).isSome && decide (j < st.length)
@[simp] def mtJ : List Mt → List Nat
  | [] => []
  | .app _ _ :: r => mtJ r
  | .all j _ _ :: r => j :: mtJ r
mutual
@[simp] def ex (Γ : List Sem1) (G : List D) : Sm → Sto → Option Out
  | .set i e, st => (ev Γ G e st).map fun d => .next (put st i (.val d))
  | .setN i n, st => (evN Γ G n st).map fun d => .next (put st i (.new d))
  | .setF i f, st => (evF Γ G f st).map fun ds => .next (put st i (.own ds))
  | .par2 i j a b, st => (ev Γ G a st).bind fun x => (ev Γ G b st).map fun y => .next (put (put st i (.val x)) j (.val y))
  | .par3 i j l a b c, st => (ev Γ G a st).bind fun x => (ev Γ G b st).bind fun y => (ev Γ G c st).map fun z => .next (put (put (put st i (.val x)) j (.val y)) l (.val z))
  | .unp is e, st => (ev Γ G e st).bind fun d => (bindTg (.tup is) d st).map .next
  | .app i e, st => (ev Γ G e st).bind fun d => (ownAt st i).bind fun ds => if ds.length < sizeLine then some (.next (put st i (.own (ds ++ [d])))) else none
  | .extd i e, st => (ev Γ G e st).bind fun d => (ownAt st i).bind fun ds => match d with
    | .list es => if ds.length + es.length ≤ sizeLine then some (.next (put st i (.own (ds ++ es)))) else none
    | _ => none
  | .ins i k e, st => (ev Γ G k st).bind fun n => (ev Γ G e st).bind fun d => (ownAt st i).bind fun ds => match n with
    | .int n => if ds.length < sizeLine ∧ 0 ≤ n ∧ n.natAbs < 2 ^ 62 then some (.next (put st i (.own (ds.take n.toNat ++ [d] ++ ds.drop n.toNat)))) else none
    | _ => none
  | .sti i k e, st => (ev Γ G e st).bind fun d => (ev Γ G k st).bind fun n => (ownAt st i).bind fun ds => match n with
    | .int n => (ixN ds.length n).map fun j => .next (put st i (.own (ds.set j d)))
    | _ => none
  | .popL j i, st => (ownAt st i).bind fun ds => (ds[ds.length - 1]?).map fun d => .next (put (put st i (.own ds.dropLast)) j (.val d))
  | .popT is i, st => (ownAt st i).bind fun ds => (ds[ds.length - 1]?).bind fun d => (bindTg (.tup is) d (put st i (.own ds.dropLast))).map .next
  | .popX i, st => (ownAt st i).bind fun ds => (ds[ds.length - 1]?).map fun _ => .next (put st i (.own ds.dropLast))
  | .ret e, st => (ev Γ G e st).map .ret
  | .retO i, st => (ownAt st i).map .own
  | .retF f, st => (evF Γ G f st).map .own
  | .retN, _ => some (.ret .none)
  | .ite c a b, st => (ev Γ G c st).bind fun t => match t with
    | .bool true => exs Γ G a st
    | .bool false => exs Γ G b st
    | _ => none
  | .whl c b, st => whileP (fun s => ev Γ G c s) (fun s => exs Γ G b s) st
  | .forr tg it b, st => (evI Γ G it st).bind fun ds => if noSlot it then forL (fun d s => (bindTg tg d s).bind fun s1 => exs Γ G b s1) ds st else none
  | .pass, st => some (.next st)
  | .dead, _ => none
@[simp] def exs (Γ : List Sem1) (G : List D) : Sms → Sto → Option Out
  | .nil, st => some (.next st)
  | .frz i r, st => exs Γ G r (frz1 i st)
  | .mark r, st => exs Γ G r (markA st)
  | .muts i ms r, st => match get st i with
    | .new d => if ms.all (mtOk Γ G st d) && decide (ms.length ≤ 100) && !(mtJ ms).contains i then exs Γ G r (wipeF (drpA st) (mtJ ms)) else none
    | _ => none
  | .cons s r, st => thenO (ex Γ G s st) (fun st' => exs Γ G r st')
end
/-- a def: the number of its parameters, of its names, its body -/
@[simp] def run (Γ : List Sem1) (G : List D) (np n : Nat) (b : Sms) : Sem1 := fun ds => if ds.length = np then
    (exs Γ G b (ds.map .val ++ List.replicate (n - np) .no)).map fun o => match o with
      | .next _ => .none
      | .ret d => d
      | .own xs => .list xs
  else none
/-- a def that returns a list of its own -/
@[simp] def runO (Γ : List Sem1) (G : List D) (np n : Nat) (b : Sms) : Sem1 := fun ds => if ds.length = np then
    (exs Γ G b (ds.map .val ++ List.replicate (n - np) .no)).bind fun o => match o with
      | .own xs => some (.list xs)
      | _ => none
  else none

mutual
/-- no new list is changed within -/
def nmS : Sm → Bool
  | .ite _ a b => nm a && nm b
  | .whl _ b => nm b
  | .forr _ _ b => nm b
  | _ => true
def nm : Sms → Bool
  | .nil => true
  | .frz _ r => nm r
  | .mark _ => false
  | .muts _ _ _ => false
  | .cons s r => nmS s && nm r
end
/-! ### the state between statements -/
structure RelS (K : PySem.W.Frag) (B F0 H0 F H : Hp) (st : Sto) (σ : L2.St) : Prop where
  e : Ext F0 H0 F H
  r : RelE K F H st σ
  apart : ∀ i j ds es p, i ≠ j → get st i = .own ds → get st j = .own es → σ[i]? = some (some (.ref p)) → σ[j]? ≠ some (some (.ref p))
  young : ∀ i ds p, get st i = .own ds → σ[i]? = some (some (.ref p)) → H0 p = none
  ob : Same F0 B
  bf : Same B F
  old : ∀ i d, get st i = .old d → ∃ v, σ[i]? = some (some v) ∧ En K B v d
  nw : ∀ i d, get st i = .new d → ∃ v C L, σ[i]? = some (some v) ∧ Wt K F C L v d ∧ (∀ p, L p → B p = none ∧ H0 p = none ∧ C p = none ∧ ∃ xs, F p = some (.lst xs) ∧ xs.length ≤ 1000000) ∧ Same C F ∧ ∀ q o, C q = some o → B q = none ∧ H0 q = none
section
variable {K : PySem.W.Frag} {B F0 H0 F H F' H' : Hp} {st : Sto} {σ : L2.St}
theorem RelS.newUp (s : RelS K B F0 H0 F H st σ) (e : Same F F') : ∀ i d, get st i = .new d → ∃ v C L, σ[i]? = some (some v) ∧ Wt K F' C L v d ∧ (∀ p, L p → B p = none ∧ H0 p = none ∧ C p = none ∧ ∃ xs, F' p = some (.lst xs) ∧ xs.length ≤ 1000000) ∧ Same C F' ∧ ∀ q o, C q = some o → B q = none ∧ H0 q = none := fun i d h => by
  obtain ⟨v, C, L, a, b, c, f, k⟩ := s.nw i d h
  exact ⟨v, C, L, a, wt_mono e (Same.refl _) (fun _ l => l) b, fun p l => by
    obtain ⟨x, y, z, xs, u, w⟩ := c p l
    exact ⟨x, y, z, xs, e p _ u, w⟩, f.trans e, k⟩
theorem RelS.up (s : RelS K B F0 H0 F H st σ) (x : Ext F H F' H') : RelS K B F0 H0 F' H' st σ := ⟨s.e.trans x, s.r.up x, s.apart, s.young, s.ob, s.bf.trans x.ff, s.old, s.newUp x.ff⟩
theorem get_put_ne {i j : Nat} {s t : Sl} (h : get (put st i s) j = t) (k : s ≠ t) (n : t ≠ .no) : j ≠ i ∧ get st j = t := by
  rw [get_put] at h
  by_cases c : j = i ∧ i < st.length
  · rw [if_pos c] at h; exact absurd h k
  · rw [if_neg c] at h
    refine ⟨fun e => ?_, h⟩
    subst e
    have hl : st.length ≤ j := by
      have := fun z => c ⟨rfl, z⟩
      omega
    rw [get_ge st j hl] at h
    exact absurd h.symm n
theorem get_val_ne {i j : Nat} {d : D} {ds : List D} (h : get (put st i (.val d)) j = .own ds) : j ≠ i ∧ get st j = .own ds := get_put_ne h (fun z => nomatch z) (fun z => nomatch z)
/-- a slot is set that is not of the old or the new ones -/
theorem RelS.oldPut (s : RelS K B F0 H0 F H st σ) {i : Nat} {x : Sl} {u : Option V} (h : ∀ d, x ≠ .old d) : ∀ j d, get (put st i x) j = .old d → ∃ v, (σ.set i u)[j]? = some (some v) ∧ En K B v d := fun j d g => by
  obtain ⟨a, b⟩ := get_put_ne g (h d) (fun z => nomatch z)
  rw [List.getElem?_set_ne (Ne.symm a)]
  exact s.old j d b
theorem RelS.newPut (s : RelS K B F0 H0 F H st σ) {i : Nat} {x : Sl} {u : Option V} (h : ∀ d, x ≠ .new d) (e : Same F F') : ∀ j d, get (put st i x) j = .new d → ∃ v C L, (σ.set i u)[j]? = some (some v) ∧ Wt K F' C L v d ∧ (∀ p, L p → B p = none ∧ H0 p = none ∧ C p = none ∧ ∃ xs, F' p = some (.lst xs) ∧ xs.length ≤ 1000000) ∧ Same C F' ∧ ∀ q o, C q = some o → B q = none ∧ H0 q = none := fun j d g => by
  obtain ⟨a, b⟩ := get_put_ne g (h d) (fun z => nomatch z)
  rw [List.getElem?_set_ne (Ne.symm a)]
  exact s.newUp e j d b
theorem RelS.val (s : RelS K B F0 H0 F H st σ) {v : V} {d : D} (h : En K F v d) (i : Nat) : RelS K B F0 H0 F H (put st i (.val d)) (σ.set i (some v)) := by
  refine ⟨s.e, s.r.put h i, fun a b ds es p ne ga gb sa => ?_, fun a ds p ga sa => ?_, s.ob, s.bf, s.oldPut (fun _ z => nomatch z), s.newPut (fun _ z => nomatch z) (Same.refl _)⟩
  · obtain ⟨na, ga⟩ := get_val_ne ga
    obtain ⟨nb, gb⟩ := get_val_ne gb
    rw [List.getElem?_set_ne (Ne.symm na)] at sa
    rw [List.getElem?_set_ne (Ne.symm nb)]
    exact s.apart a b ds es p ne ga gb sa
  · obtain ⟨na, ga⟩ := get_val_ne ga
    rw [List.getElem?_set_ne (Ne.symm na)] at sa
    exact s.young a ds p ga sa
theorem own_of (s : RelS K B F0 H0 F H st σ) {i : Nat} {ds : List D} (h : get st i = .own ds) : ∃ p vs, σ[i]? = some (some (.ref p)) ∧ H p = some (.lst vs) ∧ F p = none ∧ EnAll K F vs ds ∧ H0 p = none ∧ i < st.length := by
  have q := s.r.sl i
  rw [h] at q
  obtain ⟨p, vs, e1, e2, e3, e4⟩ := q
  refine ⟨p, vs, e1, e2, e3, e4, s.young i ds p h e1, ?_⟩
  by_cases hl : i < st.length
  · exact hl
  · rw [get_ge st i (by omega)] at h; cases h
/-- a slot's own list is changed -/
theorem RelS.mut (s : RelS K B F0 H0 F H st σ) {i : Nat} {ds es : List D} {p : Addr} {ws : List V} (h : get st i = .own ds) (hp : σ[i]? = some (some (.ref p))) (ha : EnAll K F ws es) :
    RelS K B F0 H0 F (upd H p (.lst ws)) (put st i (.own es)) σ := by
  obtain ⟨q, vs, e1, e2, e3, e4, e5, hi⟩ := own_of s h
  rw [hp] at e1
  cases e1
  have fu : Same F (upd H p (.lst ws)) := fun b o e => by
    rw [upd_ne (fun z => by rw [z, e3] at e; cases e)]; exact s.r.fh b o e
  refine ⟨⟨s.e.ff, fu, fun b o e => by rw [upd_ne (fun z => by rw [z, e5] at e; cases e)]; exact s.e.hh b o e, s.e.fr⟩, ⟨fu, by rw [put_length]; exact s.r.len, fun j => ?_⟩, fun a b ds' es' p' ne ga gb sa => ?_, fun a ds' p' ga sa => ?_, s.ob, s.bf, fun j d g => s.old j d (get_put_ne g (fun z => nomatch z) (fun z => nomatch z)).2, fun j d g => s.nw j d (get_put_ne g (fun z => nomatch z) (fun z => nomatch z)).2⟩
  · rw [get_put]
    by_cases c : j = i ∧ i < st.length
    · rw [if_pos c]
      obtain ⟨rfl, _⟩ := c
      exact ⟨p, ws, hp, upd_same, e3, ha⟩
    · rw [if_neg c]
      have hj : j ≠ i := fun z => c ⟨z, hi⟩
      have q := s.r.sl j
      cases g : get st j with
      | no => trivial
      | val d => rw [g] at q; exact q
      | old d => rw [g] at q; exact q
      | new d => rw [g] at q; exact q
      | own es2 =>
        rw [g] at q
        obtain ⟨p2, vs2, f1, f2, f3, f4⟩ := q
        have hne : p2 ≠ p := fun z => s.apart j i es2 ds p2 hj g h f1 (z ▸ hp)
        exact ⟨p2, vs2, f1, by rw [upd_ne hne]; exact f2, f3, f4⟩
  · rw [get_put] at ga gb
    have fix : ∀ x ts, (if x = i ∧ i < st.length then Sl.own es else get st x) = .own ts → ∃ ts', get st x = .own ts' := fun x ts g => by
      by_cases c : x = i ∧ i < st.length
      · rw [c.1]; exact ⟨ds, h⟩
      · rw [if_neg c] at g; exact ⟨ts, g⟩
    obtain ⟨_, g1⟩ := fix a ds' ga
    obtain ⟨_, g2⟩ := fix b es' gb
    exact s.apart a b _ _ p' ne g1 g2 sa
  · rw [get_put] at ga
    by_cases c : a = i ∧ i < st.length
    · rw [c.1] at sa
      exact s.young i ds p' h sa
    · rw [if_neg c] at ga
      exact s.young a ds' p' ga sa
/-- a slot gets a new list of its own -/
theorem RelS.new (s : RelS K B F0 H0 F H st σ) (x : Ext F H F' H') {i : Nat} {ds : List D} {p : Addr} {vs : List V} (hp : H p = none) (fp : F' p = none) (hv : H' p = some (.lst vs)) (ha : EnAll K F' vs ds) :
    RelS K B F0 H0 F' H' (put st i (.own ds)) (σ.set i (some (.ref p))) := by
  have s' := s.up x
  have h0 : H0 p = none := by
    cases q : H0 p with
    | none => rfl
    | some o => rw [s.e.hh p o q] at hp; cases hp
  have hne : ∀ j es q, get st j = .own es → σ[j]? = some (some (.ref q)) → q ≠ p := fun j es q g e z => by
    obtain ⟨q', vs', e1, e2, _⟩ := own_of s g
    rw [e] at e1; cases e1
    rw [z, hp] at e2; cases e2
  refine ⟨s'.e, ⟨x.fh, by rw [put_length, List.length_set]; exact s.r.len, fun j => ?_⟩, fun a b ds' es' p' ne ga gb sa => ?_, fun a ds' p' ga sa => ?_, s.ob, s.bf.trans x.ff, s.oldPut (fun _ z => nomatch z), s.newPut (fun _ z => nomatch z) x.ff⟩
  · rw [get_put]
    by_cases c : j = i ∧ i < st.length
    · rw [if_pos c]
      obtain ⟨rfl, c⟩ := c
      exact ⟨p, vs, by rw [List.getElem?_set_self (by rw [← s.r.len]; exact c)], hv, fp, ha⟩
    · rw [if_neg c]
      by_cases e : j = i
      · have hl : st.length ≤ i := by
          have := fun z => c ⟨e, z⟩
          omega
        rw [e, get_ge st i hl]
        trivial
      · rw [List.getElem?_set_ne (Ne.symm e)]
        exact s'.r.sl j
  · rw [get_put] at ga gb
    have hh : ∀ y ts q, (if y = i ∧ i < st.length then Sl.own ds else get st y) = .own ts → (σ.set i (some (V.ref p)))[y]? = some (some (.ref q)) → (y = i ∧ q = p) ∨ (y ≠ i ∧ get st y = .own ts ∧ σ[y]? = some (some (.ref q)) ∧ q ≠ p) := fun y ts q g e => by
      by_cases c : y = i ∧ i < st.length
      · obtain ⟨rfl, c⟩ := c
        rw [List.getElem?_set_self (by rw [← s.r.len]; exact c)] at e
        cases e
        exact .inl ⟨rfl, rfl⟩
      · rw [if_neg c] at g
        have hy : y ≠ i := fun z => by
          have hl : st.length ≤ i := by
            have := fun w => c ⟨z, w⟩
            omega
          rw [z, get_ge st i hl] at g; cases g
        rw [List.getElem?_set_ne (Ne.symm hy)] at e
        exact .inr ⟨hy, g, e, hne y ts q g e⟩
    intro sb
    rcases hh a ds' p' ga sa with ⟨e1, e2⟩ | ⟨e1, e2, e3, e4⟩
    · rcases hh b es' p' gb sb with ⟨k1, _⟩ | ⟨_, _, _, k4⟩
      · exact ne (e1.trans k1.symm)
      · exact k4 e2
    · rcases hh b es' p' gb sb with ⟨_, k2⟩ | ⟨_, k2, k3, _⟩
      · exact e4 k2
      · exact s.apart a b ds' es' p' ne e2 k2 e3 k3
  · rw [get_put] at ga
    by_cases c : a = i ∧ i < st.length
    · obtain ⟨rfl, c⟩ := c
      rw [List.getElem?_set_self (by rw [← s.r.len]; exact c)] at sa
      cases sa
      exact h0
    · rw [if_neg c] at ga
      have hy : a ≠ i := fun z => by
        have hl : st.length ≤ i := by
          have := fun w => c ⟨z, w⟩
          omega
        rw [z, get_ge st i hl] at ga; cases ga
      rw [List.getElem?_set_ne (Ne.symm hy)] at sa
      exact s.young a ds' p' ga sa
theorem put_get : ∀ (st : Sto) (i : Nat), put st i (get st i) = st
  | [], _ => rfl
  | _ :: _, 0 => rfl
  | s :: r, i + 1 => by
    show s :: put r i (get r i) = s :: r
    rw [put_get r i]
/-- a slot's own list is known from here on -/
theorem RelS.frz (s : RelS K B F0 H0 F H st σ) (i : Nat) : ∃ F', RelS K B F0 H0 F' H (frz1 i st) σ ∧ Same F F' := by
  unfold frz1
  cases g : get st i with
  | no => exact ⟨F, by rw [show fz .no = get st i by rw [g]; rfl, put_get]; exact s, Same.refl _⟩
  | val d => exact ⟨F, by rw [show fz (.val d) = get st i by rw [g]; rfl, put_get]; exact s, Same.refl _⟩
  | old d => exact ⟨F, by rw [show fz (.old d) = get st i by rw [g]; rfl, put_get]; exact s, Same.refl _⟩
  | new d => exact ⟨F, by rw [show fz (.new d) = get st i by rw [g]; rfl, put_get]; exact s, Same.refl _⟩
  | own ds =>
    obtain ⟨p, vs, e1, e2, e3, e4, e5, hi⟩ := own_of s g
    have ff : Same F (upd F p (.lst vs)) := same_new e3
    have fh : Same (upd F p (.lst vs)) H := fun b o e => by
      by_cases c : b = p
      · subst c; rw [upd_same] at e; cases e; exact e2
      · rw [upd_ne c] at e; exact s.r.fh b o e
    refine ⟨upd F p (.lst vs), ⟨⟨s.e.ff.trans ff, fh, s.e.hh, fun a q n => ?_⟩, ⟨fh, by rw [put_length]; exact s.r.len, fun j => ?_⟩, fun a b ds' es' p' ne ga gb sa => ?_, fun a ds' p' ga sa => ?_, s.ob, s.bf.trans ff, fun j d g => s.old j d (get_put_ne g (fun z => nomatch z) (fun z => nomatch z)).2, fun j d g => s.newUp ff j d (get_put_ne g (fun z => nomatch z) (fun z => nomatch z)).2⟩, ff⟩
    · rw [upd_ne (fun z : a = p => n (by rw [z]; exact e5))]
      exact s.e.fr a q n
    · rw [get_put]
      by_cases c : j = i ∧ i < st.length
      · rw [if_pos c]
        obtain ⟨rfl, _⟩ := c
        exact ⟨.ref p, e1, .lst upd_same (e4.up ff)⟩
      · rw [if_neg c]
        have hj : j ≠ i := fun z => c ⟨z, hi⟩
        have q := s.r.sl j
        cases g2 : get st j with
        | no => trivial
        | val d => rw [g2] at q; obtain ⟨v, k1, k2⟩ := q; exact ⟨v, k1, k2.up ff⟩
        | old d => rw [g2] at q; obtain ⟨v, k1, k2⟩ := q; exact ⟨v, k1, k2.up ff⟩
        | new d => rw [g2] at q; obtain ⟨v, k1, k2⟩ := q; exact ⟨v, k1, k2.up ff⟩
        | own es2 =>
          rw [g2] at q
          obtain ⟨p2, vs2, f1, f2, f3, f4⟩ := q
          have hne : p2 ≠ p := fun z => s.apart j i es2 ds p2 hj g2 g f1 (z ▸ e1)
          exact ⟨p2, vs2, f1, f2, by rw [upd_ne hne]; exact f3, f4.up ff⟩
    · obtain ⟨na, ga⟩ := get_val_ne ga
      obtain ⟨nb, gb⟩ := get_val_ne gb
      exact s.apart a b ds' es' p' ne ga gb sa
    · obtain ⟨na, ga⟩ := get_val_ne ga
      exact s.young a ds' p' ga sa
theorem RelS.vals (is : List Nat) : ∀ (vs : List V) (ds : List D) {st : Sto} {σ : L2.St}, RelS K B F0 H0 F H st σ → EnAll K F vs ds →
    RelS K B F0 H0 F H ((is.zip ds).foldl (fun s p => put s p.1 (.val p.2)) st) ((is.zip vs).foldl (fun s p => s.set p.1 (some p.2)) σ) := by
  induction is with
  | nil => intro vs ds st σ s _; exact s
  | cons i is ih =>
    intro vs ds st σ s h
    cases h with
    | nil => exact s
    | cons h1 h2 => exact ih _ _ (s.val h1 i) h2
theorem RelS.start (e : Same F H) {vs : List V} {ds : List D} (h : EnAll K F vs ds) (N : List Str) : RelS K F F H F H (ds.map .val ++ List.replicate (N.length - vs.length) .no) (start N vs) := by
  have hl := h.length
  have key : ∀ (ds : List D) (i : Nat), (∃ d, ds[i]? = some d ∧ get (ds.map .val ++ List.replicate (N.length - vs.length) .no) i = .val d) ∨ get (ds.map .val ++ List.replicate (N.length - vs.length) .no) i = .no := by
    intro ds
    induction ds with
    | nil =>
      intro i
      refine .inr ?_
      show get (List.replicate (N.length - vs.length) .no) i = .no
      generalize N.length - vs.length = m
      induction m generalizing i with
      | zero => rfl
      | succ m ih => cases i with
        | zero => rfl
        | succ i => exact ih i
    | cons d r ih =>
      intro i
      cases i with
      | zero => exact .inl ⟨d, rfl, rfl⟩
      | succ i => rcases ih i with ⟨d', q1, q2⟩ | q
                  · exact .inl ⟨d', by simpa using q1, q2⟩
                  · exact .inr q
  have noOwn : ∀ i es, get (ds.map .val ++ List.replicate (N.length - vs.length) .no) i ≠ .own es := fun i es z => by
    rcases key ds i with ⟨d, _, q⟩ | q
    · rw [q] at z; cases z
    · rw [q] at z; cases z
  refine ⟨Ext.refl e, ⟨e, by unfold L2.start; simp [hl], fun i => ?_⟩, fun i j ds' _ _ _ g _ _ => absurd g (noOwn i _), fun i _ _ g _ => absurd g (noOwn i _), Same.refl _, Same.refl _, fun i d g => ?_, fun i d g => ?_⟩
  rotate_left
  · rcases key ds i with ⟨d', _, q⟩ | q <;> (rw [q] at g; cases g)
  · rcases key ds i with ⟨d', _, q⟩ | q <;> (rw [q] at g; cases g)
  rcases key ds i with ⟨d, q1, q2⟩ | q
  · rw [q2]
    obtain ⟨v, k1, k2⟩ := h.get q1
    refine ⟨v, ?_, k2⟩
    unfold L2.start
    have hi : i < vs.length := (List.getElem?_eq_some_iff.mp k1).1
    rw [List.getElem?_append_left (by rw [List.length_map]; exact hi), List.getElem?_map, k1]
    rfl
  · rw [q]; trivial
end
end PL
namespace PL
open PySem PySem.Spec PyProof.Rows L2

/-! ### the checker of statements -/
def isComp : Expr → Bool
  | .ListComp .. => true
  | .SetComp .. => true
  | .DictComp .. => true
  | _ => false
def isLocal (sc : Scope) (x : Str) : Bool := match sc.names.lookup x with | some .local => true | _ => false
/-- a tuple's items are stored one by one from the right: two or three plain local names of one line -/
def swYes (sc : Scope) : List Expr → List Expr → Bool
  | [.Name x p, .Name y q], [a, b] => isLocal sc x && isLocal sc y && !(x == y) && p.line == q.line && notStar a && notStar b && !(constantsAlone 8 a && constantsAlone 8 b) && !(foldedForSure 8 a && foldedForSure 8 b)
  | [.Name x p, .Name y q, .Name z r], [a, b, c] => isLocal sc x && isLocal sc y && isLocal sc z && !(x == y) && !(x == z) && !(y == z) && p.line == q.line && p.line == r.line && notStar a && notStar b && notStar c
      && !(constantsAlone 8 a && constantsAlone 8 b && constantsAlone 8 c) && !(foldedForSure 8 a && foldedForSure 8 b && foldedForSure 8 c)
  | _, _ => false
def oddName (sc : Scope) : Expr → Bool
  | .Name x _ => !isLocal sc x
  | _ => true
def swNo (sc : Scope) (ts : List Expr) : Expr → Bool
  | .Tuple vs _ _ => (!(ts.length == 2) && !(ts.length == 3)) || !(vs.length == ts.length) || ts.any (oddName sc) || vs.all (foldedForSure 8)
  | _ => true
section
variable (N bs cn gn : List Str)
/-- name[k].. -/
def chkW (sc : Scope) (i : Nat) : List Nat → Expr → Bool
  | [], e => match e with
    | .Name x _ => vis sc x && decide (N[i]? = some x)
    | _ => false
  | k :: ks, e => match e with
    | .Subscript o (.Constant (.int c) _ _) _ => decide (c = (k : Int)) && chkW sc i ks o
    | _ => false
def chkApp (sc : Scope) (e : Ex) (ko : Expr → Bool) : Stmt → Bool
  | .Expr (.Call (.Attribute o m apos) [v] [] cpos) _ => decide (m = "append") && ko o && notStar v && (apos.endLine == cpos.line) && chk N bs cn gn sc e v
  | _ => false
def chkM (sc : Scope) (i : Nat) : Mt → Stmt → Bool
  | .app ks e, s => chkApp N bs cn gn sc e (chkW N sc i ks.reverse) s
  | .all j ks e, s => match s with
    | .For (.Name y _) o [b] [] _ => slotN N sc (fun _ => true) j y && notSet o && chkW N sc i ks.reverse o && chkApp N bs cn gn sc e (chkW N sc j []) b
    | _ => false
def chkMs (sc : Scope) (i : Nat) : List Mt → List Stmt → Bool
  | [], l => l.isEmpty
  | m :: ms, l => match l with
    | x :: xs => chkM N bs cn gn sc i m x && chkMs sc i ms xs
    | [] => false
mutual
def chkS (sc : Scope) : Sm → Stmt → Bool
  | .set i e, s => match s with
    | .Assign [.Name x _] v _ => slotN N sc (fun _ => true) i x && chk N bs cn gn sc e v && !isComp v
    | _ => false
  | .setN i n, s => match s with
    | .Assign [.Name x _] v _ => slotN N sc (fun _ => true) i x && chkN N bs cn gn sc n v && !isComp v
    | _ => false
  | .setF i f, s => match s with
    | .Assign [.Name x _] v _ => slotN N sc (fun _ => true) i x && chkF N bs cn gn sc f v
    | _ => false
  | .par2 i j a b, s => match s with
    | .Assign [.Tuple [.Name x p, .Name y q] k tp] (.Tuple [u, v] k2 tp2) _ => swYes sc [.Name x p, .Name y q] [u, v] && decide (N[i]? = some x) && decide (N[j]? = some y) && !(i == j) && chk N bs cn gn sc a u && chk N bs cn gn sc b v
    | _ => false
  | .par3 i j l a b c, s => match s with
    | .Assign [.Tuple [.Name x p, .Name y q, .Name z r] k tp] (.Tuple [u, v, w] k2 tp2) _ => swYes sc [.Name x p, .Name y q, .Name z r] [u, v, w] && decide (N[i]? = some x) && decide (N[j]? = some y) && decide (N[l]? = some z) && !(i == j) && !(i == l) && !(j == l)
        && chk N bs cn gn sc a u && chk N bs cn gn sc b v && chk N bs cn gn sc c w
    | _ => false
  | .unp is e, s => match s with
    | .Assign [.Tuple ts _ _] v _ => namesAt N sc (fun _ => true) is ts && swNo sc ts v && chk N bs cn gn sc e v
    | _ => false
  | .app i e, s => match s with
    | .Expr (.Call (.Attribute (.Name x _) m apos) [v] [] cpos) _ => decide (m = "append") && vis sc x && decide (N[i]? = some x) && notStar v && (apos.endLine == cpos.line) && chk N bs cn gn sc e v
    | _ => false
  | .extd i e, s => match s with
    | .Expr (.Call (.Attribute (.Name x _) m apos) [v] [] cpos) _ => decide (m = "extend") && vis sc x && decide (N[i]? = some x) && notStar v && (apos.endLine == cpos.line) && chk N bs cn gn sc e v
    | _ => false
  | .ins i k e, s => match s with
    | .Expr (.Call (.Attribute (.Name x _) m apos) [u, v] [] cpos) _ => decide (m = "insert") && vis sc x && decide (N[i]? = some x) && notStar u && notStar v && (apos.endLine == cpos.line) && chk N bs cn gn sc k u && chk N bs cn gn sc e v
    | _ => false
  | .sti i k e, s => match s with
    | .Assign [.Subscript (.Name x _) u _] v _ => vis sc x && decide (N[i]? = some x) && notSlice u && chk N bs cn gn sc k u && chk N bs cn gn sc e v
    | _ => false
  | .popL j i, s => match s with
    | .Assign [.Name y _] (.Call (.Attribute (.Name x _) m apos) [] [] cpos) _ => slotN N sc (fun _ => true) j y && decide (m = "pop") && vis sc x && decide (N[i]? = some x) && (apos.endLine == cpos.line)
    | _ => false
  | .popT is i, s => match s with
    | .Assign [.Tuple ts k tp] (.Call (.Attribute (.Name x px) m apos) [] [] cpos) _ => namesAt N sc (fun _ => true) is ts && decide (m = "pop") && vis sc x && decide (N[i]? = some x) && (apos.endLine == cpos.line)
    | _ => false
  | .popX i, s => match s with
    | .Expr (.Call (.Attribute (.Name x _) m apos) [] [] cpos) _ => decide (m = "pop") && vis sc x && decide (N[i]? = some x) && (apos.endLine == cpos.line)
    | _ => false
  | .ret e, s => match s with
    | .Return (some v) _ => chk N bs cn gn sc e v
    | _ => false
  | .retO i, s => match s with
    | .Return (some (.Name x _)) _ => vis sc x && decide (N[i]? = some x)
    | _ => false
  | .retF f, s => match s with
    | .Return (some v) _ => chkF N bs cn gn sc f v
    | _ => false
  | .retN, s => match s with
    | .Return none _ => true
    | _ => false
  | .ite c a b, s => match s with
    | .If v xs ys _ => chk N bs cn gn sc c v && tst c && chkSs sc a xs && chkSs sc b ys
    | _ => false
  | .whl c b, s => match s with
    | .While v xs [] _ => chk N bs cn gn sc c v && tst c && chkSs sc b xs && nm b
    | _ => false
  | .forr tg it b, s => match s with
    | .For t v xs [] _ => chkTg N sc (fun _ => true) tg t && chkI N bs cn gn sc it v && chkSs sc b xs && nm b
    | _ => false
  | .pass, s => match s with
    | .Pass _ => true
    | _ => false
  | .dead, _ => true
def chkSs (sc : Scope) : Sms → List Stmt → Bool
  | .nil, l => match l with
    | [] => true
    | _ => false
  | .frz _ r, l => chkSs sc r l
  | .mark r, l => chkSs sc r l
  | .muts i ms r, l => chkMs N bs cn gn sc i ms (l.take ms.length) && chkSs sc r (l.drop ms.length)
  | .cons s r, l => match l with
    | x :: xs => chkS sc s x && chkSs sc r xs
    | _ => false
end
end

/-! ### readings of statements -/
def Fin (K : PySem.W.Frag) (B F0 H0 F : Hp) (q : Bool) (o : Out) (Dd : Ends) : Prop := match o with
  | .next st' => ∀ σ' H' F' B', RelS K B' F0 H0 F' H' st' σ' → (q = true → B' = B ∧ Same F F') → Dd.nx σ' H'
  | .ret d => ∀ v H' F', Ext F0 H0 F' H' → En K F' v d → Dd.rt v H'
  | .own ds => Wf K F0 H0 ds Dd.rt
def LS (Γ : List Sem1) (G : List D) (K : PySem.W.Frag) (s : Sm) : TS := fun Dd σ H => ∃ B F0 H0 F st o, RelS K B F0 H0 F H st σ ∧ ex Γ G s st = some o ∧ Fin K B F0 H0 F (nmS s) o Dd
def LSs (Γ : List Sem1) (G : List D) (K : PySem.W.Frag) (s : Sms) : TS := fun Dd σ H => ∃ B F0 H0 F st o, RelS K B F0 H0 F H st σ ∧ exs Γ G s st = some o ∧ Fin K B F0 H0 F (nm s) o Dd
section
variable {Γ : List Sem1} {G : List D} {N bs cn gn : List Str} {lvl : Nat} {X : Cx} {sc : Scope}
theorem loc_of (g : GoodX X sc (fun _ => true) N bs cn gn Γ G lvl) {i : Nat} {x : Str} (h : slotN N sc (fun _ => true) i x = true) : X.N[i]? = some x ∧ L2.Loc X.env.scope x ∧ (X.fn x = true ∨ X.env.scope.names.lookup x = some .local) := by
  unfold slotN at h
  obtain ⟨h1, h2⟩ := b2 h
  refine ⟨by rw [g.N]; exact dc h1, ?_, .inl (by rw [g.fnf])⟩
  rw [g.sc]
  unfold loc at h2
  unfold L2.Loc
  split at h2
  · exact .inl (by assumption)
  · exact .inr (by assumption)
  · cases h2
theorem nocomp {e : Expr} (h : isComp e = false) (t : Option Expr) (l : Nat) (env : Env) : swapsWith e t l env = pure false := by
  cases e <;> first | rfl | cases h
theorem assign_name (g : GoodX X sc (fun _ => true) N bs cn gn Γ G lvl) {i : Nat} {x : Str} {px pos : Pos} {v : Expr} {t : TE} (h : slotN N sc (fun _ => true) i x = true) (hv : PE X v t) (hc : isComp v = false) : PS X (.Assign [.Name x px] v pos) (tAsg t (gName i)) := by
  obtain ⟨h1, h2, h3⟩ := loc_of g h
  exact ps_set g.nd h1 h2 hv (nocomp hc _ _ _) h3
theorem swaps_comp {elt : Expr} {gs : List Comprehension} {scope : Scope} {pos py : Pos} {y : Str} {l : Nat} {env : Env} : swapsWith (.ListComp elt gs scope pos) (some (.Name y py)) l env =
    pure (env.blockKind == .function && env.kindOf y == some .local && py.line == pos.line && !(scope.names.any fun (n, k) => n == y && (k == .local || k == .cell))) := rfl
/-- name = [..] -/
theorem assign_comp (g : GoodX X sc (fun _ => true) N bs cn gn Γ G lvl) {i : Nat} {x : Str} {px pos vpos : Pos} {u t it : Expr} {ifs : List Expr} {scope : Scope} {own : List (Str × Nat)} {wi : TI} {tg : TG} {tt : TT} {te : TE} (h : slotN N sc (fun _ => true) i x = true)
    (hi : PI X t it wi) (ok : BlkOk X.N X.env.scope scope own)
    (hg : ∀ (s : Shared) (H : Hp) (C : Addr) (cl : List (Str × Addr)) (fp : List Addr), PG (X.blk s H scope (compEnvC scope cl C X.env) fp) t tg) (ht : ∀ (s : Shared) (H : Hp) (C : Addr) (cl : List (Str × Addr)) (fp : List Addr), PTs (X.blk s H scope (compEnvC scope cl C X.env) fp) ifs tt)
    (he : ∀ (s : Shared) (H : Hp) (C : Addr) (cl : List (Str × Addr)) (fp : List Addr), PE (X.blk s H scope (compEnvC scope cl C X.env) fp) u te) (hs : ∀ x, foldedSetIterable it X.env x = pure x) :
    PS X (.Assign [.Name x px] (.ListComp u [⟨t, it, ifs, 0⟩] scope vpos) pos) (tAsg (tLc wi tg tt te (own.map (·.2))) (gName i)) := by
  obtain ⟨h1, h2, h3⟩ := loc_of g h
  have e := @swaps_comp u [⟨t, it, ifs, 0⟩] scope vpos px x pos.line X.env
  cases hb : (X.env.blockKind == .function && X.env.kindOf x == some .local && px.line == vpos.line && !(scope.names.any fun (n, k) => n == x && (k == .local || k == .cell))) with
  | true =>
    rw [hb] at e
    have hl : X.env.scope.names.lookup x = some .local := by
      simp only [Bool.and_eq_true, beq_iff_eq] at hb
      exact hb.1.1.2
    exact ps_setLc g.calm g.nd h1 hl e hi ok hg ht he hs
  | false =>
    rw [hb] at e
    exact ps_set g.nd h1 h2 (pe_lc g.calm g.nd hi ok hg ht he hs) e h3
theorem local_of (g : GoodX X sc (fun _ => true) N bs cn gn Γ G lvl) {x : Str} (h : isLocal sc x = true) : X.env.scope.names.lookup x = some .local := by
  rw [g.sc]
  unfold isLocal at h
  split at h
  · assumption
  · cases h
theorem blk_of (g : GoodX X sc (fun _ => true) N bs cn gn Γ G lvl) : X.env.blockKind = .function := by
  unfold Env.blockKind
  rw [g.kind]; rfl
theorem sw2 (g : GoodX X sc (fun _ => true) N bs cn gn Γ G lvl) {x y : Str} {p q tp tp2 : Pos} {k k2 : Nat} {a b : Expr} (h : swYes sc [.Name x p, .Name y q] [a, b] = true) :
    swappedStores [.Tuple [.Name x p, .Name y q] k tp] (.Tuple [a, b] k2 tp2) X.env = pure (some [x, y]) := by
  simp only [swYes, Bool.and_eq_true, Bool.not_eq_true', beq_iff_eq] at h
  obtain ⟨⟨⟨⟨⟨⟨⟨h1, h2⟩, h3⟩, h4⟩, h5⟩, h6⟩, h7⟩, h8⟩ := h
  have kx : X.env.kindOf x = some .local := local_of g h1
  have ky : X.env.kindOf y = some .local := local_of g h2
  have hb := blk_of g
  have hxy : (x == y) = false := h3
  have hyx : (y == x) = false := by
    rw [beq_eq_false_iff_ne] at hxy ⊢
    exact Ne.symm hxy
  unfold swappedStores
  simp [hb, kx, ky, Expr.pos, h4, List.eraseDups, List.eraseDupsBy, List.eraseDupsBy.loop, hxy, hyx, h7, h8]
  intro hh
  exfalso
  rcases hh with hh | hh
  · revert hh h5; cases a <;> simp [notStar]
  · revert hh h6; cases b <;> simp [notStar]
theorem sw3 (g : GoodX X sc (fun _ => true) N bs cn gn Γ G lvl) {x y z : Str} {p q r tp tp2 : Pos} {k k2 : Nat} {a b c : Expr} (h : swYes sc [.Name x p, .Name y q, .Name z r] [a, b, c] = true) :
    swappedStores [.Tuple [.Name x p, .Name y q, .Name z r] k tp] (.Tuple [a, b, c] k2 tp2) X.env = pure (some [x, y, z]) := by
  simp only [swYes, Bool.and_eq_true, Bool.not_eq_true', beq_iff_eq] at h
  obtain ⟨⟨⟨⟨⟨⟨⟨⟨⟨⟨⟨⟨h1, h2⟩, h3⟩, e1⟩, e2⟩, e3⟩, h4⟩, h4'⟩, h5⟩, h6⟩, h6'⟩, h7⟩, h8⟩ := h
  have kx : X.env.kindOf x = some .local := local_of g h1
  have ky : X.env.kindOf y = some .local := local_of g h2
  have kz : X.env.kindOf z = some .local := local_of g h3
  have hb := blk_of g
  have sym : ∀ {u v : Str}, (u == v) = false → (v == u) = false := fun {u v} h => by
    rw [beq_eq_false_iff_ne] at h ⊢
    exact Ne.symm h
  unfold swappedStores
  have h4r : r.line = q.line := h4'.symm.trans h4
  simp [hb, kx, ky, kz, Expr.pos, h4, h4r, List.eraseDups, List.eraseDupsBy, List.eraseDupsBy.loop, e1, e2, e3, sym e1, sym e2, sym e3, ← Bool.and_assoc, h7, h8]
  intro hh
  exfalso
  rcases hh with hh | hh | hh
  · revert hh h5; cases a <;> simp [notStar]
  · revert hh h6; cases b <;> simp [notStar]
  · revert hh h6'; cases c <;> simp [notStar]
theorem swn (g : GoodX X sc (fun _ => true) N bs cn gn Γ G lvl) {ts : List Expr} {v : Expr} {k : Nat} {tp : Pos} (h : swNo sc ts v = true) : swappedStores [.Tuple ts k tp] v X.env = pure none := by
  cases v with
  | Tuple vs k2 tp2 =>
    simp only [swNo, Bool.or_eq_true] at h
    have hb := blk_of g
    unfold swappedStores
    simp [hb]
    intro g1 g2 g4 g5 g6 x hx hfx
    exfalso
    rcases h with ((h | h) | h) | h
    · simp only [Bool.and_eq_true, Bool.not_eq_true', beq_eq_false_iff_ne] at h
      exact h.2 (g1 h.1)
    · simp only [Bool.not_eq_true', beq_eq_false_iff_ne] at h
      exact h g2
    · obtain ⟨y, hy, ho⟩ := List.any_eq_true.mp h
      refine g5 y hy ?_
      cases y with
      | Name n p =>
        have hn : isLocal sc n = false := by simpa [oddName] using ho
        have hk : ¬ X.env.kindOf n = some .local := fun z => by
          have z' : X.env.scope.names.lookup n = some .local := z
          rw [g.sc] at z'
          unfold isLocal at hn
          rw [z'] at hn
          cases hn
        simp [hk]
      | _ => rfl
    · have := List.all_eq_true.mp h x hx
      rw [hfx] at this
      cases this
  | _ => rfl
end
end PL
namespace PL
open PySem PySem.Spec PyProof.Rows L2

theorem fin_next {K : PySem.W.Frag} {B F0 H0 F1 : Hp} {q : Bool} {st : Sto} {Dd : Ends} (w : Fin K B F0 H0 F1 q (.next st) Dd) {F H : Hp} {σ : L2.St} (r : RelS K B F0 H0 F H st σ) (e : Same F1 F) : Dd.nx σ H := w σ H F B r fun _ => ⟨rfl, e⟩
theorem thenO_some {o : Option Out} {k : Sto → Option Out} {r : Out} (h : thenO o k = some r) : ∃ x, o = some x ∧ (∀ st, x = .next st → k st = some r) ∧ (∀ d, x = .ret d → r = .ret d) ∧ ∀ d, x = .own d → r = .own d := by
  unfold thenO at h
  obtain ⟨x, e1, e2⟩ := bind2 h
  refine ⟨x, e1, fun st e => ?_, fun d e => ?_, fun d e => ?_⟩
  · subst e; exact e2
  · subst e; cases e2; rfl
  · subst e; cases e2; rfl

/-! ### while -/
def whileN (c : Sto → Option D) (b : Sto → Option Out) : Nat → Sto → Option Out
  | 0, _ => none
  | n + 1, st => (c st).bind fun t => match t with
    | .bool true => thenO (b st) (whileN c b n)
    | .bool false => some (.next st)
    | _ => none
theorem whileN_of {c : Sto → Option D} {b : Sto → Option Out} {st : Sto} {r : Out} (h : whileP c b st = some r) : ∃ n, whileN c b n st = some r := by
  refine whileP.partial_correctness c b (fun st r => ∃ n, whileN c b n st = some r) (fun rc ih st r h => ?_) st r h
  obtain ⟨t, e1, e2⟩ := bind2 h
  cases t with
  | bool k =>
    cases k with
    | true =>
      obtain ⟨x, e3, e4⟩ := bind2 e2
      cases x with
      | next st' =>
        obtain ⟨n, e5⟩ := ih st' r e4
        exact ⟨n + 1, by simp [whileN, e1, thenO, e3, e5]⟩
      | ret d =>
        cases e4
        exact ⟨1, by simp [whileN, e1, thenO, e3]⟩
      | own d =>
        cases e4
        exact ⟨1, by simp [whileN, e1, thenO, e3]⟩
    | false =>
      cases e2
      exact ⟨1, by simp [whileN, e1]⟩
  | none => cases e2
  | int _ => cases e2
  | str _ => cases e2
  | list _ => cases e2
  | tuple _ => cases e2
  | dict _ => cases e2

section
variable {Γ : List Sem1} {G : List D} {N bs cn gn : List Str} {lvl : Nat}
/-- an expression in a statement -/
theorem le_rel {X : Cx} {a : Ex} {B F0 H0 F H : Hp} {st : Sto} {σ : L2.St} {d : D} {Q : VK} (s : RelS X.K B F0 H0 F H st σ) (h : ev Γ G a st = some d) (w : ∀ v H' F', Ext F H F' H' → RelS X.K B F0 H0 F' H' st σ → En X.K F' v d → Q v H') : LE Γ G X.K a σ H Q :=
  ⟨F, st, d, s.r, h, fun v H' F' x hE => w v H' F' x (s.up x) hE⟩
theorem lt_rel {X : Cx} {a : Ex} {B F0 H0 F H : Hp} {st : Sto} {σ : L2.St} {b : Bool} {Q : Bool → Hp → Prop} (s : RelS X.K B F0 H0 F H st σ) (h : ev Γ G a st = some (.bool b)) (w : ∀ H' F', Ext F H F' H' → RelS X.K B F0 H0 F' H' st σ → Q b H') : LT Γ G X.K a σ H Q :=
  ⟨F, st, b, s.r, h, fun H' F' x => w H' F' x (s.up x)⟩
theorem ownAt_some {st : Sto} {i : Nat} {ds : List D} (h : ownAt st i = some ds) : get st i = .own ds := by
  unfold ownAt at h
  split at h
  · cases h; assumption
  · cases h
def LGs (K : PySem.W.Frag) (tg : Tg) : TG := fun v σ H Q => ∃ B F0 H0 F st d st', RelS K B F0 H0 F H st σ ∧ En K F v d ∧ bindTg tg d st = some st' ∧ ∀ σ', RelS K B F0 H0 F H st' σ' → Q σ' H
theorem tg_rel {X : Cx} {sc : Scope} (g : GoodX X sc (fun _ => true) N bs cn gn Γ G lvl) {tg : Tg} {t : Expr} (h : chkTg N sc (fun _ => true) tg t = true) : PG X t (LGs X.K tg) := by
  cases tg with
  | name i =>
    cases t with
    | Name x p =>
      refine pg_weak (pg_one g (show slotN N sc (fun _ => true) i x = true from h)) fun v σ H Q ⟨B, F0, H0, F, st, d, st', r, hE, hb, w⟩ => ?_
      have hb' : some (put st i (.val d)) = some st' := hb
      cases hb'
      exact w _ (r.val hE i)
    | _ => cases h
  | tup is =>
    cases t with
    | Tuple es k p =>
      obtain ⟨k1, k2, k3⟩ := names_ok g is es (show namesAt N sc (fun _ => true) is es = true from h)
      refine pg_weak (pg_or (pg_tup (n := es.length) g.calm k1 (assign_len es) k3) (pg_unl (n := es.length) g.calm k1 (assign_len es) k3)) fun v σ H Q ⟨B, F0, H0, F, st, d, st', r, hE, hb, w⟩ => ?_
      cases d with
      | tuple ds =>
        have hb' : (if is.length = ds.length then some ((is.zip ds).foldl (fun s p => put s p.1 (.val p.2)) st) else none) = some st' := hb
        split at hb'
        · rename_i hl
          cases hb'
          cases hE with | tup hs ha =>
          have hl2 := ha.length
          exact .inl ⟨_, _, rfl, sqT_mono r.r.fh hs, by omega, by omega, w _ (RelS.vals is _ ds r ha)⟩
        · cases hb'
      | none => cases hb
      | bool _ => cases hb
      | str _ => cases hb
      | list ds =>
        have hb' : (if is.length = ds.length then some ((is.zip ds).foldl (fun s p => put s p.1 (.val p.2)) st) else none) = some st' := hb
        split at hb'
        · rename_i hl
          cases hb'
          cases hE with | lst hs ha =>
          have hl2 := ha.length
          exact .inr ⟨_, _, rfl, SqL.of (r.r.fh _ _ hs), by omega, by omega, w _ (RelS.vals is _ ds r ha)⟩
        · cases hb'
      | int _ => cases hb
      | dict _ => cases hb
    | _ => cases h
/-- the reading of «name = a new list» -/
theorem setF_ok {X : Cx} {B F0 H0 F H : Hp} {st : Sto} {σ : L2.St} {i : Nat} {ds : List D} {Dd : Ends} (s : RelS X.K B F0 H0 F H st σ) {q : Bool} (w : Fin X.K B F0 H0 F q (.next (put st i (.own ds))) Dd) : Wf X.K F H ds fun x H1 => gName i x σ H1 Dd.nx :=
  fun p H' F' vs x hp fp hv ha => w _ H' F' B (s.new x hp fp hv ha) fun _ => ⟨rfl, x.ff⟩
theorem setF_st {X : Cx} {sc : Scope} (g : GoodX X sc (fun _ => true) N bs cn gn Γ G lvl) {i : Nat} {f : Fx} {x : Str} {px pos : Pos} {v : Expr} (h1 : slotN N sc (fun _ => true) i x = true) (h2 : chkF N bs cn gn sc f v = true) : PS X (.Assign [.Name x px] v pos) (LS Γ G X.K (.setF i f)) := by
  have key : ∀ (Dd : Ends) (σ : L2.St) (H : Hp), LS Γ G X.K (.setF i f) Dd σ H → LF Γ G X.K f σ H fun x H1 => gName i x σ H1 Dd.nx := fun Dd σ H ⟨B, F0, H0, F, st, o, s, hv, w⟩ => by
    simp only [ex] at hv
    obtain ⟨ds, e1, e2⟩ := Option.map_eq_some_iff.mp hv
    subst e2
    exact ⟨F, st, ds, s.r, e1, setF_ok s w⟩
  have hF := sF f g v h2
  cases hc : isComp v with
  | false => exact ps_weak (assign_name g h1 hF hc) key
  | true =>
    cases f with
    | comp elt tg it cond ws =>
      simp only [chkF] at h2
      split at h2
      · rename_i x t i' ifs as scope vpos
        obtain ⟨h2, h7⟩ := b2 h2
        obtain ⟨h2, h6⟩ := b2 h2
        obtain ⟨h2, h5⟩ := b2 h2
        obtain ⟨h2, h4⟩ := b2 h2
        obtain ⟨h2, h3⟩ := b2 h2
        obtain ⟨k1, k2⟩ := b2 h2
        rw [beq_iff_eq] at k1
        subst k1
        have hk : scope.kind = .function := (blkOk_by h3).kind
        have gb := fun s H C cl fp => g.blk hk s H C cl fp
        have hi := sI it g t i' k2
        exact ps_weak (assign_comp g h1 hi.1 (by rw [g.N, g.sc]; exact blkOk_by h3) (fun s H C cl fp => tg_ok (gb s H C cl fp) h4) (fun s H C cl fp => sC cond (gb s H C cl fp) ifs h7) (fun s H C cl fp => (sE elt (gb s H C cl fp) _ h6).pe) hi.2)
          fun Dd σ H q => lf_comp g hi.1 h3 (inTg h5) (fun s H C cl fp => tg_ok (gb s H C cl fp) h4) (fun s H C cl fp => sC cond (gb s H C cl fp) ifs h7) (fun s H C cl fp => (sE elt (gb s H C cl fp) _ h6).pe) hi.2 σ H _ (key Dd σ H q)
      · cases h2
    | lst es =>
      simp only [chkF] at h2
      split at h2
      · cases hc
      · cases h2
    | sl a lo hi =>
      simp only [chkF] at h2
      split at h2
      · cases hc
      · cases h2
    | stp a lo hi k =>
      simp only [chkF] at h2
      split at h2
      · cases hc
      · cases h2
    | slv a lo hi =>
      simp only [chkF] at h2
      split at h2
      · cases hc
      · cases h2
    | listOf a =>
      simp only [chkF] at h2
      split at h2
      · cases hc
      · cases h2
    | addV i a =>
      simp only [chkF] at h2
      split at h2
      · cases hc
      · cases h2
    | lrg1 a =>
      simp only [chkF] at h2
      split at h2
      · cases hc
      · cases h2
    | lrg2 a b =>
      simp only [chkF] at h2
      split at h2
      · cases hc
      · cases h2
    | lsv i =>
      simp only [chkF] at h2
      split at h2
      · cases hc
      · cases h2
    | callF j es =>
      simp only [chkF] at h2
      split at h2
      · cases hc
      · cases h2
    | rev a =>
      simp only [chkF] at h2
      split at h2
      · cases hc
      · cases h2
/-- o.m(e), o a list of one's own -/
theorem few1 {e : Expr} (h : notStar e = true) (env : Env) (cpos : Pos) : ((backTo cpos (starEach [e] env)).all (fun x => !x.1) && (backToKw cpos (keywordEach [] env)).all (fun x => x.1.isSome)
      && decide ([e].length + ([] : List Keyword).length + (if ([] : List Keyword).isEmpty then 0 else 1) < 30)) = true := by
  rw [star_of h]; rfl
theorem few2 {e e2 : Expr} (h : notStar e = true) (h2 : notStar e2 = true) (env : Env) (cpos : Pos) : ((backTo cpos (starEach [e, e2] env)).all (fun x => !x.1) && (backToKw cpos (keywordEach [] env)).all (fun x => x.1.isSome)
      && decide ([e, e2].length + ([] : List Keyword).length + (if ([] : List Keyword).isEmpty then 0 else 1) < 30)) = true := by
  rw [star2 h h2]; rfl
theorem base_name {x m : Str} {p : Pos} {env : Env} : attributeBase (.Name x p) m env (eval (.Name x p) env) = eval (.Name x p) env := rfl
theorem pv_of {X : Cx} {sc : Scope} {fnf : Str → Bool} (g : GoodX X sc fnf N bs cn gn Γ G lvl) {x : Str} {i : Nat} {p : Pos} (h1 : vis sc x = true) (h2 : N[i]? = some x) : PE X (.Name x p) (tVar i) := by
  obtain ⟨v1, v2, v3⟩ := vis_of g h1
  exact pe_var (by rw [g.N]; exact h2) v1 v2 v3

theorem for_turns {K : PySem.W.Frag} {J : L2.It} {B F0 H0 F1 H1 : Hp} {vs : List V} {ds : List D} {g : TG} {tb : TS} {Dd : Ends} {σ : L2.St} {st : Sto} {f : D → Sto → Option Out} {o : Out} {q : Bool}
    (s : RelS K B F0 H0 F1 H1 st σ) (gz : Gz J F1 vs) (ha : EnAll K F1 vs ds) (ho : forL f ds st = some o) (w : Fin K B F0 H0 F1 q o Dd)
    (turn : ∀ (x : V) (d : D) (F H : Hp) (st : Sto) (σ : L2.St) (o : Out) (R : L2.St → Hp → Prop), RelS K B F0 H0 F H st σ → En K F x d → f d st = some o →
      (∀ st', o = .next st' → ∀ σ' H' F', RelS K B F0 H0 F' H' st' σ' → Same F F' → R σ' H') → (∀ r, o = .ret r → ∀ v H' F', Ext F0 H0 F' H' → En K F' v r → Dd.rt v H') → (∀ r, o = .own r → Wf K F0 H0 r Dd.rt) →
      g x σ H fun σ2 H2 => tb { Dd with nx := R, ct := R, bk := Dd.nx } σ2 H2) :
    ∃ W : Nat → Nat → L2.St → Hp → Prop, (∃ m, W 0 m σ H1) ∧ ∀ i m σ H, W i m σ H →
      (J.stop i H ∧ Dd.nx σ H) ∨ (J.go i H ∧ ∃ Nx : L2.St → Hp → Prop, (∀ σ' H', Nx σ' H' → ∃ m', m' < m ∧ W (i + 1) m' σ' H') ∧ ∀ x H', J.yld i H x H' → g x σ H' fun σ2 H2 => tb { Dd with nx := Nx, ct := Nx, bk := Dd.nx } σ2 H2) := by
  have hlen := ha.length
  let Pv : Nat → L2.St → Hp → Prop := fun i σ H => ∃ F st, RelS K B F0 H0 F H st σ ∧ Same F1 F ∧ forL f (ds.drop i) st = some o
  refine ⟨fun i m σ H => m = vs.length - i ∧ i ≤ vs.length ∧ Pv i σ H, ⟨vs.length, by omega, Nat.zero_le _, F1, st, s, Same.refl _, ho⟩, ?_⟩
  rintro i m σ H ⟨rfl, hi, F, st, r, sm, hr⟩
  by_cases hlt : i < vs.length
  · have hid : i < ds.length := by omega
    rw [List.drop_eq_getElem_cons hid] at hr
    obtain ⟨x1, e1, e2, e3, e4⟩ := thenO_some (show thenO (f ds[i] st) (forL f (ds.drop (i + 1))) = some o from hr)
    refine .inr ⟨gz.go i H (sm.trans r.r.fh) hlt, Pv (i + 1), fun σ' H' p => ⟨vs.length - (i + 1), by omega, rfl, hlt, p⟩, fun v H' y => ?_⟩
    obtain ⟨rfl, hv⟩ := gz.yld i H v H' (sm.trans r.r.fh) y hlt
    obtain ⟨d, hd, hE⟩ := ha.getV hv
    have hdd : ds[i] = d := by rw [List.getElem?_eq_getElem hid] at hd; exact Option.some.inj hd
    rw [hdd] at e1
    exact turn v d F H' st σ x1 _ r (hE.up sm) e1 (fun st' e σ' H2 F2 r2 s2 => ⟨F2, st', r2, sm.trans s2, e2 st' e⟩) (fun rr e v H2 F2 x2 hE2 => by
      have hq := e3 rr e
      subst hq
      exact w v H2 F2 x2 hE2) fun rr e p H2 F2 vs2 x2 k1 k2 k3 k4 => by
      have hq := e4 rr e
      subst hq
      exact w p H2 F2 vs2 x2 k1 k2 k3 k4
  · have e : i = vs.length := by omega
    refine .inl ⟨gz.stop i H (sm.trans r.r.fh) (by omega), ?_⟩
    rw [List.drop_of_length_le (by omega)] at hr
    cases hr
    exact w σ H F B r fun _ => ⟨rfl, sm⟩
end
end PL
namespace PL
open PySem PySem.Spec PyProof.Rows L2
section
variable {Γ : List Sem1} {G : List D} {N bs cn gn : List Str} {lvl : Nat}
theorem app_st {X : Cx} {sc : Scope} {fnf : Str → Bool} (g : GoodX X sc fnf N bs cn gn Γ G lvl) {i : Nat} {e : Ex} {x m : Str} {px apos cpos pos : Pos} {v : Expr} (hm : m = "append") (h1 : vis sc x = true) (h2 : N[i]? = some x) (h3 : notStar v = true) (h4 : (apos.endLine == cpos.line) = true) (hv : PE X v (LE Γ G X.K e)) :
    PS X (.Expr (.Call (.Attribute (.Name x px) m apos) [v] [] cpos) pos) (LS Γ G X.K (.app i e)) := by
  subst hm
  refine ps_weak (ps_expr (pe_bm PySem.F.plainAttrs_list PySem.F.slot_list_append PySem.F.type_list_append mt_append (pv_of g h1 h2) (pa_cons hv pa_nil (star_of h3 [] X.env)) base_name (few1 h3 X.env cpos) h4 (star_of h3 [] X.env) ((NoStars.nil).any X.env cpos)))
    fun Dd σ H ⟨B, F0, H0, F, st, o, s, hx, w⟩ => ?_
  simp only [ex] at hx
  obtain ⟨d, e1, hx⟩ := bind2 hx
  obtain ⟨ds, e2, hx⟩ := bind2 hx
  split at hx
  · rename_i hz
    cases hx
    have hg := ownAt_some e2
    obtain ⟨p, vs, k1, k2, k3, k4, k5, k6⟩ := own_of s hg
    refine ⟨.ref p, k1, .inl ⟨rfl, vs, SqL.of k2⟩, le_rel s e1 fun v' H' F' xx s' hE => ?_⟩
    obtain ⟨p', vs', l1, l2, l3, l4, _, _⟩ := own_of s' hg
    rw [k1] at l1
    cases l1
    refine ⟨p, vs', v', rfl, rfl, l2, by rw [l4.length]; exact hz, w σ _ F' B (s'.mut hg k1 (l4.append (.cons hE .nil))) fun _ => ⟨rfl, xx.ff⟩⟩
  · cases hx
theorem extd_st {X : Cx} {sc : Scope} {fnf : Str → Bool} (g : GoodX X sc fnf N bs cn gn Γ G lvl) {i : Nat} {e : Ex} {x m : Str} {px apos cpos pos : Pos} {v : Expr} (hm : m = "extend") (h1 : vis sc x = true) (h2 : N[i]? = some x) (h3 : notStar v = true) (h4 : (apos.endLine == cpos.line) = true) (hv : PE X v (LE Γ G X.K e)) :
    PS X (.Expr (.Call (.Attribute (.Name x px) m apos) [v] [] cpos) pos) (LS Γ G X.K (.extd i e)) := by
  subst hm
  refine ps_weak (ps_expr (pe_bm PySem.F.plainAttrs_list PySem.F.slot_list_extend PySem.F.type_list_extend mt_extend (pv_of g h1 h2) (pa_cons hv pa_nil (star_of h3 [] X.env)) base_name (few1 h3 X.env cpos) h4 (star_of h3 [] X.env) ((NoStars.nil).any X.env cpos)))
    fun Dd σ H ⟨B, F0, H0, F, st, o, s, hx, w⟩ => ?_
  simp only [ex] at hx
  obtain ⟨d, e1, hx⟩ := bind2 hx
  obtain ⟨ds, e2, hx⟩ := bind2 hx
  cases d with
  | list es =>
    have hx' : (if ds.length + es.length ≤ sizeLine then some (Out.next (put st i (.own (ds ++ es)))) else none) = some o := hx
    split at hx'
    · rename_i hz
      cases hx'
      have hg := ownAt_some e2
      obtain ⟨p, vs, k1, k2, k3, k4, k5, k6⟩ := own_of s hg
      refine ⟨.ref p, k1, .inl ⟨rfl, vs, SqL.of k2⟩, le_rel s e1 fun v' H' F' xx s' hE => ?_⟩
      obtain ⟨p', vs', l1, l2, l3, l4, _, _⟩ := own_of s' hg
      rw [k1] at l1
      cases l1
      cases hE with | lst hs ha =>
      refine ⟨p, _, vs', _, rfl, rfl, l2, s'.r.fh _ _ hs, by rw [l4.length, ha.length]; exact hz, w σ _ F' B (s'.mut hg k1 (l4.append ha)) fun _ => ⟨rfl, xx.ff⟩⟩
    · cases hx'
  | none => cases hx
  | bool _ => cases hx
  | str _ => cases hx
  | tuple _ => cases hx
  | int _ => cases hx
  | dict _ => cases hx
theorem ins_st {X : Cx} {sc : Scope} {fnf : Str → Bool} (g : GoodX X sc fnf N bs cn gn Γ G lvl) {i : Nat} {k e : Ex} {x m : Str} {px apos cpos pos : Pos} {u v : Expr} (hm : m = "insert") (h1 : vis sc x = true) (h2 : N[i]? = some x) (h0 : notStar u = true) (h3 : notStar v = true) (h4 : (apos.endLine == cpos.line) = true) (hu : PE X u (LE Γ G X.K k)) (hv : PE X v (LE Γ G X.K e)) :
    PS X (.Expr (.Call (.Attribute (.Name x px) m apos) [u, v] [] cpos) pos) (LS Γ G X.K (.ins i k e)) := by
  subst hm
  refine ps_weak (ps_expr (pe_bm PySem.F.plainAttrs_list PySem.F.slot_list_insert PySem.F.type_list_insert mt_insert (pv_of g h1 h2) (pa_cons hu (pa_cons hv pa_nil (star_of h3 [] X.env)) (star_of h0 [v] X.env)) base_name (few2 h0 h3 X.env cpos) h4 (star_of h0 [v] X.env) ((NoStars.cons h3 .nil).any X.env cpos)))
    fun Dd σ H ⟨B, F0, H0, F, st, o, s, hx, w⟩ => ?_
  simp only [ex] at hx
  obtain ⟨n, e0, hx⟩ := bind2 hx
  obtain ⟨d, e1, hx⟩ := bind2 hx
  obtain ⟨ds, e2, hx⟩ := bind2 hx
  cases n with
  | int n =>
    have hx' : (if ds.length < sizeLine ∧ 0 ≤ n ∧ n.natAbs < 2 ^ 62 then some (Out.next (put st i (.own (ds.take n.toNat ++ [d] ++ ds.drop n.toNat)))) else none) = some o := hx
    split at hx'
    · rename_i hz
      cases hx'
      have hg := ownAt_some e2
      obtain ⟨p, vs, k1, k2, k3, k4, k5, k6⟩ := own_of s hg
      refine ⟨.ref p, k1, .inl ⟨rfl, vs, SqL.of k2⟩, le_rel s e0 fun v0 H2 F2 xx0 s2 hE0 => le_rel s2 e1 fun v' H' F' xx s' hE => ?_⟩
      obtain ⟨p', vs', l1, l2, l3, l4, _, _⟩ := own_of s' hg
      rw [k1] at l1
      cases l1
      cases hE0
      refine ⟨p, vs', n, v', rfl, rfl, l2, by rw [l4.length]; exact hz.1, hz.2.1, (by have := hz.2.2; omega), w σ _ F' B (s'.mut hg k1 (((l4.take _).append (.cons hE .nil)).append (l4.drop _))) fun _ => ⟨rfl, xx0.ff.trans xx.ff⟩⟩
    · cases hx'
  | none => cases hx
  | bool _ => cases hx
  | str _ => cases hx
  | tuple _ => cases hx
  | list _ => cases hx
  | dict _ => cases hx
theorem sti_st {X : Cx} {sc : Scope} {fnf : Str → Bool} (g : GoodX X sc fnf N bs cn gn Γ G lvl) {i : Nat} {k e : Ex} {x : Str} {px spos pos : Pos} {u v : Expr} (h1 : vis sc x = true) (h2 : N[i]? = some x) (h3 : notSlice u = true) (hu : PE X u (LE Γ G X.K k)) (hv : PE X v (LE Γ G X.K e)) :
    PS X (.Assign [.Subscript (.Name x px) u spos] v pos) (LS Γ G X.K (.sti i k e)) := by
  have hasg : ∀ w', assign (.Subscript (.Name x px) u spos) X.env w' = (do
      let ov ← holding [w'] (eval (.Name x px) X.env)
      let iv ← holding [w', ov] (eval u X.env)
      standAt spos
      holding [w', ov, iv] (setItem ov iv w')
      release [w', ov, iv] []) := fun w' => by
    cases u <;> first | rfl | cases h3
  have hs : swapsWithSole [.Subscript (.Name x px) u spos] v pos.line X.env = pure false := by
    cases v <;> rfl
  have hw : swappedStores [.Subscript (.Name x px) u spos] v X.env = pure none := by
    cases v <;> rfl
  refine ps_weak (ps_asg hv (pg_sub (pv_of g h1 h2) hu set_list hasg) hs hw rfl) fun Dd σ H ⟨B, F0, H0, F, st, o, s, hx, w⟩ => ?_
  simp only [ex] at hx
  obtain ⟨d, e1, hx⟩ := bind2 hx
  obtain ⟨n, e0, hx⟩ := bind2 hx
  obtain ⟨ds, e2, hx⟩ := bind2 hx
  cases n with
  | int n =>
    obtain ⟨j, e3, e4⟩ := Option.map_eq_some_iff.mp (show (ixN ds.length n).map _ = some o from hx)
    subst e4
    have hg := ownAt_some e2
    refine le_rel s e1 fun v' H' F' xx s' hE => ?_
    obtain ⟨p, vs, k1, k2, k3, k4, k5, k6⟩ := own_of s' hg
    refine ⟨.ref p, k1, le_rel s' e0 fun v0 H2 F2 x2 s2 hE0 => ?_⟩
    obtain ⟨p', vs', l1, l2, l3, l4, _, _⟩ := own_of s2 hg
    rw [k1] at l1
    cases l1
    cases hE0
    exact ⟨p, vs', n, j, rfl, rfl, l2, by rw [l4.length]; exact e3, w σ _ F2 B (s2.mut hg k1 (l4.set (hE.up x2.ff) j)) fun _ => ⟨rfl, xx.ff.trans x2.ff⟩⟩
  | none => cases hx
  | bool _ => cases hx
  | str _ => cases hx
  | tuple _ => cases hx
  | list _ => cases hx
  | dict _ => cases hx
theorem popL_st {X : Cx} {sc : Scope} (g : GoodX X sc (fun _ => true) N bs cn gn Γ G lvl) {i j : Nat} {x y m : Str} {px py apos cpos pos : Pos} (h0 : slotN N sc (fun _ => true) j y = true) (hm : m = "pop") (h1 : vis sc x = true) (h2 : N[i]? = some x) (h4 : (apos.endLine == cpos.line) = true) :
    PS X (.Assign [.Name y py] (.Call (.Attribute (.Name x px) m apos) [] [] cpos) pos) (LS Γ G X.K (.popL j i)) := by
  subst hm
  refine ps_weak (assign_name g h0 (pe_bm0 PySem.F.plainAttrs_list PySem.F.slot_list_pop PySem.F.type_list_pop mt_pop (pv_of g h1 h2) base_name h4) rfl)
    fun Dd σ H ⟨B, F0, H0, F, st, o, s, hx, w⟩ => ?_
  simp only [ex] at hx
  obtain ⟨ds, e1, hx⟩ := bind2 hx
  obtain ⟨d, e2, e3⟩ := Option.map_eq_some_iff.mp hx
  subst e3
  have hg := ownAt_some e1
  obtain ⟨p, vs, k1, k2, k3, k4, k5, k6⟩ := own_of s hg
  obtain ⟨v, f1, f2⟩ := k4.get e2
  refine ⟨.ref p, k1, .inl ⟨rfl, vs, SqL.of k2⟩, p, vs, v, rfl, rfl, k2, by rw [k4.length]; exact f1, ?_⟩
  have hd : EnAll X.K F vs.dropLast ds.dropLast := by
    rw [List.dropLast_eq_take, List.dropLast_eq_take, k4.length]
    exact k4.take _
  exact w _ _ F B ((s.mut hg k1 hd).val f2 j) fun _ => ⟨rfl, Same.refl _⟩
theorem popT_st {X : Cx} {sc : Scope} (g : GoodX X sc (fun _ => true) N bs cn gn Γ G lvl) {is : List Nat} {i k : Nat} {ts : List Expr} {x m : Str} {tp px apos cpos pos : Pos} (h0 : namesAt N sc (fun _ => true) is ts = true) (hm : m = "pop") (h1 : vis sc x = true) (h2 : N[i]? = some x) (h4 : (apos.endLine == cpos.line) = true) :
    PS X (.Assign [.Tuple ts k tp] (.Call (.Attribute (.Name x px) m apos) [] [] cpos) pos) (LS Γ G X.K (.popT is i)) := by
  subst hm
  refine ps_weak (ps_asg (pe_bm0 PySem.F.plainAttrs_list PySem.F.slot_list_pop PySem.F.type_list_pop mt_pop (pv_of g h1 h2) base_name h4) (tg_rel g (tg := .tup is) (show chkTg N sc (fun _ => true) (.tup is) (.Tuple ts k tp) = true from h0)) rfl rfl rfl)
    fun Dd σ H ⟨B, F0, H0, F, st, o, s, hx, w⟩ => ?_
  simp only [ex] at hx
  obtain ⟨ds, e1, hx⟩ := bind2 hx
  obtain ⟨d, e2, hx⟩ := bind2 hx
  obtain ⟨st', e3, e4⟩ := Option.map_eq_some_iff.mp hx
  subst e4
  have hg := ownAt_some e1
  obtain ⟨p, vs, k1, k2, k3, k4, k5, k6⟩ := own_of s hg
  obtain ⟨v, f1, f2⟩ := k4.get e2
  refine ⟨.ref p, k1, .inl ⟨rfl, vs, SqL.of k2⟩, p, vs, v, rfl, rfl, k2, by rw [k4.length]; exact f1, ?_⟩
  have hd : EnAll X.K F vs.dropLast ds.dropLast := by
    rw [List.dropLast_eq_take, List.dropLast_eq_take, k4.length]
    exact k4.take _
  exact ⟨B, F0, H0, F, _, d, st', s.mut hg k1 hd, f2, e3, fun σ' r => w σ' _ F B r fun _ => ⟨rfl, Same.refl _⟩⟩
theorem popX_st {X : Cx} {sc : Scope} {fnf : Str → Bool} (g : GoodX X sc fnf N bs cn gn Γ G lvl) {i : Nat} {x m : Str} {px apos cpos pos : Pos} (hm : m = "pop") (h1 : vis sc x = true) (h2 : N[i]? = some x) (h4 : (apos.endLine == cpos.line) = true) :
    PS X (.Expr (.Call (.Attribute (.Name x px) m apos) [] [] cpos) pos) (LS Γ G X.K (.popX i)) := by
  subst hm
  refine ps_weak (ps_expr (pe_bm0 PySem.F.plainAttrs_list PySem.F.slot_list_pop PySem.F.type_list_pop mt_pop (pv_of g h1 h2) base_name h4))
    fun Dd σ H ⟨B, F0, H0, F, st, o, s, hx, w⟩ => ?_
  simp only [ex] at hx
  obtain ⟨ds, e1, hx⟩ := bind2 hx
  obtain ⟨d, e2, e3⟩ := Option.map_eq_some_iff.mp hx
  subst e3
  have hg := ownAt_some e1
  obtain ⟨p, vs, k1, k2, k3, k4, k5, k6⟩ := own_of s hg
  obtain ⟨v, f1, f2⟩ := k4.get e2
  refine ⟨.ref p, k1, .inl ⟨rfl, vs, SqL.of k2⟩, p, vs, v, rfl, rfl, k2, by rw [k4.length]; exact f1, ?_⟩
  have hd : EnAll X.K F vs.dropLast ds.dropLast := by
    rw [List.dropLast_eq_take, List.dropLast_eq_take, k4.length]
    exact k4.take _
  exact w _ _ F B (s.mut hg k1 hd) fun _ => ⟨rfl, Same.refl _⟩
end
end PL
namespace PL
open PySem PySem.Spec PyProof.Rows L2
section
variable {K : PySem.W.Frag} {B B2 F0 H0 F F' F2 H H' : Hp} {st : Sto} {σ : L2.St} {q qa : Bool} {o : Out} {Dd : Ends}
theorem fin_ite (h : q = true → qa = true) (e : Same F F') (w : Fin K B F0 H0 F q o Dd) : Fin K B F0 H0 F' qa o Dd := by
  cases o with
  | next st' => exact fun σ' H' F2 B' r k => w σ' H' F2 B' r fun z => ⟨(k (h z)).1, e.trans (k (h z)).2⟩
  | ret d => exact w
  | own d => exact w
theorem fin_mono (e : Same F F') (w : Fin K B F0 H0 F q o Dd) : Fin K B F0 H0 F' q o Dd := fin_ite id e w
theorem fin_false (w : Fin K B F0 H0 F false o Dd) : Fin K B2 F0 H0 F2 q o Dd := by
  cases o with
  | next st' => exact fun σ' H' F2 B' r k => w σ' H' F2 B' r fun z => by cases z
  | ret d => exact w
  | own d => exact w
theorem fin_seq {s : Sm} {r : Sms} {B' : Hp} (k : nmS s = true → B' = B ∧ Same F F') (w : Fin K B F0 H0 F (nm (.cons s r)) o Dd) : Fin K B' F0 H0 F' (nm r) o Dd := by
  cases o with
  | next st' =>
    intro σ' H' F2 B2 rr k2
    refine w σ' H' F2 B2 rr fun z => ?_
    have z' : (nmS s && nm r) = true := z
    obtain ⟨z1, z2⟩ := b2 z'
    obtain ⟨rfl, a⟩ := k z1
    obtain ⟨b, c⟩ := k2 z2
    exact ⟨b, a.trans c⟩
  | ret d => exact w
  | own d => exact w
theorem get_mapf {f : Sl → Sl} (hf : f .no = .no) : ∀ (st : Sto) (i : Nat), get (st.map f) i = f (get st i)
  | [], _ => hf.symm
  | _ :: _, 0 => rfl
  | _ :: r, i + 1 => get_mapf hf r i
theorem RelS.mark (s : RelS K B F0 H0 F H st σ) : RelS K F F0 H0 F H (markA st) σ := by
  have gm : ∀ i, get (markA st) i = mk1 (get st i) := get_mapf rfl st
  have own : ∀ i ds, get (markA st) i = .own ds → get st i = .own ds := fun i ds h => by
    rw [gm] at h
    cases g : get st i <;> rw [g] at h <;> first | exact h | cases h
  refine ⟨s.e, ⟨s.r.fh, by unfold markA; rw [List.length_map]; exact s.r.len, fun i => ?_⟩, fun i j ds es p ne a b c => s.apart i j ds es p ne (own i ds a) (own j es b) c, fun i ds p a b => s.young i ds p (own i ds a) b, s.e.ff, Same.refl _, fun i d h => ?_, fun i d h => ?_⟩
  · rw [gm]
    have q := s.r.sl i
    cases g : get st i <;> rw [g] at q <;> exact q
  · rw [gm] at h
    have q := s.r.sl i
    cases g : get st i <;> rw [g] at h q <;> first | (cases h; exact q) | cases h
  · rw [gm] at h
    cases g : get st i <;> rw [g] at h <;> cases h
theorem RelE.putN (r : RelE K F H st σ) {v : V} {d : D} (h : En K F v d) (i : Nat) : RelE K F H (PL.put st i (.new d)) (σ.set i (some v)) := by
  refine ⟨r.fh, by rw [put_length, List.length_set]; exact r.len, fun j => ?_⟩
  rw [get_put]
  by_cases c : j = i ∧ i < st.length
  · rw [if_pos c]
    obtain ⟨rfl, c⟩ := c
    exact ⟨v, by rw [List.getElem?_set_self (by rw [← r.len]; exact c)], h⟩
  · rw [if_neg c]
    by_cases e : j = i
    · have hl : st.length ≤ i := by
        have := fun z => c ⟨e, z⟩
        omega
      rw [e, get_ge st i hl]
      trivial
    · rw [List.getElem?_set_ne (Ne.symm e)]
      exact r.sl j
theorem RelS.setNew (s0 : RelS K B F0 H0 F H st σ) (x : Ext F H F' H') {v : V} {d : D} (hE : En K F' v d) (nw : ∃ C L, Nw K H F' C L v d) (i : Nat) : RelS K B F0 H0 F' H' (put st i (.new d)) (σ.set i (some v)) := by
  have s := s0.up x
  obtain ⟨C, L, w⟩ := nw
  have fh := s0.r.fh
  refine ⟨s.e, s.r.putN hE i, fun a b ds es p ne ga gb sa => ?_, fun a ds p ga sa => ?_, s.ob, s.bf, s.oldPut (fun _ z => nomatch z), fun j d' g => ?_⟩
  · obtain ⟨na, ga⟩ := get_put_ne ga (fun z => nomatch z) (fun z => nomatch z)
    obtain ⟨nb, gb⟩ := get_put_ne gb (fun z => nomatch z) (fun z => nomatch z)
    rw [List.getElem?_set_ne (Ne.symm na)] at sa
    rw [List.getElem?_set_ne (Ne.symm nb)]
    exact s.apart a b ds es p ne ga gb sa
  · obtain ⟨na, ga⟩ := get_put_ne ga (fun z => nomatch z) (fun z => nomatch z)
    rw [List.getElem?_set_ne (Ne.symm na)] at sa
    exact s.young a ds p ga sa
  · have g' := g
    rw [get_put] at g
    by_cases c : j = i ∧ i < st.length
    · rw [if_pos c] at g
      cases g
      obtain ⟨rfl, c⟩ := c
      have bh : Same B H := s0.bf.trans fh
      refine ⟨v, C, L, by rw [List.getElem?_set_self (by rw [← s.r.len]; exact c)], w.wt, fun p l => ?_, w.cs, fun p o e => ?_⟩
      · obtain ⟨a, b, c⟩ := w.fr p l
        exact ⟨bh.free a, s0.e.hh.free a, b, c⟩
      · have a := w.cn p o e
        exact ⟨bh.free a, s0.e.hh.free a⟩
    · rw [if_neg c] at g
      have hj : j ≠ i := fun z => by
        subst z
        rw [get_ge st j (by have := fun z => c ⟨rfl, z⟩; omega)] at g
        cases g
      rw [List.getElem?_set_ne (Ne.symm hj)]
      exact s.nw j d' g
theorem RelS.forget (s : RelS K B F0 H0 F H st σ) (j : Nat) (u : Option V) : RelS K B F0 H0 F H (put st j .no) (σ.set j u) := by
  have gp : ∀ {a : Nat} {x : Sl}, get (put st j .no) a = x → x ≠ .no → a ≠ j ∧ get st a = x := fun {a x} g k => get_put_ne g (fun z => k z.symm) k
  refine ⟨s.e, ⟨s.r.fh, by rw [put_length, List.length_set]; exact s.r.len, fun a => ?_⟩, fun a b ds es p ne ga gb sa => ?_, fun a ds p ga sa => ?_, s.ob, s.bf, s.oldPut (fun _ z => nomatch z), s.newPut (fun _ z => nomatch z) (Same.refl _)⟩
  · rw [get_put]
    by_cases c : a = j ∧ j < st.length
    · rw [if_pos c]; trivial
    · rw [if_neg c]
      by_cases e : a = j
      · rw [e, get_ge st j (by have := fun z => c ⟨e, z⟩; omega)]; trivial
      · rw [List.getElem?_set_ne (Ne.symm e)]; exact s.r.sl a
  · obtain ⟨na, ga⟩ := gp ga (fun z => nomatch z)
    obtain ⟨nb, gb⟩ := gp gb (fun z => nomatch z)
    rw [List.getElem?_set_ne (Ne.symm na)] at sa
    rw [List.getElem?_set_ne (Ne.symm nb)]
    exact s.apart a b ds es p ne ga gb sa
  · obtain ⟨na, ga⟩ := gp ga (fun z => nomatch z)
    rw [List.getElem?_set_ne (Ne.symm na)] at sa
    exact s.young a ds p ga sa
/-- while new lists are changed -/
structure MI (K : PySem.W.Frag) (B F0 H0 F H : Hp) (st : Sto) (σ : L2.St) (i n : Nat) (v : V) (C : Hp) (L : Addr → Prop) (d : D) : Prop where
  s : RelS K B F0 H0 F H st σ
  sat : σ[i]? = some (some v)
  wt : Wt K F C L v d
  fr : ∀ p, L p → F p = none ∧ H0 p = none ∧ C p = none ∧ ∃ ws, H p = some (.lst ws) ∧ ws.length ≤ 1000000 + n
  cs : Same C H
  ow : ∀ j es p, get st j = .own es → σ[j]? = some (some (.ref p)) → ¬ L p
variable {i n : Nat} {v : V} {C : Hp} {L : Addr → Prop} {d : D}
theorem MI.up (m : MI K B F0 H0 F H st σ i n v C L d) (x : Ext F H F' H') : MI K B F0 H0 F' H' st σ i n v C L d :=
  ⟨m.s.up x, m.sat, wt_mono x.ff (Same.refl _) (fun _ l => l) m.wt, fun p l => by
    obtain ⟨a, b, c, ws, e, f⟩ := m.fr p l
    exact ⟨x.fr p a (by rw [e]; exact fun z => nomatch z), b, c, ws, x.hh p _ e, f⟩, m.cs.trans x.hh, m.ow⟩
theorem MI.app (m : MI K B F0 H0 F H st σ i n v C L d) {p : Addr} (l : L p) {ws : List V} (hw : H p = some (.lst ws)) (u : V) : MI K B F0 H0 F (upd H p (.lst (ws ++ [u]))) st σ i (n + 1) v C L d := by
  obtain ⟨a, b, c, ws', e, f⟩ := m.fr p l
  rw [hw] at e
  cases e
  have up : ∀ {A : Hp}, A p = none → Same A H → Same A (upd H p (.lst (ws ++ [u]))) := fun {A} z k x o e => by
    rw [upd_ne (fun y => by rw [y, z] at e; cases e)]; exact k x o e
  refine ⟨⟨⟨m.s.e.ff, up a m.s.r.fh, up b m.s.e.hh, m.s.e.fr⟩, ⟨up a m.s.r.fh, m.s.r.len, fun j => ?_⟩, m.s.apart, m.s.young, m.s.ob, m.s.bf, m.s.old, m.s.nw⟩, m.sat, m.wt, fun x lx => ?_, up c m.cs, m.ow⟩
  · have q := m.s.r.sl j
    cases g : get st j with
    | no => trivial
    | val d => rw [g] at q; exact q
    | old d => rw [g] at q; exact q
    | new d => rw [g] at q; exact q
    | own es =>
      rw [g] at q
      obtain ⟨y, vs, q1, q2, q3, q4⟩ := q
      exact ⟨y, vs, q1, by rw [upd_ne (fun z : y = p => m.ow j es y g q1 (by rw [z]; exact l))]; exact q2, q3, q4⟩
  · obtain ⟨a', b', c', ws', e', f'⟩ := m.fr x lx
    refine ⟨a', b', c', ?_⟩
    by_cases z : x = p
    · subst z
      exact ⟨_, upd_same, by rw [List.length_append]; simp; omega⟩
    · exact ⟨ws', by rw [upd_ne z]; exact e', by omega⟩
theorem MI.forget (m : MI K B F0 H0 F H st σ i n v C L d) {j : Nat} (h : j ≠ i) (u : Option V) : MI K B F0 H0 F H (put st j .no) (σ.set j u) i n v C L d :=
  ⟨m.s.forget j u, by rw [List.getElem?_set_ne h]; exact m.sat, m.wt, m.fr, m.cs, fun a es p g e => by
    obtain ⟨na, g⟩ := get_put_ne g (fun z => nomatch z) (fun z => nomatch z)
    rw [List.getElem?_set_ne (Ne.symm na)] at e
    exact m.ow a es p g e⟩
theorem RelS.muti (s : RelS K B F0 H0 F H st σ) {i : Nat} {d : D} (hd : get st i = .new d) : ∃ F' v C L, MI K B F0 H0 F' H (drpA st) σ i 0 v C L d := by
  obtain ⟨v, C, L, e1, e2, e3, e4, e5⟩ := s.nw i d hd
  let P : Addr → Prop := fun a => B a ≠ none
  have gm : ∀ i, get (drpA st) i = drp (get st i) := get_mapf rfl st
  have own : ∀ i ds, get (drpA st) i = .own ds → get st i = .own ds ∧ noLs ds = true := fun i ds h => by
    rw [gm] at h
    cases g : get st i with
    | own es =>
      rw [g] at h
      simp only [drp] at h
      split at h
      · cases h; exact ⟨rfl, by assumption⟩
      · cases h
    | val d => rw [g] at h; simp only [drp] at h; split at h <;> cases h
    | old d => rw [g] at h; cases h
    | new d => rw [g] at h; cases h
    | no => rw [g] at h; cases h
  have keep : ∀ {A : Hp}, Same A B → Same A (rst F P) := fun {A} k a o e => by
    have hb := k a o e
    have hf := s.bf a o hb
    cases o with
    | lst xs => exact rst_lst hf (by show B a ≠ none; rw [hb]; exact fun z => nomatch z)
    | _ => exact rst_not hf fun _ z => nomatch z
  have sr : Same (rst F P) F := rst_same
  refine ⟨rst F P, v, C, L, ⟨⟨keep s.ob, sr.trans s.e.fh, s.e.hh, fun a q n => sr.free (s.e.fr a q n)⟩, ⟨sr.trans s.r.fh, by unfold drpA; rw [List.length_map]; exact s.r.len, fun j => ?_⟩, fun a b ds es p ne ga gb sa => s.apart a b ds es p ne (own a ds ga).1 (own b es gb).1 sa, fun a ds p ga sa => s.young a ds p (own a ds ga).1 sa, s.ob, keep (Same.refl _), fun j d' g => ?_, fun j d' g => ?_⟩, e1, wt_rst e2, fun p l => ?_, e4.trans s.r.fh, fun j es p g e l => ?_⟩
  · rw [gm]
    have q := s.r.sl j
    cases g : get st j with
    | no => trivial
    | new d => trivial
    | val d =>
      rw [g] at q
      obtain ⟨u, q1, q2⟩ := q
      simp only [drp]
      split
      · exact ⟨u, q1, q2.rstL (by assumption)⟩
      · trivial
    | old d =>
      obtain ⟨u, q1, q2⟩ := s.old j d g
      exact ⟨u, q1, q2.up (keep (Same.refl _))⟩
    | own es =>
      rw [g] at q
      obtain ⟨y, vs, q1, q2, q3, q4⟩ := q
      simp only [drp]
      split
      · exact ⟨y, vs, q1, q2, sr.free q3, q4.rstL (by assumption)⟩
      · trivial
  · rw [gm] at g
    cases h : get st j with
    | old d2 => rw [h] at g; cases g; exact s.old j d' h
    | own es => rw [h] at g; simp only [drp] at g; split at g <;> cases g
    | val d => rw [h] at g; simp only [drp] at g; split at g <;> cases g
    | new d => rw [h] at g; cases g
    | no => rw [h] at g; cases g
  · rw [gm] at g
    cases h : get st j with
    | old d2 => rw [h] at g; cases g
    | own es => rw [h] at g; simp only [drp] at g; split at g <;> cases g
    | val d => rw [h] at g; simp only [drp] at g; split at g <;> cases g
    | new d => rw [h] at g; cases g
    | no => rw [h] at g; cases g
  · obtain ⟨a, b, c, xs, k, u⟩ := e3 p l
    exact ⟨rst_none k (fun z => z a), b, c, xs, s.r.fh p _ k, by omega⟩
  · obtain ⟨-, -, -, xs, k, -⟩ := e3 p l
    have q := s.r.sl j
    rw [(own j es g).1] at q
    obtain ⟨y, vs, q1, q2, q3, q4⟩ := q
    rw [e] at q1
    cases q1
    rw [q3] at k
    cases k
/-! the way to a new list -/
theorem wayD_app : ∀ (ks : List Nat) (d : D) (k : Nat), wayD d (ks ++ [k]) = (wayD d ks).bind fun x => wayD x [k]
  | [], d, k => by simp [wayD]
  | a :: ks, d, k => by
    show wayD d (a :: (ks ++ [k])) = _
    cases d with
    | tuple ds =>
      simp only [wayD]
      cases ds[a]? with
      | none => rfl
      | some x => exact wayD_app ks x k
    | list ds =>
      simp only [wayD]
      split
      · rfl
      · cases ds[a]? with
        | none => rfl
        | some x => exact wayD_app ks x k
    | _ => rfl
theorem noL_at : ∀ {ds : List D} {k : Nat} {x : D}, noLs ds = true → ds[k]? = some x → noL x = true
  | [], k, x, _, h => by simp at h
  | d :: r, 0, x, n, h => by
    have n' : (noL d && noLs r) = true := n
    cases h
    exact (b2 n').1
  | d :: r, k + 1, x, n, h => by
    have n' : (noL d && noLs r) = true := n
    exact noL_at (b2 n').2 (by simpa using h)
theorem WtAll.at_ : ∀ {xs : List V} {ds : List D} {k : Nat} {x : D}, WtAll K F C L xs ds → ds[k]? = some x → ∃ u, xs[k]? = some u ∧ Wt K F C L u x
  | _, _, k, x, .nil, h => by simp at h
  | _, _, 0, x, .cons a _, h => by cases h; exact ⟨_, rfl, a⟩
  | _, _, k + 1, x, .cons _ b, h => by
    obtain ⟨u, q, r⟩ := WtAll.at_ b (by simpa using h)
    exact ⟨u, by simpa using q, r⟩
/-- the reading of name[k]..  (the last k first) -/
def tWay (K : PySem.W.Frag) (i : Nat) : List Nat → TE
  | [] => tVar i
  | k :: ks => tOp (fun x y H Q => rIx K x y H Q) (tWay K i ks) (tC (.int (k : Int)))
theorem tWay_ok {σ : L2.St} {i : Nat} {v : V} {d : D} (hv : σ[i]? = some (some v)) (hw : Wt K F C L v d) (fh : Same F H) (ch : Same C H) : ∀ (ks : List Nat) (x : D) (Q : VK), wayD d ks.reverse = some x → noL x = false → (∀ u, Wt K F C L u x → Q u H) → tWay K i ks σ H Q
  | [], x, Q, h, n, k => by
    have h' : some d = some x := h
    cases h'
    exact ⟨v, hv, k v hw⟩
  | a :: ks, x, Q, h, n, k => by
    rw [List.reverse_cons, wayD_app] at h
    obtain ⟨y, h1, h2⟩ := bind2 h
    have step : ∀ {ds : List D}, ds[a]? = some x → noLs ds = true → False := fun e1 e2 => by rw [noL_at e2 e1] at n; cases n
    cases y with
    | tuple ds =>
      obtain ⟨z, h3, h4⟩ := bind2 (show (ds[a]?).bind (fun d => wayD d []) = some x from h2)
      have h4' : some z = some x := h4
      cases h4'
      have ny : noL (.tuple ds) = false := by
        cases e : noL (.tuple ds) with
        | false => rfl
        | true => exact (step h3 e).elim
      refine tWay_ok hv hw fh ch ks (.tuple ds) _ h1 ny fun u hu => ?_
      cases hu with
      | flat z => rw [ny] at z; cases z
      | tup sq al =>
        obtain ⟨w, w1, w2⟩ := al.at_ h3
        exact .inr (.inl ⟨_, _, _, w, rfl, rfl, sqT_mono fh sq, atI_nat w1, k w w2⟩)
    | list ds =>
      have h2' : (if noLs ds then none else (ds[a]?).bind fun d => wayD d []) = some x := h2
      split at h2'
      · cases h2'
      · rename_i nn
        have nn : noLs ds = false := by simpa using nn
        obtain ⟨z, h3, h4⟩ := bind2 h2'
        have h4' : some z = some x := h4
        cases h4'
        refine tWay_ok hv hw fh ch ks (.list ds) _ h1 rfl fun u hu => ?_
        cases hu with
        | flat z => cases z
        | leaf z _ => rw [nn] at z; cases z
        | lst _ sq al =>
          obtain ⟨w, w1, w2⟩ := al.at_ h3
          exact .inl ⟨_, _, _, w, rfl, rfl, SqL.of (ch _ _ sq), atI_nat w1, k w w2⟩
    | none => cases h2
    | bool _ => cases h2
    | int _ => cases h2
    | str _ => cases h2
    | dict _ => cases h2
end
section
variable {Γ : List Sem1} {G : List D} {N bs cn gn : List Str} {lvl : Nat}
theorem way_pe {X : Cx} {sc : Scope} {fnf : Str → Bool} (g : GoodX X sc fnf N bs cn gn Γ G lvl) {i : Nat} : ∀ (ks : List Nat) (o : Expr), chkW N sc i ks o = true → PE X o (tWay X.K i ks) ∧ ∀ m, attributeBase o m X.env (eval o X.env) = eval o X.env
  | [], o, h => by
    unfold chkW at h
    split at h
    · obtain ⟨h1, h2⟩ := b2 h
      exact ⟨pv_of g h1 (dc h2), fun _ => rfl⟩
    · cases h
  | k :: ks, o, h => by
    unfold chkW at h
    split at h
    · obtain ⟨h1, h2⟩ := b2 h
      cases dc h1
      exact ⟨pe_ix ix_seq (way_pe g ks _ h2).1 pe_int (fun _ _ => rfl), fun _ => rfl⟩
    · cases h
theorem blank_len {st st' : Sto} (h : st.length = st'.length) : blank st = blank st' := by
  unfold blank
  rw [List.map_const', List.map_const', h]
theorem blank_get (st : Sto) (i : Nat) : get (blank st) i = .no := get_mapf (f := fun _ => .no) rfl st i
theorem le_blank {K : PySem.W.Frag} {e : Ex} {st : Sto} {σ : L2.St} {F H : Hp} {de : D} {Q : VK} (fh : Same F H) (hl : st.length = σ.length) (h : ev Γ G e (blank st) = some de) (k : ∀ u H' F', Ext F H F' H' → Q u H') : LE Γ G K e σ H Q :=
  ⟨F, blank st, de, ⟨fh, by unfold blank; rw [List.length_map]; exact hl, fun i => by rw [blank_get]; trivial⟩, h, fun u H' F' x _ => k u H' F' x⟩
/-- the reading of name[k]..append(e) -/
def tAppR (Γ : List Sem1) (G : List D) (K : PySem.W.Frag) (i : Nat) (ks : List Nat) (e : Ex) : TS := fun Dd σ H => ∃ B F0 H0 F st r n v C L d v' d' x de, MI K B F0 H0 F H st σ r n v C L d ∧ σ[i]? = some (some v') ∧ Wt K F C L v' d' ∧ wayD d' ks.reverse = some x ∧ isLeaf x = true ∧
  ev Γ G e (blank st) = some de ∧ n ≤ 1000000 ∧ ∀ F' H', Same F F' → MI K B F0 H0 F' H' st σ r (n + 1) v C L d → Dd.nx σ H'
theorem app_ps {X : Cx} {sc : Scope} {fnf : Str → Bool} (g : GoodX X sc fnf N bs cn gn Γ G lvl) {i : Nat} {ks : List Nat} {e : Ex} {s : Stmt} (h : chkApp N bs cn gn sc e (chkW N sc i ks) s = true) : PS X s (tAppR Γ G X.K i ks e) := by
  unfold chkApp at h
  split at h
  · obtain ⟨h, h5⟩ := b2 h
    obtain ⟨h, h4⟩ := b2 h
    obtain ⟨h, h3⟩ := b2 h
    obtain ⟨h1, h2⟩ := b2 h
    cases dc h1
    obtain ⟨hp, hb⟩ := way_pe g ks _ h2
    refine ps_weak (ps_expr (pe_bm PySem.F.plainAttrs_list PySem.F.slot_list_append PySem.F.type_list_append mt_append hp (pa_cons (sE e g _ h5).pe pa_nil (star_of h3 [] X.env)) (hb _) (few1 h3 X.env _) h4 (star_of h3 [] X.env) ((NoStars.nil).any X.env _)))
      fun Dd σ H ⟨B, F0, H0, F, st, r, n, v, C, L, d, v', d', x, de, m, hv, hw, hx, hl, he, hn, w⟩ => ?_
    cases x with
    | list xs =>
      have hl' : noLs xs = true := hl
      refine tWay_ok hv hw m.s.r.fh m.cs ks (.list xs) _ hx rfl fun u hu => ?_
      cases hu with
      | flat z => cases z
      | lst z _ _ => rw [hl'] at z; cases z
      | @leaf p _ _ l =>
        obtain ⟨-, -, -, ws, k1, k2⟩ := m.fr p l
        refine ⟨.inl ⟨rfl, ws, SqL.of k1⟩, le_blank m.s.r.fh m.s.r.len he fun u H' F' xx => ?_⟩
        have m' := m.up xx
        have k1' := xx.hh p _ k1
        exact ⟨p, ws, u, rfl, rfl, k1', by have := sizeLine_eq; omega, w F' _ xx.ff (m'.app l k1' u)⟩
    | _ => cases hl
  · cases h
theorem wayD_wt {K : PySem.W.Frag} {F C : Hp} {L : Addr → Prop} : ∀ (ks : List Nat) (d : D) (v : V) (x : D), Wt K F C L v d → wayD d ks = some x → noL x = false → ∃ u, Wt K F C L u x
  | [], d, v, x, h, e, _ => by
    have e' : some d = some x := e
    cases e'
    exact ⟨v, h⟩
  | k :: ks, d, v, x, h, e, n => by
    cases d with
    | tuple ds =>
      obtain ⟨y, e1, e2⟩ := bind2 (show (ds[k]?).bind (fun d => wayD d ks) = some x from e)
      cases h with
      | flat z =>
        have : ∀ (ks : List Nat) (d : D), noL d = true → ∀ x, wayD d ks = some x → noL x = true := fun ks => by
          induction ks with
          | nil => intro d h x e; cases (show some d = some x from e); exact h
          | cons k ks ih =>
            intro d h x e
            cases d with
            | tuple ds =>
              obtain ⟨y, e1, e2⟩ := bind2 (show (ds[k]?).bind (fun d => wayD d ks) = some x from e)
              exact ih y (noL_at h e1) x e2
            | list ds => cases h
            | none => cases e
            | bool _ => cases e
            | int _ => cases e
            | str _ => cases e
            | dict _ => cases e
        rw [this ks y (noL_at z e1) x e2] at n
        cases n
      | tup sq al =>
        obtain ⟨w, w1, w2⟩ := al.at_ e1
        exact wayD_wt ks y w x w2 e2 n
    | list ds =>
      have e' : (if noLs ds then none else (ds[k]?).bind fun d => wayD d ks) = some x := e
      split at e'
      · cases e'
      · rename_i nn
        obtain ⟨y, e1, e2⟩ := bind2 e'
        cases h with
        | flat z => cases z
        | leaf z _ => exact absurd z nn
        | lst _ sq al =>
          obtain ⟨w, w1, w2⟩ := al.at_ e1
          exact wayD_wt ks y w x w2 e2 n
    | none => cases e
    | bool _ => cases e
    | int _ => cases e
    | str _ => cases e
    | dict _ => cases e
/-- changes of new lists, and what follows -/
theorem ms_ok {X : Cx} {sc : Scope} (g : GoodX X sc (fun _ => true) N bs cn gn Γ G lvl) (hp : PassesOwn (model X.prog X.w) X.A X.env X.xe) {rest : List Stmt} {t : TS} : ∀ (ms : List Mt) (i : Nat) (l : List Stmt), chkMs N bs cn gn sc i ms l = true → PSs X rest t →
    PSs X (l ++ rest) (fun Dd σ H => ∃ B F0 H0 F st0 st n v C L d, MI X.K B F0 H0 F H st σ i n v C L d ∧ st.length = st0.length ∧ ms.all (mtOk Γ G st0 d) = true ∧ n + 1000 * ms.length ≤ 200000 ∧ (mtJ ms).contains i = false ∧
      ∀ F' H' σ', RelS X.K B F0 H0 F' H' (wipeF st (mtJ ms)) σ' → t Dd σ' H')
  | [], i, l, h, hr => by
    unfold chkMs at h
    cases l with
    | nil => exact pss_weak hr fun Dd σ H ⟨B, F0, H0, F, st0, st, n, v, C, L, d, m, _, _, _, _, w⟩ => w F H σ m.s
    | cons _ _ => cases h
  | m0 :: ms, i, l, h, hr => by
    unfold chkMs at h
    split at h
    · rename_i x xs
      obtain ⟨h1, h2⟩ := b2 h
      have ih := ms_ok g hp ms i xs h2 hr
      cases m0 with
      | app ks e =>
        refine pss_weak (pss_cons (app_ps g (show chkApp N bs cn gn sc e (chkW N sc i ks.reverse) x = true from h1)) ih) fun Dd σ H ⟨B, F0, H0, F, st0, st, n, v, C, L, d, m, ln, ok, hn, hj, w⟩ => ?_
        rw [List.all_cons] at ok
        obtain ⟨ok1, ok2⟩ := b2 ok
        have ok1' : ((match wayD d ks with | some x => isLeaf x | none => false) && (ev Γ G e (blank st0)).isSome) = true := ok1
        obtain ⟨o1, o2⟩ := b2 ok1'
        obtain ⟨de, hde⟩ := Option.isSome_iff_exists.mp o2
        rw [List.length_cons] at hn
        split at o1
        · rename_i y hy
          refine ⟨B, F0, H0, F, st, i, n, v, C, L, d, v, d, y, de, m, m.sat, m.wt, by rw [List.reverse_reverse]; exact hy, o1, by rw [blank_len ln]; exact hde, by omega, fun F' H' sm m' => ?_⟩
          exact ⟨B, F0, H0, F', st0, st, n + 1, v, C, L, d, m', ln, ok2, by omega, hj, w⟩
        · cases o1
      | all j ks e =>
        unfold chkM at h1
        simp only at h1
        split at h1
        · rename_i y py o b pos
          obtain ⟨h1, k4⟩ := b2 h1
          obtain ⟨h1, k3⟩ := b2 h1
          obtain ⟨k1, k2⟩ := b2 h1
          obtain ⟨op, ob⟩ := way_pe g ks.reverse o k3
          have body : PSs X [b] (tAppR Γ G X.K j [] e) := pss_one (app_ps g k4)
          refine pss_weak (pss_cons (ps_for hp g.calm (pi_seq op) (pg_one g k1) body (set_of k2 X.env)) ih) fun Dd σ H ⟨B, F0, H0, F, st0, st, n, v, C, L, d, m, ln, ok, hn, hj, w⟩ => ?_
          rw [List.all_cons] at ok
          obtain ⟨ok1, ok2⟩ := b2 ok
          have ok1' : ((match wayD d ks with | some (.list xs) => !noLs xs && xs.all isLeaf && decide (xs.length ≤ 1000) | _ => false) && (ev Γ G e (blank st0)).isSome && decide (j < st0.length)) = true := ok1
          obtain ⟨ok1', hjst⟩ := b2 ok1'
          rw [decide_eq_true_eq] at hjst
          obtain ⟨o1, o2⟩ := b2 ok1'
          obtain ⟨de, hde⟩ := Option.isSome_iff_exists.mp o2
          rw [List.length_cons] at hn
          have hj' : (i == j || (mtJ ms).contains i) = false := hj
          rw [Bool.or_eq_false_iff] at hj'
          have hij : j ≠ i := fun z => by
            have := hj'.1
            rw [z, beq_self_eq_true] at this
            cases this
          split at o1
          · rename_i ds hy
            obtain ⟨o1, o3⟩ := b2 o1
            obtain ⟨o1, o4⟩ := b2 o1
            have nn : noLs ds = false := by simpa using o1
            rw [decide_eq_true_eq] at o3
            refine tWay_ok m.sat m.wt m.s.r.fh m.cs ks.reverse (.list ds) _ (by rw [List.reverse_reverse]; exact hy) rfl fun u hu => ?_
            cases hu with
            | flat z => cases z
            | leaf z _ => rw [nn] at z; cases z
            | @lst q xs _ _ cq al =>
              have lx : xs.length = ds.length := by
                have : ∀ {xs : List V} {ds : List D}, WtAll X.K F C L xs ds → xs.length = ds.length := fun h => by
                  rename_i xs ds
                  induction ds generalizing xs with
                  | nil => cases h; rfl
                  | cons d ds ih => cases h with
                    | cons _ h2 => simp [ih h2]
                exact this al
              refine .inl ⟨q, xs, rfl, SqL.of (m.cs _ _ cq), fun hz => ?_⟩
              have gz := gz_list (K := X.K) (B := C) (SqL.of cq)
              refine ⟨fun k mm σ' H' => mm = xs.length - k ∧ k ≤ xs.length ∧ ∃ F', Same F F' ∧ MI X.K B F0 H0 F' H' (put st j .no) σ' i (n + k) v C L d, ⟨xs.length, by omega, Nat.zero_le _, F, Same.refl _, ?_⟩, ?_⟩
              · have e : σ = σ.set j ((σ[j]?).getD none) := by
                  refine List.ext_getElem? fun a => ?_
                  rw [List.getElem?_set]
                  by_cases z : j = a
                  · subst z
                    by_cases hl : j < σ.length
                    · rw [if_pos rfl, if_pos hl, List.getElem?_eq_getElem hl]; rfl
                    · rw [if_pos rfl, if_neg hl, List.getElem?_eq_none (by omega)]
                  · rw [if_neg z]
                have := m.forget hij ((σ[j]?).getD none)
                rw [← e] at this
                exact this
              · rintro k mm σ' H' ⟨rfl, hk, F', sm, mi⟩
                by_cases hlt : k < xs.length
                · refine .inr ⟨gz.go k H' mi.cs hlt, fun σ' H' => ∃ F', Same F F' ∧ MI X.K B F0 H0 F' H' (put st j .no) σ' i (n + (k + 1)) v C L d, fun σ2 H2 p => ⟨xs.length - (k + 1), by omega, rfl, hlt, p⟩, fun x H2 yl => ?_⟩
                  obtain ⟨rfl, hx⟩ := gz.yld k H' x H2 mi.cs yl hlt
                  obtain ⟨dk, hdk⟩ : ∃ dk, ds[k]? = some dk := ⟨ds[k]'(by omega), List.getElem?_eq_getElem (by omega)⟩
                  obtain ⟨x', hx', hw'⟩ := (wtAll_mono sm (Same.refl _) (fun _ l => l) al).at_ hdk
                  rw [hx] at hx'
                  cases hx'
                  have hlf := List.all_eq_true.mp o4 dk (List.mem_of_getElem? hdk)
                  have m2 : MI X.K B F0 H0 F' H2 (put st j .no) (σ'.set j (some x)) i (n + k) v C L d := by
                    have := mi.forget hij (some x)
                    have e : put (put st j .no) j .no = put st j .no := by
                      have : ∀ (st : Sto) (j : Nat), put (put st j .no) j .no = put st j .no := fun st => by
                        induction st with
                        | nil => intro j; rfl
                        | cons s r ih =>
                          intro j
                          cases j with
                          | zero => rfl
                          | succ j => show s :: put (put r j .no) j .no = s :: put r j .no; rw [ih]
                      exact this st j
                    rw [e] at this
                    exact this
                  have hjl : j < σ'.length := by
                    rw [← mi.s.r.len, put_length, ln]
                    exact hjst
                  exact ⟨B, F0, H0, F', put st j .no, i, n + k, v, C, L, d, x, dk, dk, de, m2, by rw [List.getElem?_set_self hjl], hw', rfl, hlf, by rw [blank_len (st' := st0) (by rw [put_length]; exact ln)]; exact hde, by omega, fun F2 H3 s2 m3 => ⟨F2, sm.trans s2, m3⟩⟩
                · have : k = xs.length := by omega
                  subst this
                  refine .inl ⟨gz.stop _ H' mi.cs (by omega), ?_⟩
                  exact ⟨B, F0, H0, F', st0, put st j .no, n + xs.length, v, C, L, d, mi, by rw [put_length]; exact ln, ok2, by omega, hj'.2, w⟩
          · cases o1
        · cases h1
    · cases h
end
end PL
namespace PL
open PySem PySem.Spec PyProof.Rows L2
section
variable {Γ : List Sem1} {G : List D} {N bs cn gn : List Str} {lvl : Nat}
mutual
theorem sS : ∀ (s : Sm) {X : Cx} {sc : Scope}, GoodX X sc (fun _ => true) N bs cn gn Γ G lvl → PassesOwn (model X.prog X.w) X.A X.env X.xe → ∀ p : Stmt, chkS N bs cn gn sc s p = true → PS X p (LS Γ G X.K s)
  | .set i e, X, sc, g, hp, p, h => by
    simp only [chkS] at h
    split at h
    · obtain ⟨h, h3⟩ := b2 h
      obtain ⟨h1, h2⟩ := b2 h
      refine ps_weak (assign_name g h1 (sE e g _ h2).pe (by simpa using h3)) fun Dd σ H ⟨B, F0, H0, F, st, o, s, hx, w⟩ => ?_
      simp only [ex] at hx
      obtain ⟨d, e1, e2⟩ := Option.map_eq_some_iff.mp hx
      subst e2
      exact le_rel s e1 fun v H' F' x s' hE => w _ H' F' B (s'.val hE i) fun _ => ⟨rfl, x.ff⟩
    · cases h
  | .setN i n, X, sc, g, hp, p, h => by
    simp only [chkS] at h
    split at h
    · obtain ⟨h, h3⟩ := b2 h
      obtain ⟨h1, h2⟩ := b2 h
      refine ps_weak (assign_name g h1 (sN n g _ h2) (by simpa using h3)) fun Dd σ H ⟨B, F0, H0, F, st, o, s, hx, w⟩ => ?_
      simp only [ex] at hx
      obtain ⟨d, e1, e2⟩ := Option.map_eq_some_iff.mp hx
      subst e2
      exact ⟨F, st, d, s.r, e1, fun v H' F' x hE nw => w _ H' F' B (s.setNew x hE nw i) fun _ => ⟨rfl, x.ff⟩⟩
    · cases h
  | .setF i f, X, sc, g, hp, p, h => by
    simp only [chkS] at h
    split at h
    · obtain ⟨h1, h2⟩ := b2 h
      exact setF_st g h1 h2
    · cases h
  | .par2 i j a b, X, sc, g, hp, p, h => by
    simp only [chkS] at h
    split at h
    · obtain ⟨h, h6⟩ := b2 h
      obtain ⟨h, h5⟩ := b2 h
      obtain ⟨h, h4⟩ := b2 h
      obtain ⟨h, h3⟩ := b2 h
      obtain ⟨h1, h2⟩ := b2 h
      have hsw := h1
      simp only [swYes, Bool.and_eq_true, Bool.not_eq_true', beq_iff_eq] at h1
      obtain ⟨⟨⟨⟨⟨⟨⟨l1, l2⟩, l3⟩, l4⟩, l5⟩, l6⟩, l7⟩, l8⟩ := h1
      have hij : i ≠ j := by simpa using h4
      refine ps_weak (ps_par g.calm g.nd (by rw [g.N]; exact dc h2) (by rw [g.N]; exact dc h3) hij (local_of g l1) (local_of g l2) (pa_cons (sE a g _ h5).pe (pa_cons (sE b g _ h6).pe pa_nil (star_of l6 [] X.env)) (star_of l5 _ X.env)) (sw2 g hsw) rfl)
        fun Dd σ H ⟨B, F0, H0, F, st, o, s, hx, w⟩ => ?_
      simp only [ex] at hx
      obtain ⟨d1, e1, hx⟩ := bind2 hx
      obtain ⟨d2, e2, e3⟩ := Option.map_eq_some_iff.mp hx
      subst e3
      exact le_rel s e1 fun v H1 F1 x1 s1 hE1 => le_rel s1 e2 fun v2 H2 F2 x2 s2 hE2 => ⟨v, v2, rfl, w _ H2 F2 B ((s2.val (hE1.up x2.ff) i).val hE2 j) fun _ => ⟨rfl, x1.ff.trans x2.ff⟩⟩
    · cases h
  | .par3 i j l a b c, X, sc, g, hp, p, h => by
    simp only [chkS] at h
    split at h
    · obtain ⟨h, k9⟩ := b2 h
      obtain ⟨h, k8⟩ := b2 h
      obtain ⟨h, k7⟩ := b2 h
      obtain ⟨h, k6⟩ := b2 h
      obtain ⟨h, k5⟩ := b2 h
      obtain ⟨h, k4⟩ := b2 h
      obtain ⟨h, k3⟩ := b2 h
      obtain ⟨h, k2⟩ := b2 h
      obtain ⟨h1, k1⟩ := b2 h
      have hsw := h1
      simp only [swYes, Bool.and_eq_true, Bool.not_eq_true', beq_iff_eq] at h1
      obtain ⟨⟨⟨⟨⟨⟨⟨⟨⟨⟨⟨⟨l1, l2⟩, l3⟩, _⟩, _⟩, _⟩, _⟩, _⟩, l5⟩, l6⟩, l6'⟩, _⟩, _⟩ := h1
      refine ps_weak (ps_par3 g.calm g.nd (by rw [g.N]; exact dc k1) (by rw [g.N]; exact dc k2) (by rw [g.N]; exact dc k3) (by simpa using k4) (by simpa using k5) (by simpa using k6) (local_of g l1) (local_of g l2) (local_of g l3)
        (pa_cons (sE a g _ k7).pe (pa_cons (sE b g _ k8).pe (pa_cons (sE c g _ k9).pe pa_nil (star_of l6' [] X.env)) (star_of l6 _ X.env)) (star_of l5 _ X.env)) (sw3 g hsw) rfl)
        fun Dd σ H ⟨B, F0, H0, F, st, o, s, hx, w⟩ => ?_
      simp only [ex] at hx
      obtain ⟨d1, e1, hx⟩ := bind2 hx
      obtain ⟨d2, e2, hx⟩ := bind2 hx
      obtain ⟨d3, e3, e4⟩ := Option.map_eq_some_iff.mp hx
      subst e4
      exact le_rel s e1 fun v H1 F1 x1 s1 hE1 => le_rel s1 e2 fun v2 H2 F2 x2 s2 hE2 => le_rel s2 e3 fun v3 H3 F3 x3 s3 hE3 =>
        ⟨v, v2, v3, rfl, w _ H3 F3 B (((s3.val ((hE1.up x2.ff).up x3.ff) i).val (hE2.up x3.ff) j).val hE3 l) fun _ => ⟨rfl, (x1.ff.trans x2.ff).trans x3.ff⟩⟩
    · cases h
  | .unp is e, X, sc, g, hp, p, h => by
    simp only [chkS] at h
    split at h
    · rename_i ts k tp v pos
      obtain ⟨h, h3⟩ := b2 h
      obtain ⟨h1, h2⟩ := b2 h
      have hs : swapsWithSole [.Tuple ts k tp] v pos.line X.env = pure false := by
        cases v <;> rfl
      refine ps_weak (ps_asg (sE e g _ h3).pe (tg_rel g (tg := .tup is) (show chkTg N sc (fun _ => true) (.tup is) (.Tuple ts k tp) = true from h1)) hs (swn g h2) rfl) fun Dd σ H ⟨B, F0, H0, F, st, o, s, hx, w⟩ => ?_
      simp only [ex] at hx
      obtain ⟨d, e1, hx⟩ := bind2 hx
      obtain ⟨st', e2, e3⟩ := Option.map_eq_some_iff.mp hx
      subst e3
      exact le_rel s e1 fun v' H' F' x s' hE => ⟨B, F0, H0, F', st, d, st', s', hE, e2, fun σ' r => w σ' H' F' B r fun _ => ⟨rfl, x.ff⟩⟩
    · cases h
  | .app i e, X, sc, g, hp, p, h => by
    simp only [chkS] at h
    split at h
    · obtain ⟨h, h6⟩ := b2 h
      obtain ⟨h, h5⟩ := b2 h
      obtain ⟨h, h4⟩ := b2 h
      obtain ⟨h, h3⟩ := b2 h
      obtain ⟨h1, h2⟩ := b2 h
      exact app_st g (dc h1) h2 (dc h3) h4 h5 (sE e g _ h6).pe
    · cases h
  | .extd i e, X, sc, g, hp, p, h => by
    simp only [chkS] at h
    split at h
    · obtain ⟨h, h6⟩ := b2 h
      obtain ⟨h, h5⟩ := b2 h
      obtain ⟨h, h4⟩ := b2 h
      obtain ⟨h, h3⟩ := b2 h
      obtain ⟨h1, h2⟩ := b2 h
      exact extd_st g (dc h1) h2 (dc h3) h4 h5 (sE e g _ h6).pe
    · cases h
  | .ins i k e, X, sc, g, hp, p, h => by
    simp only [chkS] at h
    split at h
    · obtain ⟨h, h8⟩ := b2 h
      obtain ⟨h, h7⟩ := b2 h
      obtain ⟨h, h6⟩ := b2 h
      obtain ⟨h, h5⟩ := b2 h
      obtain ⟨h, h4⟩ := b2 h
      obtain ⟨h, h3⟩ := b2 h
      obtain ⟨h1, h2⟩ := b2 h
      exact ins_st g (dc h1) h2 (dc h3) h4 h5 h6 (sE k g _ h7).pe (sE e g _ h8).pe
    · cases h
  | .sti i k e, X, sc, g, hp, p, h => by
    simp only [chkS] at h
    split at h
    · obtain ⟨h, h5⟩ := b2 h
      obtain ⟨h, h4⟩ := b2 h
      obtain ⟨h, h3⟩ := b2 h
      obtain ⟨h1, h2⟩ := b2 h
      exact sti_st g h1 (dc h2) h3 (sE k g _ h4).pe (sE e g _ h5).pe
    · cases h
  | .popL j i, X, sc, g, hp, p, h => by
    simp only [chkS] at h
    split at h
    · obtain ⟨h, h5⟩ := b2 h
      obtain ⟨h, h4⟩ := b2 h
      obtain ⟨h, h3⟩ := b2 h
      obtain ⟨h1, h2⟩ := b2 h
      exact popL_st g h1 (dc h2) h3 (dc h4) h5
    · cases h
  | .popT is i, X, sc, g, hp, p, h => by
    simp only [chkS] at h
    split at h
    · obtain ⟨h, h5⟩ := b2 h
      obtain ⟨h, h4⟩ := b2 h
      obtain ⟨h, h3⟩ := b2 h
      obtain ⟨h1, h2⟩ := b2 h
      exact popT_st g h1 (dc h2) h3 (dc h4) h5
    · cases h
  | .popX i, X, sc, g, hp, p, h => by
    simp only [chkS] at h
    split at h
    · obtain ⟨h, h4⟩ := b2 h
      obtain ⟨h, h3⟩ := b2 h
      obtain ⟨h1, h2⟩ := b2 h
      exact popX_st g (dc h1) h2 (dc h3) h4
    · cases h
  | .ret e, X, sc, g, hp, p, h => by
    simp only [chkS] at h
    split at h
    · refine ps_weak (ps_ret (sE e g _ h).pe) fun Dd σ H ⟨B, F0, H0, F, st, o, s, hx, w⟩ => ?_
      simp only [ex] at hx
      obtain ⟨d, e1, e2⟩ := Option.map_eq_some_iff.mp hx
      subst e2
      exact le_rel s e1 fun v H' F' x s' hE => w v H' F' s'.e hE
    · cases h
  | .retO i, X, sc, g, hp, p, h => by
    simp only [chkS] at h
    split at h
    · obtain ⟨h1, h2⟩ := b2 h
      refine ps_weak (ps_ret (pv_of g h1 (dc h2))) fun Dd σ H ⟨B, F0, H0, F, st, o, s, hx, w⟩ => ?_
      simp only [ex] at hx
      obtain ⟨ds, e1, e2⟩ := Option.map_eq_some_iff.mp hx
      subst e2
      obtain ⟨q, vs, k1, k2, k3, k4, k5, k6⟩ := own_of s (ownAt_some e1)
      exact ⟨.ref q, k1, w q H F vs s.e k5 k3 k2 k4⟩
    · cases h
  | .retF f, X, sc, g, hp, p, h => by
    simp only [chkS] at h
    split at h
    · refine ps_weak (ps_ret (sF f g _ h)) fun Dd σ H ⟨B, F0, H0, F, st, o, s, hx, w⟩ => ?_
      simp only [ex] at hx
      obtain ⟨ds, e1, e2⟩ := Option.map_eq_some_iff.mp hx
      subst e2
      refine ⟨F, st, ds, s.r, e1, fun q H' F' vs x hp fp hv ha => w q H' F' vs (s.e.trans x) ?_ fp hv ha⟩
      cases z : H0 q with
      | none => rfl
      | some o => rw [s.e.hh q o z] at hp; cases hp
    · cases h
  | .retN, X, sc, g, hp, p, h => by
    simp only [chkS] at h
    split at h
    · refine ps_weak ps_retN fun Dd σ H ⟨B, F0, H0, F, st, o, s, hx, w⟩ => ?_
      simp only [ex] at hx
      cases hx
      exact w .non H F s.e .non
    · cases h
  | .ite c a b, X, sc, g, hp, p, h => by
    simp only [chkS] at h
    split at h
    · obtain ⟨h, h4⟩ := b2 h
      obtain ⟨h, h3⟩ := b2 h
      obtain ⟨h1, h2⟩ := b2 h
      refine ps_weak (ps_if ((sE c g _ h1).pt h2) (sSs a g hp _ h3) (sSs b g hp _ h4)) fun Dd σ H ⟨B, F0, H0, F, st, o, s, hx, w⟩ => ?_
      simp only [ex] at hx
      obtain ⟨t, e1, e2⟩ := bind2 hx
      cases t with
      | bool k =>
        refine lt_rel s e1 fun H' F' x s' => ?_
        cases k with
        | true =>
          rw [if_pos rfl]
          exact ⟨B, F0, H0, F', st, o, s', e2, fin_ite (fun z => (b2 z).1) x.ff w⟩
        | false =>
          rw [if_neg Bool.false_ne_true]
          exact ⟨B, F0, H0, F', st, o, s', e2, fin_ite (fun z => (b2 z).2) x.ff w⟩
      | none => cases e2
      | int _ => cases e2
      | str _ => cases e2
      | list _ => cases e2
      | tuple _ => cases e2
      | dict _ => cases e2
    · cases h
  | .whl c b, X, sc, g, hp, p, h => by
    simp only [chkS] at h
    split at h
    · obtain ⟨h, hnm⟩ := b2 h
      obtain ⟨h, h3⟩ := b2 h
      obtain ⟨h1, h2⟩ := b2 h
      refine ps_weak (ps_while hp ((sE c g _ h1).pt h2) (sSs b g hp _ h3)) fun Dd σ H ⟨B, F0, H0, F, st, o, s, hx, w⟩ => ?_
      simp only [ex] at hx
      obtain ⟨n, hn⟩ := whileN_of hx
      refine ⟨fun m σ H => ∃ F1 st, RelS X.K B F0 H0 F1 H st σ ∧ Same F F1 ∧ whileN (fun s => ev Γ G c s) (fun s => exs Γ G b s) m st = some o, ⟨n, F, st, s, Same.refl _, hn⟩, ?_⟩
      rintro m σ1 H1 ⟨F1, st1, s1, sm, hm⟩
      cases m with
      | zero => cases hm
      | succ m =>
        obtain ⟨t, e1, e2⟩ := bind2 (show (ev Γ G c st1).bind _ = some o from hm)
        cases t with
        | bool k =>
          refine lt_rel s1 e1 fun H' F' x s' => ?_
          cases k with
          | true =>
            rw [if_pos rfl]
            obtain ⟨x1, f1, f2, f3, f4⟩ := thenO_some (show thenO (exs Γ G b st1) _ = some o from e2)
            refine ⟨fun σ' H' => ∃ F1 st, RelS X.K B F0 H0 F1 H' st σ' ∧ Same F F1 ∧ whileN (fun s => ev Γ G c s) (fun s => exs Γ G b s) m st = some o, fun σ' H' q => ⟨m, Nat.lt_succ_self m, q⟩, B, F0, H0, F', st1, x1, s', f1, ?_⟩
            cases x1 with
            | next st' =>
              intro σ' H2 F2 B2 r k
              obtain ⟨rfl, k2⟩ := k hnm
              exact ⟨F2, st', r, (sm.trans x.ff).trans k2, f2 st' rfl⟩
            | ret d =>
              have hq := f3 d rfl
              subst hq
              exact w
            | own d =>
              have hq := f4 d rfl
              subst hq
              exact w
          | false =>
            rw [if_neg Bool.false_ne_true]
            have e2' : some (Out.next st1) = some o := e2
            cases e2'
            exact w _ H' F' B s' fun _ => ⟨rfl, sm.trans x.ff⟩
        | none => cases e2
        | int _ => cases e2
        | str _ => cases e2
        | list _ => cases e2
        | tuple _ => cases e2
        | dict _ => cases e2
    · cases h
  | .forr tg it b, X, sc, g, hp, p, h => by
    simp only [chkS] at h
    split at h
    · rename_i t v xs pos
      obtain ⟨h, hnm⟩ := b2 h
      obtain ⟨h, h3⟩ := b2 h
      obtain ⟨h1, h2⟩ := b2 h
      have hi := sI it g t v h2
      refine ps_weak (ps_for hp g.calm hi.1 (tg_rel g h1) (sSs b g hp _ h3) hi.2) fun Dd σ H ⟨B, F0, H0, F, st, o, s, hx, w⟩ => ?_
      simp only [ex] at hx
      obtain ⟨ds, e1, e2⟩ := bind2 hx
      split at e2
      · rename_i hns
        refine ⟨F, st, ds, s.r, e1, fun J H1 F1 vs x1 ha gz hz gf => ?_⟩
        refine for_turns (g := LGs X.K tg) (tb := LSs Γ G X.K b) (q := nm b) (s.up x1) (gf hns) ha e2 (fin_mono x1.ff w) fun x d F2 H2 st2 σ2 o2 R s2 hE hf hnx hrt how => ?_
        obtain ⟨st3, f1, f2⟩ := bind2 hf
        refine ⟨_, _, _, F2, st2, d, st3, s2, hE, f1, fun σ' r => ⟨_, _, _, F2, st3, o2, r, f2, ?_⟩⟩
        cases o2 with
        | next st' =>
          intro σ'' H' F' B' r' k
          obtain ⟨rfl, k2⟩ := k hnm
          exact hnx st' rfl σ'' H' F' r' k2
        | ret r' => exact fun v H' F' x hE => hrt r' rfl v H' F' x hE
        | own r' => exact how r' rfl
      · cases e2
    · cases h
  | .pass, X, sc, g, hp, p, h => by
    simp only [chkS] at h
    split at h
    · refine ps_weak ps_pass fun Dd σ H ⟨B, F0, H0, F, st, o, s, hx, w⟩ => ?_
      simp only [ex] at hx
      cases hx
      exact w σ H F B s fun _ => ⟨rfl, Same.refl _⟩
    · cases h
  | .dead, X, sc, g, hp, p, h => ⟨fun _ _ σ H Dd _ ⟨B, F0, H0, F, st, o, s, hx, w⟩ => by
    simp only [ex] at hx
    cases hx⟩
theorem sSs : ∀ (s : Sms) {X : Cx} {sc : Scope}, GoodX X sc (fun _ => true) N bs cn gn Γ G lvl → PassesOwn (model X.prog X.w) X.A X.env X.xe → ∀ p : List Stmt, chkSs N bs cn gn sc s p = true → PSs X p (LSs Γ G X.K s)
  | .nil, X, sc, g, hp, p, h => by
    simp only [chkSs] at h
    split at h
    · refine pss_weak pss_nil fun Dd σ H ⟨B, F0, H0, F, st, o, s, hx, w⟩ => ?_
      simp only [exs] at hx
      cases hx
      exact w σ H F B s fun _ => ⟨rfl, Same.refl _⟩
    · cases h
  | .frz i r, X, sc, g, hp, p, h => by
    simp only [chkSs] at h
    refine pss_weak (sSs r g hp p h) fun Dd σ H ⟨B, F0, H0, F, st, o, s, hx, w⟩ => ?_
    simp only [exs] at hx
    obtain ⟨F', s', sf⟩ := s.frz i
    exact ⟨B, F0, H0, F', _, o, s', hx, fin_mono sf w⟩
  | .mark r, X, sc, g, hp, p, h => by
    simp only [chkSs] at h
    refine pss_weak (sSs r g hp p h) fun Dd σ H ⟨B, F0, H0, F, st, o, s, hx, w⟩ => ?_
    simp only [exs] at hx
    exact ⟨F, F0, H0, F, _, o, s.mark, hx, fin_false w⟩
  | .muts i ms r, X, sc, g, hp, p, h => by
    simp only [chkSs] at h
    obtain ⟨h1, h2⟩ := b2 h
    rw [← List.take_append_drop ms.length p]
    refine pss_weak (ms_ok g hp ms _ _ h1 (sSs r g hp _ h2)) fun Dd σ H ⟨B, F0, H0, F, st, o, s, hx, w⟩ => ?_
    simp only [exs] at hx
    split at hx
    · rename_i d hd
      split at hx
      · rename_i hc
        obtain ⟨hc, h5⟩ := b2 hc
        obtain ⟨h3, h4⟩ := b2 hc
        rw [decide_eq_true_eq] at h4
        obtain ⟨F', v, C, L, mi⟩ := s.muti hd
        exact ⟨B, F0, H0, F', st, drpA st, 0, v, C, L, d, mi, by unfold drpA; rw [List.length_map], h3, by omega, by simpa using h5, fun F2 H2 σ2 s2 => ⟨B, F0, H0, F2, _, o, s2, hx, fin_false w⟩⟩
      · cases hx
    · cases hx
  | .cons s r, X, sc, g, hp, p, h => by
    simp only [chkSs] at h
    split at h
    · obtain ⟨h1, h2⟩ := b2 h
      refine pss_weak (pss_cons (sS s g hp _ h1) (sSs r g hp _ h2)) fun Dd σ H ⟨B, F0, H0, F, st, o, s', hx, w⟩ => ?_
      simp only [exs] at hx
      obtain ⟨x, e1, e2, e3, e4⟩ := thenO_some hx
      refine ⟨B, F0, H0, F, st, x, s', e1, ?_⟩
      cases x with
      | next st' => exact fun σ' H' F' B' r' k => ⟨B', F0, H0, F', st', o, r', e2 st' rfl, fin_seq k w⟩
      | ret d =>
        have hq := e3 d rfl
        subst hq
        exact w
      | own d =>
        have hq := e4 d rfl
        subst hq
        exact w
    · cases h
end
end

/-! ### a def keeps its promise -/
theorem deeper_gd {A : Around} {env : Env} (gd : A.guards = some []) : (A.deeper env).guards = some [] := gd
theorem okG {P : Program} {w : World} {K : PySem.W.Frag} {mg : Str → Option Value} {base : Heap} {x qn : Str} {st : Stmt} {fa : Addr} {fu : FuncData} {N prm : List Str} {lv : Nat} {pr : Sp} (here : Fun K x qn st fa fu) (sc : FnScope N prm (defScope st))
    (many : ∀ vs H Q E, pr vs H Q E → vs.length = prm.length)
    (body : ∀ (cd : Value) (A : Around) (fs : List Env) (s : Shared) (H : Hp) (vs : List V) (Q : VK) (E : XK), Room lv (A.deeper (envOfC qn (defScope st) s.heap.objs.size fa cd)) → (A.deeper (envOfC qn (defScope st) s.heap.objs.size fa cd)).guards = some [] → pr vs H Q E →
      ∃ t, PSs (cxOf CX0 P w K mg base N qn (defScope st) fa cd A fs s H E).nox (defBody st) t ∧ t { nx := fun _ H2 => Q .non H2, rt := Q } (start N vs) H) :
    FnG P w K mg base (lv + 1) fa fu prm pr := by
  obtain ⟨w1, w2, w3, w4, w5, w6, cd, w7, w8, e, at_, code⟩ := here.ex
  subst e
  refine ⟨many, fun A fs s H ar us vs Q E room gd env binds vals wish => ?_⟩
  have len := many _ _ _ _ wish
  have old : ∀ b o, base.get? b = some o → s.heap.get? b = some o := fun b o z => (env.bs b o z).1
  have inK := env.mod.kin.keeps old
  have noL := env.mod.nolimit.keeps old
  obtain ⟨t, runs, reads⟩ := body cd A fs s H vs Q E (room.deeper _) (deeper_gd gd) wish
  have kinds : ∀ z ∈ prm.zip us, (defScope st).names.lookup z.1 = some .local ∨ ((defScope st).names.lookup z.1 = some .cell ∧ ((cellsFrom (s.heap.objs.size + 1) (defScope st).names []).lookup z.1).isSome = true) := by
    intro z hz
    cases sc.par z.1 (List.of_mem_zip (a := z.1) (b := z.2) hz).1 with
    | inl loc => exact .inl loc
    | inr cel => exact .inr ⟨cel, PySem.W.cellsFrom_some _ _ _ (.inl cel)⟩
  refine codeAny_call_function room.depth (inK _ _ at_) rfl sc.co sc.gen rfl (PySem.W.codeRec_of inK code) (binds _ _ _ _ (wpAny_newFunctionEnv_cells sc.kind kinds fun env' he s2 fresh => ?_))
  cases he
  refine ⟨noL.keeps fresh.toInCall.keep, codeAny_func ?_⟩
  have I : Inv (cxOf CX0 P w K mg base N qn (defScope st) fa cd A fs s H E) [] (start N vs) H s2 := inv_start sc room.hd env len vals fresh
  refine wpAny_mono (runs.nox.run [] s2 (start N vs) H _ I reads) (fun fl s3 got => ?_) fun _ _ z => z
  match fl, got with
  | .ret _, ⟨v, _, H3, J, rv, q⟩ => exact ⟨v, H3, J.os, J.bare, J.base, J.hok, rv, q⟩
  | .next, ⟨_, H3, J, q⟩ => exact ⟨.non, H3, J.os, J.bare, J.base, J.hok, rfl, q⟩
  | .brk, ⟨_, _, _, q⟩ => exact q.elim
  | .cont, ⟨_, _, _, q⟩ => exact q.elim
structure FP (P : Program) (w : World) (K : PySem.W.Frag) (mg : Str → Option Value) (base : Heap) (lvl : Nat) (nm : Str) (sem : Sem1) : Prop where
  ok : ∃ f fd ps, mg nm = some (.ref f) ∧ PySem.W.keepIn K (.ref f) = true ∧ Binds K fd ps [] ∧ FnG P w K mg base lvl f fd ps (spP K sem)
structure FPO (P : Program) (w : World) (K : PySem.W.Frag) (mg : Str → Option Value) (base : Heap) (lvl : Nat) (nm : Str) (sem : Sem1) : Prop where
  ok : ∃ f fd ps, mg nm = some (.ref f) ∧ PySem.W.keepIn K (.ref f) = true ∧ Binds K fd ps [] ∧ FnG P w K mg base lvl f fd ps (spO K sem)
theorem FPO.mono {P : Program} {w : World} {K : PySem.W.Frag} {mg : Str → Option Value} {base : Heap} {l l' : Nat} {nm : Str} {sem : Sem1} (h : FPO P w K mg base l nm sem) (e : l ≤ l') : FPO P w K mg base l' nm sem :=
  let ⟨f, fd, ps, a, b, c, d⟩ := h.ok
  ⟨f, fd, ps, a, b, c, d.mono e⟩
theorem FPO.fp {P : Program} {w : World} {K : PySem.W.Frag} {mg : Str → Option Value} {base : Heap} {l : Nat} {nm : Str} {Γ : List Sem1} {G : List D} {np n : Nat} {b : Sms} (h : FPO P w K mg base l nm (runO Γ G np n b)) : FP P w K mg base l nm (runO Γ G np n b) :=
  let ⟨f, fd, ps, a, b', c, d⟩ := h.ok
  ⟨f, fd, ps, a, b', c, d.imp fun vs H Q E ⟨F, ds, d, e, ha, hr, w⟩ => by
    have key : ∃ xs, d = .list xs := by
      unfold runO at hr
      split at hr
      · obtain ⟨o, _, e2⟩ := bind2 hr
        cases o with
        | own xs => cases e2; exact ⟨xs, rfl⟩
        | next _ => cases e2
        | ret _ => cases e2
      · cases hr
    obtain ⟨xs, rfl⟩ := key
    exact ⟨F, ds, xs, e, ha, hr, w.wf e⟩⟩
theorem FP.mono {P : Program} {w : World} {K : PySem.W.Frag} {mg : Str → Option Value} {base : Heap} {l l' : Nat} {nm : Str} {sem : Sem1} (h : FP P w K mg base l nm sem) (e : l ≤ l') : FP P w K mg base l' nm sem :=
  let ⟨f, fd, ps, a, b, c, d⟩ := h.ok
  ⟨f, fd, ps, a, b, c, d.mono e⟩
theorem fn_none {P : Program} {w : World} {K : PySem.W.Frag} {mg : Str → Option Value} {base : Heap} {lvl : Nat} {f : Addr} {fd : FuncData} {ps : List Str} : FnG P w K mg base lvl f fd ps (spP K fun _ => none) :=
  ⟨fun vs H Q E ⟨F, ds, d, e, ha, hr, hw⟩ => (nomatch hr), fun A outer s H args us vs Q E _ _ _ _ _ ⟨F, ds, d, e, ha, hr, hw⟩ => (nomatch hr)⟩
/-- what a def's callees, built-ins and constants are -/
structure Has (P : Program) (w : World) (K : PySem.W.Frag) (mg : Str → Option Value) (base : Heap) (lvl : Nat) (bs cn gn : List Str) (Γ : List Sem1) (G : List D) : Prop where
  blt : ∀ x ∈ bs, mg x = none
  fns : ∀ (j : Nat) (sem : Sem1), Γ[j]? = some sem → ∃ nm, cn[j]? = some nm ∧ FP P w K mg base lvl nm sem
  glb : ∀ (j : Nat) (d : D), G[j]? = some d → ∃ nm u v, gn[j]? = some nm ∧ mg nm = some u ∧ RelV v u ∧ ∀ F, En K F v d
  frs : ∀ (j : Nat) (sem : Sem1) (nm : Str), Γ[j]? = some sem → cn[j]? = some nm → gn.contains nm = true → FPO P w K mg base lvl nm sem
theorem fn_ok {P : Program} {w : World} {K : PySem.W.Frag} {mg : Str → Option Value} {base : Heap} {lvl : Nat} {bs cn gn : List Str} {Γ : List Sem1} {G : List D} (hs : Has P w K mg base lvl bs cn gn Γ G)
    {nm : Str} {st : Stmt} {f : Addr} {fd : FuncData} {N ps : List Str} (hf : Fun K nm nm st f fd) (S : FnScope N ps (defScope st)) (b : Sms) (hc : chkSs N bs cn gn (defScope st) b (defBody st) = true) :
    FnG P w K mg base (lvl + 1) f fd ps (spP K (run Γ G ps.length N.length b)) := by
  refine okG hf S (fun vs H Q E ⟨F, ds, d, e, ha, hr, w⟩ => ?_) (fun cdv A outer s H vs Q E hr hgd hsp => ?_)
  · unfold run at hr
    split at hr
    · rename_i hl
      rw [ha.length]; exact hl
    · cases hr
  · obtain ⟨F, ds, d, e, ha, hrun, hw⟩ := hsp
    unfold run at hrun
    split at hrun
    · rename_i hl
      obtain ⟨o, e1, e2⟩ := Option.map_eq_some_iff.mp hrun
      have g : GoodX (cxOf CX0 P w K mg base N nm (defScope st) f cdv A outer s H E).nox (defScope st) (fun _ => true) N bs cn gn Γ G lvl :=
        ⟨rfl, S.nd, rfl, S.kind, rfl, rfl, hr, hgd, hs.blt, fun j sem hj => by
          obtain ⟨nm', h1, ⟨f', fd', ps', h2, h3, h4, h5⟩⟩ := hs.fns j sem hj
          exact ⟨nm', f', fd', ps', h1, h2, h3, h4, h5⟩, hs.glb, fun j sem nm h1 h2 h3 => (hs.frs j sem nm h1 h2 h3).ok⟩
      refine ⟨_, sSs b g PassesOwn.never (defBody st) hc, F, F, H, F, _, o, RelS.start e ha N, ?_, ?_⟩
      · rw [ha.length, hl]
        exact e1
      · cases o with
        | next st' =>
          subst e2
          exact fun σ' H' F' B' r _ => hw .non H' F' r.e .non
        | ret d' =>
          subst e2
          exact fun v H' F' x hE => hw v H' F' x hE
        | own xs =>
          subst e2
          exact hw.wf e
    · cases hrun
theorem fn_okO {P : Program} {w : World} {K : PySem.W.Frag} {mg : Str → Option Value} {base : Heap} {lvl : Nat} {bs cn gn : List Str} {Γ : List Sem1} {G : List D} (hs : Has P w K mg base lvl bs cn gn Γ G)
    {nm : Str} {st : Stmt} {f : Addr} {fd : FuncData} {N ps : List Str} (hf : Fun K nm nm st f fd) (S : FnScope N ps (defScope st)) (b : Sms) (hc : chkSs N bs cn gn (defScope st) b (defBody st) = true) :
    FnG P w K mg base (lvl + 1) f fd ps (spO K (runO Γ G ps.length N.length b)) := by
  refine okG hf S (fun vs H Q E ⟨F, ds, d, e, ha, hr, w⟩ => ?_) (fun cdv A outer s H vs Q E hr hgd hsp => ?_)
  · unfold runO at hr
    split at hr
    · rename_i hl
      rw [ha.length]; exact hl
    · cases hr
  · obtain ⟨F, ds, xs, e, ha, hrun, hw⟩ := hsp
    unfold runO at hrun
    split at hrun
    · rename_i hl
      obtain ⟨o, e1, e2⟩ := bind2 hrun
      have g : GoodX (cxOf CX0 P w K mg base N nm (defScope st) f cdv A outer s H E).nox (defScope st) (fun _ => true) N bs cn gn Γ G lvl :=
        ⟨rfl, S.nd, rfl, S.kind, rfl, rfl, hr, hgd, hs.blt, fun j sem hj => by
          obtain ⟨nm', h1, ⟨f', fd', ps', h2, h3, h4, h5⟩⟩ := hs.fns j sem hj
          exact ⟨nm', f', fd', ps', h1, h2, h3, h4, h5⟩, hs.glb, fun j sem nm h1 h2 h3 => (hs.frs j sem nm h1 h2 h3).ok⟩
      refine ⟨_, sSs b g PassesOwn.never (defBody st) hc, F, F, H, F, _, o, RelS.start e ha N, ?_, ?_⟩
      · rw [ha.length, hl]
        exact e1
      · cases o with
        | next st' => cases e2
        | ret d' => cases e2
        | own ys =>
          cases e2
          exact hw
    · cases hrun
end PL
namespace PL
open PySem PySem.Spec PyProof.Rows L2

/-! ### the law's call, from a promise that wants no guard around -/
section
variable {P : Program} {w : World} {K : PySem.W.Frag} {mg mb : Str → Option Value} {lv : Nat} {fa at_ : Addr} {fu : FuncData} {prm : Str} {pr : Sp} {s : Shared} {vs : List Value} {ns : List Int}
/-- the script's list as it stands in the heap -/
def scrO (vs : List Value) : Obj := { cls := .type "list", data := .seq vs.toArray }
def Told (P : Program) (w : World) (fa at_ : Addr) (s : Shared) : Prop :=
  codeAny (model P w) callerA (.call (.ref fa) ⟨[.ref at_], []⟩) (fun out s2 => out = .ok (.ret (.bool true)) ∧ OldK s.heap s2.heap ∧ s2.os = s.os ∧ AllBare s2.gens) s
theorem told_from (inK : K.In s.heap) (gMain : s.heap.Ns mainGlobals mg) (gBuilt : s.heap.Ns builtinsNs mb) (boot : ∀ z : Str, z ≠ "__name__" → mb z = bootBuiltins z) (noL : s.heap.NoLimit) (noG : s.gens = #[])
    (scr : s.heap.get? at_ = some (scrO vs)) (room : Room lv callerA) (G : ∀ base : Heap, FnG P w K mg base lv fa fu [prm] pr) (binds : ∀ (s : Shared) (u : Value), BindsTo s fu ⟨[u], []⟩ [(prm, u)])
    {H : Hp} (only : Only H) (okH : HOk P w H s.heap) (one : ∀ b, H b ≠ none → b = at_) (ownK : H at_ ≠ none → K.lookup at_ = none) (wish : pr [.ref at_] H (fun v _ => v = .bl true) fun _ _ _ => False) : Told P w fa at_ s := by
  have hid : ∀ {b : Addr} {o : Obj}, s.heap.get? b = some o → (H b ≠ none → False) → (hidT s.heap H).get? b = some o := by
    intro b o eq no
    refine hidT_get eq ?_
    rcases h : H b with _ | u
    · rfl
    · exact (no (by rw [h]; exact Option.some_ne_none u)).elim
  have notDict : ∀ {b : Addr} {o : Obj} {es : Array DictEntry} {ep : Nat}, s.heap.get? b = some o → o.data = .dict es ep → H b ≠ none → False := by
    intro b o es ep eq isd tr
    rw [one b tr, scr] at eq
    injection eq with eq
    rw [← eq] at isd
    injection isd
  have names : ∀ {b : Addr} {m : Str → Option Value}, s.heap.Ns b m → (hidT s.heap H).Ns b m := fun ⟨o, es, ep, eq, isd, rest⟩ => ⟨o, es, ep, hid eq (notDict eq isd), isd, rest⟩
  have base : K.In (hidT s.heap H) := fun b o eq => hid (inK b o eq) fun tr => by
    have z := ownK (one b tr ▸ tr)
    rw [← one b tr, eq] at z
    cases z
  have env : Env0 P w K mg (hidT s.heap H) callerA [] s H := by
    refine ⟨rfl, ⟨base, names gMain, ⟨mb, names gBuilt, boot⟩, ?_⟩, fun b o eq => of_hidT eq, Nat.le_of_eq (hidT_size _ _), trivial, fun b hb => ?_, okH, .of_eq noG⟩
    · obtain ⟨m, m1, m2⟩ := noL
      exact ⟨m, names m1, m2⟩
    · exact absurd (show b ∈ ([] : List Addr) from hb) (List.not_mem_nil)
  refine codeAny_mono ((G (hidT s.heap H)).goes callerA [] s H ⟨[.ref at_], []⟩ [.ref at_] [.ref at_] _ _ room rfl env (binds s _) (.cons rfl .nil) wish) fun out s2 fin => ?_
  match out, fin with
  | .error _, fin => exact fin.elim
  | .ok .next, fin => exact fin.elim
  | .ok .brk, fin => exact fin.elim
  | .ok .cont, fin => exact fin.elim
  | .ok (.ret u), ⟨v, H2, sameOs, bare, un, ok2, rv, isT⟩ =>
    cases (isT : v = .bl true)
    cases (rv : u = Value.bool true)
    refine ⟨rfl, OldK.of_keep fun b o eq => ?_, sameOs, bare⟩
    rcases only b with no | ⟨ob, xs, fz⟩
    · exact un.keep b o eq no (fun z => absurd (show b ∈ ([] : List Addr) from z) List.not_mem_nil) List.not_mem_nil
    · have now := (okH b _ fz).1
      rw [eq] at now
      injection now with now
      rw [now]
      exact (ok2 b _ (un.frzs b ob _ fz)).1
theorem told_of (inK : K.In s.heap) (gMain : s.heap.Ns mainGlobals mg) (gBuilt : s.heap.Ns builtinsNs mb) (boot : ∀ z : Str, z ≠ "__name__" → mb z = bootBuiltins z) (noL : s.heap.NoLimit) (noG : s.gens = #[])
    (scr : s.heap.get? at_ = some (scrO vs)) (areI : IntsAre vs ns) (few : ns.length ≤ sizeLine) (room : Room lv callerA) (G : ∀ base : Heap, FnG P w K mg base lv fa fu [prm] pr) (binds : ∀ (s : Shared) (u : Value), BindsTo s fu ⟨[u], []⟩ [(prm, u)])
    (wish : ∀ H : Hp, SqL K H at_ (ns.map V.int) → pr [.ref at_] H (fun v _ => v = .bl true) fun _ _ _ => False) : Told P w fa at_ s := by
  have same := areI.length
  have vals := vals_ints areI
  rcases known : K.lookup at_ with _ | o
  · -- not the module's: it is tracked
    let H : Hp := fun b => if b = at_ then some (.frz (scrO vs) (.lst (ns.map V.int))) else none
    have at1 : H at_ = some (.frz (scrO vs) (.lst (ns.map V.int))) := if_pos rfl
    have off : ∀ b, b ≠ at_ → H b = none := fun b ne => if_neg ne
    have one : ∀ b, H b ≠ none → b = at_ := fun b h => Classical.byContradiction fun ne => h (off b ne)
    refine told_from (H := H) inK gMain gBuilt boot noL noG scr room G binds (fun b => ?_) (fun b u eq => ?_) one (fun _ => known) (wish H (.inl (.inr ⟨_, at1⟩)))
    · rcases Classical.em (b = at_) with rfl | ne
      · exact .inr ⟨_, _, at1⟩
      · exact .inl (off b ne)
    · have e : b = at_ := one b (by rw [eq]; exact Option.some_ne_none u)
      subst e
      rw [at1] at eq
      injection eq with eq
      subst eq
      exact ⟨scr, by rw [List.length_map]; exact few, vs, _, vals, scr⟩
  · -- one of the module's own objects
    have eq := inK at_ o known
    rw [scr] at eq
    injection eq with eq
    subst eq
    have size : vs.toArray.size ≤ sizeLine := by rw [List.size_toArray, same]; exact few
    exact told_from (H := fun _ => none) inK gMain gBuilt boot noL noG scr room G binds (fun _ => .inl rfl) (fun b u z => nomatch z) (fun b z => (z rfl).elim) (fun z => (z rfl).elim)
      (wish _ (.inr ⟨_, vs.toArray, _, known, rfl, rfl, rfl, size, by simpa using vals⟩))
end
theorem walk_G {l : PySem.W.OpenLaw} {n lv : Nat} {q : Program} {loose : List Str} {XP : (Str → Option Value) → Heap → Prop} {YP : World → Heap → Prop} {d : DefRec} {K : Params → PySem.W.Frag} {pr : World → Sp} {prm : Str}
    (most : l.most = some n) (fit : n ≤ sizeLine) (nodf : d.params.defaults = []) (room : Room lv callerA) (inK : ∀ (w : World) (h : Heap), YP w h → (K w.params).In h)
    (F : ∀ (w : World) (mg : Str → Option Value) (fa : Addr) (h : Heap), (K w.params).In h → h.Ns mainGlobals mg → mg d.name = some (.ref fa) →
      ∃ fu : FuncData, (∀ (s : Shared) (u : Value), BindsTo s fu ⟨[u], []⟩ [(prm, u)]) ∧ ∀ base : Heap, FnG l.prog w (K w.params) mg base lv fa fu [prm] (pr w))
    (wish : ∀ (w : World) (H : Hp) (at_ : Addr) (ns : List Int), ns.length ≤ n → SqL (K w.params) H at_ (ns.map V.int) → pr w [.ref at_] H (fun v _ => v = .bl true) fun _ _ _ => False) :
    PySem.W.WalkO q loose XP YP l.row.toRowW d [] (fun f vs => PySem.call f vs) :=
  Att.attach_call most nodf fun w _ s mg _ fa _ _ _ _ at_ _ ns G Y _ _ _ gm obj areI len noG => by
    obtain ⟨fu, binds, prom⟩ := F w mg fa _ (inK w _ Y) G.T.g gm
    exact told_of (inK w _ Y) G.T.g G.T.b G.T.builtins G.T.nolimit noG obj areI (Nat.le_trans len fit) room prom binds fun H sq => wish w H at_ ns len sq
end PL
namespace PL
open PySem PySem.Spec PyProof.Rows L2
/-- a tuple that the program keeps among its globals -/
theorem en_tupK {K : PySem.W.Frag} {a : Addr} {od : Option Addr} {its : Array Value} {n : Nat} {sl : Array (Option Value)} {us : List Value} {vs : List V} {ds : List D}
    (l : K.lookup a = some ⟨.type "tuple", od, .seq its n, sl⟩) (i : its.toList = us) (hz : us.length ≤ sizeLine) (hv : Vals vs us) (hE : ∀ F, EnAll K F vs ds) : ∀ F, En K F (.ref a) (.tuple ds) := fun F =>
  .tup (.inr ⟨_, its, n, l, rfl, rfl, by rw [← i] at hz; simpa using hz, by rw [i]; exact hv⟩) (hE F)
end PL
namespace PL
/-! ### sizes -/
def Sz (n : Nat) (x : Int) : Prop := x.natAbs < 2 ^ n
theorem Sz.mono {n m : Nat} {x : Int} (h : Sz n x) (e : n ≤ m) : Sz m x := Nat.lt_of_lt_of_le h (Nat.pow_le_pow_right (by decide) e)
theorem Sz.neg {n : Nat} {x : Int} (h : Sz n x) : Sz n (-x) := by unfold Sz at *; rw [Int.natAbs_neg]; exact h
theorem Sz.mul {n m : Nat} {x y : Int} (h : Sz n x) (k : Sz m y) : Sz (n + m) (x * y) := by
  unfold Sz at *
  rw [Int.natAbs_mul, Nat.pow_add]
  exact Nat.mul_lt_mul'' h k
theorem Sz.add {n : Nat} {x y : Int} (h : Sz n x) (k : Sz n y) : Sz (n + 1) (x + y) := by
  unfold Sz at *
  have := Int.natAbs_add_le x y
  rw [Nat.pow_succ]
  omega
theorem Sz.sub {n : Nat} {x y : Int} (h : Sz n x) (k : Sz n y) : Sz (n + 1) (x - y) := by
  rw [Int.sub_eq_add_neg]
  exact h.add k.neg
theorem Sz.of {n : Nat} {x : Int} (h1 : -(2 ^ n) < x) (h2 : x < 2 ^ n) : Sz n x := by
  unfold Sz
  have e : ((2 ^ n : Nat) : Int) = (2 : Int) ^ n := by simp
  omega
theorem Sz.le {n : Nat} {x y : Int} (h : Sz n y) (e : x.natAbs ≤ y.natAbs) : Sz n x := Nat.lt_of_le_of_lt e h
theorem log2_le {n : Nat} {x : Int} (h : Sz n x) : x.natAbs.log2 ≤ n := by
  unfold Sz at h
  by_cases h0 : x.natAbs = 0
  · rw [h0, show Nat.log2 0 = 0 from by decide]; exact Nat.zero_le n
  · exact Nat.le_of_lt ((Nat.log2_lt h0).mpr h)

/-! ### lengths -/
structure Ln where
  p : Int
  q : Int
  s : Int
  deriving DecidableEq
theorem Ln.eta' (a : Ln) : (⟨a.p, a.q, a.s⟩ : Ln) = a := rfl
def g3 (p q s : Int) : Nat := Nat.gcd (Nat.gcd p.natAbs q.natAbs) s.natAbs
def d3 (p q s : Int) : Int := if s < 0 then -(g3 p q s : Int) else (g3 p q s : Int)
def nrm (p q s : Int) : Ln := ⟨p.fdiv (d3 p q s), q.fdiv (d3 p q s), s.fdiv (d3 p q s)⟩
structure Nf (a : Ln) : Prop where
  pos : 0 < a.s
  one : g3 a.p a.q a.s = 1
theorem g3_dvd (p q s : Int) : (g3 p q s : Int) ∣ p ∧ (g3 p q s : Int) ∣ q ∧ (g3 p q s : Int) ∣ s := by
  have h1 : g3 p q s ∣ Nat.gcd p.natAbs q.natAbs := Nat.gcd_dvd_left _ _
  have h2 : g3 p q s ∣ s.natAbs := Nat.gcd_dvd_right _ _
  exact ⟨Int.ofNat_dvd_left.mpr (Nat.dvd_trans h1 (Nat.gcd_dvd_left _ _)), Int.ofNat_dvd_left.mpr (Nat.dvd_trans h1 (Nat.gcd_dvd_right _ _)), Int.ofNat_dvd_left.mpr h2⟩
theorem g3_pos {p q s : Int} (h : s ≠ 0) : 0 < g3 p q s := Nat.gcd_pos_of_pos_right _ (by omega)
theorem dvd_g3 {p q s : Int} {k : Nat} (h1 : (k : Int) ∣ p) (h2 : (k : Int) ∣ q) (h3 : (k : Int) ∣ s) : k ∣ g3 p q s :=
  Nat.dvd_gcd (Nat.dvd_gcd (Int.ofNat_dvd_left.mp h1) (Int.ofNat_dvd_left.mp h2)) (Int.ofNat_dvd_left.mp h3)
theorem d3_abs (p q s : Int) : (d3 p q s).natAbs = g3 p q s := by unfold d3; split <;> omega
theorem d3_ne {p q s : Int} (h : s ≠ 0) : d3 p q s ≠ 0 := by
  have := g3_pos (p := p) (q := q) h
  have := d3_abs p q s
  omega
theorem d3_dvd (p q s : Int) : d3 p q s ∣ p ∧ d3 p q s ∣ q ∧ d3 p q s ∣ s := by
  obtain ⟨h1, h2, h3⟩ := g3_dvd p q s
  unfold d3
  split
  · exact ⟨Int.neg_dvd.mpr h1, Int.neg_dvd.mpr h2, Int.neg_dvd.mpr h3⟩
  · exact ⟨h1, h2, h3⟩
theorem fdiv_mul_of_dvd {a d : Int} (h : d ∣ a) : d * a.fdiv d = a := Int.mul_fdiv_cancel' h
theorem nrm_mul (p q s : Int) : d3 p q s * (nrm p q s).p = p ∧ d3 p q s * (nrm p q s).q = q ∧ d3 p q s * (nrm p q s).s = s := by
  obtain ⟨h1, h2, h3⟩ := d3_dvd p q s
  exact ⟨fdiv_mul_of_dvd h1, fdiv_mul_of_dvd h2, fdiv_mul_of_dvd h3⟩
theorem nrm_pos {p q s : Int} (h : s ≠ 0) : 0 < (nrm p q s).s := by
  obtain ⟨_, _, h3⟩ := nrm_mul p q s
  have hg := g3_pos (p := p) (q := q) h
  by_cases c : s < 0
  · have hd : d3 p q s = -(g3 p q s : Int) := by unfold d3; rw [if_pos c]
    rw [hd] at h3
    by_cases k : 0 < (nrm p q s).s
    · exact k
    · have : -(g3 p q s : Int) * (nrm p q s).s ≥ 0 := by
        have := Int.mul_nonneg_of_nonpos_of_nonpos (a := -(g3 p q s : Int)) (b := (nrm p q s).s) (by omega) (by omega)
        exact this
      omega
  · have hd : d3 p q s = (g3 p q s : Int) := by unfold d3; rw [if_neg c]
    rw [hd] at h3
    by_cases k : 0 < (nrm p q s).s
    · exact k
    · have := Int.mul_nonpos_of_nonneg_of_nonpos (a := (g3 p q s : Int)) (b := (nrm p q s).s) (by omega) (by omega)
      omega
theorem nrm_nf {p q s : Int} (h : s ≠ 0) : Nf (nrm p q s) := by
  refine ⟨nrm_pos h, ?_⟩
  obtain ⟨h1, h2, h3⟩ := nrm_mul p q s
  have hg := g3_pos (p := p) (q := q) h
  let k := g3 (nrm p q s).p (nrm p q s).q (nrm p q s).s
  obtain ⟨k1, k2, k3⟩ := g3_dvd (nrm p q s).p (nrm p q s).q (nrm p q s).s
  have e : ∀ {x y : Int}, (k : Int) ∣ x → d3 p q s * x = y → ((g3 p q s * k : Nat) : Int) ∣ y := fun {x y} hx hy => by
    rw [← hy, ← Int.dvd_natAbs, Int.natAbs_mul, d3_abs]
    rw [Int.natCast_dvd_natCast]
    exact Nat.mul_dvd_mul_left _ (Int.ofNat_dvd_left.mp hx)
  have := dvd_g3 (e k1 h1) (e k2 h2) (e k3 h3)
  have h4 : g3 p q s * k ≤ g3 p q s * 1 := by rw [Nat.mul_one]; exact Nat.le_of_dvd hg this
  have h5 : k ≤ 1 := Nat.le_of_mul_le_mul_left h4 hg
  have h6 : 0 < k := g3_pos (by have := nrm_pos (p := p) (q := q) h; omega)
  show k = 1
  omega
/-- two in lowest terms that are crosswise the same are the same -/
theorem nf_eq {a b : Ln} (ha : Nf a) (hb : Nf b) (h1 : a.p * b.s = b.p * a.s) (h2 : a.q * b.s = b.q * a.s) : a = b := by
  have key : ∀ {a b : Ln}, Nf a → Nf b → a.p * b.s = b.p * a.s → a.q * b.s = b.q * a.s → (a.s.natAbs) ∣ (b.s.natAbs) := fun {a b} ha hb h1 h2 => by
    have e1 : a.s.natAbs ∣ a.p.natAbs * b.s.natAbs := by
      rw [← Int.natAbs_mul, h1, Int.natAbs_mul]; exact Nat.dvd_mul_left _ _
    have e2 : a.s.natAbs ∣ a.q.natAbs * b.s.natAbs := by
      rw [← Int.natAbs_mul, h2, Int.natAbs_mul]; exact Nat.dvd_mul_left _ _
    have e3 : a.s.natAbs ∣ a.s.natAbs * b.s.natAbs := Nat.dvd_mul_right _ _
    have e4 : a.s.natAbs ∣ g3 a.p a.q a.s * b.s.natAbs := by
      unfold g3
      rw [← Nat.gcd_mul_right, ← Nat.gcd_mul_right]
      exact Nat.dvd_gcd (Nat.dvd_gcd e1 e2) e3
    rw [ha.one, Nat.one_mul] at e4
    exact e4
  have d1 := key ha hb h1 h2
  have d2 := key hb ha h1.symm h2.symm
  have es : a.s = b.s := by
    have := Nat.dvd_antisymm d1 d2
    have := ha.pos
    have := hb.pos
    omega
  have hs : b.s ≠ 0 := by have := hb.pos; omega
  cases a with | mk ap aq as =>
  cases b with | mk bp bq bs =>
  simp only at *
  subst es
  rw [Int.mul_eq_mul_right_iff hs] at h1 h2
  rw [h1, h2]
theorem nrm_cross {p q s : Int} (h : s ≠ 0) : (nrm p q s).p * s = p * (nrm p q s).s ∧ (nrm p q s).q * s = q * (nrm p q s).s := by
  obtain ⟨h1, h2, h3⟩ := nrm_mul p q s
  constructor <;> grind
theorem cancel {a b c : Int} (h : c ≠ 0) (e : c * a = c * b) : a = b := Int.eq_of_mul_eq_mul_left h e
theorem nrm_eq {p q s p' q' s' : Int} (h : s ≠ 0) (h' : s' ≠ 0) (e1 : p * s' = p' * s) (e2 : q * s' = q' * s) : nrm p q s = nrm p' q' s' := by
  obtain ⟨a1, a2⟩ := nrm_cross (p := p) (q := q) h
  obtain ⟨b1, b2⟩ := nrm_cross (p := p') (q := q') h'
  refine nf_eq (nrm_nf h) (nrm_nf h') ?_ ?_
  · refine cancel (c := s * s') (Int.mul_ne_zero h h') ?_
    grind
  · refine cancel (c := s * s') (Int.mul_ne_zero h h') ?_
    grind
theorem nrm_id {a : Ln} (h : Nf a) : nrm a.p a.q a.s = a := by
  have hs : a.s ≠ 0 := by have := h.pos; omega
  obtain ⟨a1, a2⟩ := nrm_cross (p := a.p) (q := a.q) hs
  exact nf_eq (nrm_nf hs) h a1 a2
theorem nrm_inj {p q s p' q' s' : Int} (h : s ≠ 0) (h' : s' ≠ 0) (e : nrm p q s = nrm p' q' s') : p * s' = p' * s ∧ q * s' = q' * s := by
  obtain ⟨a1, a2⟩ := nrm_cross (p := p) (q := q) h
  obtain ⟨b1, b2⟩ := nrm_cross (p := p') (q := q') h'
  have hp := nrm_pos (p := p) (q := q) h
  rw [← e] at b1 b2
  constructor
  · refine cancel (c := (nrm p q s).s) (by omega) ?_
    grind
  · refine cancel (c := (nrm p q s).s) (by omega) ?_
    grind
/-! ### sizes of lengths -/
theorem nrm_abs {p q s : Int} (h : s ≠ 0) : (nrm p q s).p.natAbs ≤ p.natAbs ∧ (nrm p q s).q.natAbs ≤ q.natAbs ∧ (nrm p q s).s.natAbs ≤ s.natAbs := by
  obtain ⟨h1, h2, h3⟩ := nrm_mul p q s
  have hd := d3_ne (p := p) (q := q) h
  have key : ∀ {d x y : Int}, d ≠ 0 → d * x = y → x.natAbs ≤ y.natAbs := fun {d x y} hd e => by
    rw [← e, Int.natAbs_mul]
    exact Nat.le_mul_of_pos_left _ (by omega)
  exact ⟨key hd h1, key hd h2, key hd h3⟩
structure Gd (n : Nat) (a : Ln) : Prop where
  nf : Nf a
  p : Sz n a.p
  q : Sz n a.q
  s : Sz n a.s
theorem Gd.mono {n m : Nat} {a : Ln} (h : Gd n a) (e : n ≤ m) : Gd m a := ⟨h.nf, h.p.mono e, h.q.mono e, h.s.mono e⟩
theorem gd_nrm {n : Nat} {p q s : Int} (h : s ≠ 0) (hp : Sz n p) (hq : Sz n q) (hs : Sz n s) : Gd n (nrm p q s) :=
  let ⟨a, b, c⟩ := nrm_abs (p := p) (q := q) h
  ⟨nrm_nf h, hp.le a, hq.le b, hs.le c⟩
theorem Gd.ne {n : Nat} {a : Ln} (h : Gd n a) : a.s ≠ 0 := by have := h.nf.pos; omega

/-! ### reckoning -/
def whl (p : Int) : Ln := ⟨p, 0, 1⟩
def addL (a b : Ln) : Ln := nrm (a.p * b.s + b.p * a.s) (a.q * b.s + b.q * a.s) (a.s * b.s)
def negL (a : Ln) : Ln := ⟨-a.p, -a.q, a.s⟩
def subL (a b : Ln) : Ln := addL a (negL b)
def mulL (d : Int) (a b : Ln) : Ln := nrm (a.p * b.p + d * a.q * b.q) (a.p * b.q + a.q * b.p) (a.s * b.s)
def twinL (a : Ln) : Ln := ⟨a.p, -a.q, a.s⟩
def invL (d : Int) (a : Ln) : Ln := nrm (a.s * a.p) (-a.s * a.q) (a.p * a.p - d * a.q * a.q)
def divL (d : Int) (a b : Ln) : Ln := mulL d a (invL d b)
theorem g3_neg (p q s : Int) : g3 (-p) (-q) s = g3 p q s ∧ g3 p (-q) s = g3 p q s := by unfold g3; simp
theorem Nf.neg {a : Ln} (h : Nf a) : Nf (negL a) := ⟨h.pos, by unfold negL; rw [(g3_neg _ _ _).1]; exact h.one⟩
theorem Nf.twin {a : Ln} (h : Nf a) : Nf (twinL a) := ⟨h.pos, by unfold twinL; rw [(g3_neg _ _ _).2]; exact h.one⟩
theorem nf_whl (p : Int) : Nf (whl p) := ⟨Int.one_pos, by unfold g3 whl; simp⟩
theorem Gd.neg {n : Nat} {a : Ln} (h : Gd n a) : Gd n (negL a) := ⟨h.nf.neg, h.p.neg, h.q.neg, h.s⟩
theorem Gd.twin {n : Nat} {a : Ln} (h : Gd n a) : Gd n (twinL a) := ⟨h.nf.twin, h.p, h.q.neg, h.s⟩
theorem ne_mul {a b : Int} (h : a ≠ 0) (k : b ≠ 0) : a * b ≠ 0 := Int.mul_ne_zero h k
/-- what an operation is of lengths that are not in lowest terms -/
theorem addL_nrm {p q s p' q' s' : Int} (h : s ≠ 0) (h' : s' ≠ 0) : addL (nrm p q s) (nrm p' q' s') = nrm (p * s' + p' * s) (q * s' + q' * s) (s * s') := by
  obtain ⟨a1, a2⟩ := nrm_cross (p := p) (q := q) h
  obtain ⟨b1, b2⟩ := nrm_cross (p := p') (q := q') h'
  have hp := nrm_pos (p := p) (q := q) h
  have hp' := nrm_pos (p := p') (q := q') h'
  refine nrm_eq (ne_mul (by omega) (by omega)) (ne_mul h h') ?_ ?_ <;> grind
theorem negL_nrm {p q s : Int} (h : s ≠ 0) : negL (nrm p q s) = nrm (-p) (-q) s := by
  obtain ⟨a1, a2⟩ := nrm_cross (p := p) (q := q) h
  obtain ⟨b1, b2⟩ := nrm_cross (p := -p) (q := -q) h
  have hp := nrm_pos (p := p) (q := q) h
  have hp' := nrm_pos (p := -p) (q := -q) h
  refine nf_eq (nrm_nf h).neg (nrm_nf h) ?_ ?_
  · show -(nrm p q s).p * _ = _ * (nrm p q s).s
    refine cancel h ?_
    grind
  · show -(nrm p q s).q * _ = _ * (nrm p q s).s
    refine cancel h ?_
    grind
theorem twinL_nrm {p q s : Int} (h : s ≠ 0) : twinL (nrm p q s) = nrm p (-q) s := by
  obtain ⟨a1, a2⟩ := nrm_cross (p := p) (q := q) h
  obtain ⟨b1, b2⟩ := nrm_cross (p := p) (q := -q) h
  refine nf_eq (nrm_nf h).twin (nrm_nf h) ?_ ?_
  · show (nrm p q s).p * _ = _ * (nrm p q s).s
    refine cancel h ?_
    grind
  · show -(nrm p q s).q * _ = _ * (nrm p q s).s
    refine cancel h ?_
    grind
theorem mulL_nrm {d p q s p' q' s' : Int} (h : s ≠ 0) (h' : s' ≠ 0) : mulL d (nrm p q s) (nrm p' q' s') = nrm (p * p' + d * q * q') (p * q' + q * p') (s * s') := by
  obtain ⟨a1, a2⟩ := nrm_cross (p := p) (q := q) h
  obtain ⟨b1, b2⟩ := nrm_cross (p := p') (q := q') h'
  have hp := nrm_pos (p := p) (q := q) h
  have hp' := nrm_pos (p := p') (q := q') h'
  refine nrm_eq (ne_mul (by omega) (by omega)) (ne_mul h h') ?_ ?_ <;> grind
theorem invL_nrm {d p q s : Int} (h : s ≠ 0) (hn : p * p - d * q * q ≠ 0) : invL d (nrm p q s) = nrm (s * p) (-s * q) (p * p - d * q * q) := by
  obtain ⟨a1, a2, a3⟩ := nrm_mul p q s
  have hd := d3_ne (p := p) (q := q) h
  have hn' : (nrm p q s).p * (nrm p q s).p - d * (nrm p q s).q * (nrm p q s).q ≠ 0 := fun z => hn (by
    generalize nrm p q s = x at *
    generalize d3 p q s = y at *
    grind)
  refine nrm_eq hn' hn ?_ ?_
  · generalize nrm p q s = x at *
    generalize d3 p q s = y at *
    grind
  · generalize nrm p q s = x at *
    generalize d3 p q s = y at *
    grind
/-! ### roots that are no squares -/
def NS (d : Int) : Prop := ∃ a : Int, 0 ≤ a ∧ a * a < d ∧ d < (a + 1) * (a + 1)
theorem ns_nat {d a : Nat} (h1 : a * a < d) (h2 : d < (a + 1) * (a + 1)) : ∀ (q p : Nat), p * p = d * (q * q) → q = 0 := by
  intro q
  induction q using Nat.strongRecOn with
  | ind q ih =>
    intro p e
    by_cases hq : q = 0
    · exact hq
    · have hq' : 0 < q := Nat.pos_of_ne_zero hq
      have b1 : a * q < p := by
        by_cases c : a * q < p
        · exact c
        · have c1 : p * p ≤ (a * q) * (a * q) := Nat.mul_le_mul (by omega) (by omega)
          have c2 : (a * q) * (a * q) = (a * a) * (q * q) := by grind
          have c3 : (a * a) * (q * q) < d * (q * q) := Nat.mul_lt_mul_of_pos_right h1 (Nat.mul_pos hq' hq')
          omega
      have b2 : p < (a + 1) * q := by
        by_cases c : p < (a + 1) * q
        · exact c
        · have c1 : ((a + 1) * q) * ((a + 1) * q) ≤ p * p := Nat.mul_le_mul (by omega) (by omega)
          have c2 : ((a + 1) * q) * ((a + 1) * q) = ((a + 1) * (a + 1)) * (q * q) := by grind
          have c3 : d * (q * q) < ((a + 1) * (a + 1)) * (q * q) := Nat.mul_lt_mul_of_pos_right h2 (Nat.mul_pos hq' hq')
          omega
      have b3 : (a + 1) * q = a * q + q := by grind
      have b4 : a * p ≤ d * q := by
        have c1 : a * p * q ≤ d * q * q := by
          have c2 : a * q * p ≤ p * p := Nat.mul_le_mul_right _ (by omega)
          have c3 : a * p * q = a * q * p := by grind
          have c4 : d * q * q = d * (q * q) := by grind
          omega
        exact Nat.le_of_mul_le_mul_right c1 hq'
      obtain ⟨r, hr⟩ : ∃ r, p = a * q + r := ⟨p - a * q, by omega⟩
      obtain ⟨t, ht⟩ : ∃ t, d * q = a * p + t := ⟨d * q - a * p, by omega⟩
      have := ih r (by omega) t (by
        have e1 : (t : Int) = d * q - a * p := by
          have : ((d * q : Nat) : Int) = ((a * p + t : Nat) : Int) := by rw [ht]
          simp at this
          omega
        have e2 : (r : Int) = p - a * q := by
          have : ((p : Nat) : Int) = ((a * q + r : Nat) : Int) := by rw [← hr]
          simp at this
          omega
        have e3 : ((p : Int)) * p = d * (q * q) := by exact_mod_cast e
        have : ((t * t : Nat) : Int) = ((d * (r * r) : Nat) : Int) := by
          simp only [Int.natCast_mul]
          rw [e1, e2]
          grind
        exact_mod_cast this)
      omega
theorem NS.zero {d p q : Int} (h : NS d) (e : p * p - d * q * q = 0) : p = 0 ∧ q = 0 := by
  obtain ⟨a, h0, h1, h2⟩ := h
  have hd : 0 ≤ d := by
    have := Int.mul_nonneg h0 h0
    omega
  have ea : (a.natAbs : Int) = a := by omega
  have ed : (d.natAbs : Int) = d := by omega
  have n1 : a.natAbs * a.natAbs < d.natAbs := by
    have : ((a.natAbs * a.natAbs : Nat) : Int) < (d.natAbs : Int) := by
      simp only [Int.natCast_mul]
      rw [ea, ed]; exact h1
    exact_mod_cast this
  have n2 : d.natAbs < (a.natAbs + 1) * (a.natAbs + 1) := by
    have : (d.natAbs : Int) < (((a.natAbs + 1) * (a.natAbs + 1) : Nat) : Int) := by
      simp only [Int.natCast_mul, Int.natCast_add]
      rw [ea, ed]; exact h2
    exact_mod_cast this
  have key := ns_nat n1 n2 q.natAbs p.natAbs (by
    have e1 : p * p = d * (q * q) := by grind
    have := congrArg Int.natAbs e1
    rw [Int.natAbs_mul, Int.natAbs_mul, Int.natAbs_mul] at this
    exact this)
  have hq : q = 0 := by omega
  subst hq
  have hp : p * p = 0 := by grind
  have := Int.mul_eq_zero.mp hp
  exact ⟨by omega, rfl⟩
theorem NS.ne {d : Int} (h : NS d) {p q : Int} (e : p ≠ 0 ∨ q ≠ 0) : p * p - d * q * q ≠ 0 := fun z => by
  obtain ⟨h1, h2⟩ := h.zero z
  omega
end PL
namespace PL
open PySem PySem.Spec PyProof.Rows L2
/-! ### tools -/
theorem whileP_eq (c : Sto → Option D) (b : Sto → Option Out) (st : Sto) : whileP c b st = (c st).bind fun t => match t with
    | .bool true => thenO (b st) (whileP c b)
    | .bool false => some (.next st)
    | _ => none := by
  rw [whileP]; rfl
/-- a while loop, a for loop: their runs -/
def whB (Γ : List Sem1) (G : List D) (c : Ex) (b : Sms) (st : Sto) : Option Out := whileP (fun s => ev Γ G c s) (fun s => exs Γ G b s) st
def forB (Γ : List Sem1) (G : List D) (tg : Tg) (b : Sms) (ds : List D) (st : Sto) : Option Out := forL (fun d s => (bindTg tg d s).bind fun s1 => exs Γ G b s1) ds st
theorem whB_true {Γ : List Sem1} {G : List D} {c : Ex} {b : Sms} {st st' : Sto} {o : Option Out} (h : ev Γ G c st = some (.bool true)) (k : exs Γ G b st = some (.next st')) (r : whB Γ G c b st' = o) : whB Γ G c b st = o := by
  unfold whB
  rw [whileP_eq, h]
  show thenO (exs Γ G b st) _ = o
  rw [k]; exact r
theorem whB_false {Γ : List Sem1} {G : List D} {c : Ex} {b : Sms} {st : Sto} (h : ev Γ G c st = some (.bool false)) : whB Γ G c b st = some (.next st) := by
  unfold whB
  rw [whileP_eq, h]; rfl
theorem run_ret {Γ : List Sem1} {G : List D} {np n : Nat} {b : Sms} {ds : List D} {d : D} (hl : ds.length = np) (h : exs Γ G b (ds.map .val ++ List.replicate (n - np) .no) = some (.ret d)) : run Γ G np n b ds = some d := by
  unfold run
  rw [if_pos hl, h]
  rfl
section
variable {Γ : List Sem1} {G : List D} {s : Sm} {r : Sms} {st st' : Sto} {o : Option Out} {d : D} {c : Ex} {a b : Sms} {tg : Tg} {it : Ir} {ds : List D}
theorem exs_step (h : ex Γ G s st = some (.next st')) (k : exs Γ G r st' = o) : exs Γ G (.cons s r) st = o := by
  show thenO (ex Γ G s st) (fun st' => exs Γ G r st') = o
  rw [h]; exact k
theorem exs_ret (h : ex Γ G s st = some (.ret d)) : exs Γ G (.cons s r) st = some (.ret d) := by
  show thenO (ex Γ G s st) (fun st' => exs Γ G r st') = _
  rw [h]; rfl
theorem exs_frz {i : Nat} (h : exs Γ G r (frz1 i st) = o) : exs Γ G (.frz i r) st = o := h
theorem ex_whl (h : whB Γ G c b st = o) : ex Γ G (.whl c b) st = o := h
theorem ex_for (h1 : evI Γ G it st = some ds) (h2 : noSlot it = true) (h3 : forB Γ G tg b ds st = o) : ex Γ G (.forr tg it b) st = o := by
  show (evI Γ G it st).bind _ = o
  rw [h1]
  show (if noSlot it then forL _ ds st else none) = o
  rw [if_pos h2]; exact h3
theorem ex_then (h : ev Γ G c st = some (.bool true)) (k : exs Γ G a st = o) : ex Γ G (.ite c a b) st = o := by
  show (ev Γ G c st).bind _ = o
  rw [h]; exact k
theorem ex_else (h : ev Γ G c st = some (.bool false)) (k : exs Γ G b st = o) : ex Γ G (.ite c a b) st = o := by
  show (ev Γ G c st).bind _ = o
  rw [h]; exact k
theorem ex_set {i : Nat} {e : Ex} (h : ev Γ G e st = some d) : ex Γ G (.set i e) st = some (.next (put st i (.val d))) := by
  show (ev Γ G e st).map _ = _
  rw [h]; rfl
theorem ex_setF {i : Nat} {f : Fx} (h : evF Γ G f st = some ds) : ex Γ G (.setF i f) st = some (.next (put st i (.own ds))) := by
  show (evF Γ G f st).map _ = _
  rw [h]; rfl
theorem ex_return {e : Ex} (h : ev Γ G e st = some d) : ex Γ G (.ret e) st = some (.ret d) := by
  show (ev Γ G e st).map _ = _
  rw [h]; rfl
end
theorem forL_inv {f : D → Sto → Option Out} {ds : List D} (P : Nat → Sto → Prop) {st : Sto} (h0 : P 0 st) (hs : ∀ i d s, ds[i]? = some d → P i s → ∃ s', f d s = some (.next s') ∧ P (i + 1) s') : ∃ s', forL f ds st = some (.next s') ∧ P ds.length s' := by
  have key : ∀ (k : Nat) (es : List D) (s : Sto), es = ds.drop k → k ≤ ds.length → P k s → ∃ s', forL f es s = some (.next s') ∧ P ds.length s' := by
    intro k es
    induction es generalizing k with
    | nil =>
      intro s e hk p
      have : ds.length ≤ k := List.drop_eq_nil_iff.mp e.symm
      have : k = ds.length := by omega
      subst this
      exact ⟨s, rfl, p⟩
    | cons d r ih =>
      intro s e hk p
      have hlt : k < ds.length := by
        by_cases c : k < ds.length
        · exact c
        · rw [List.drop_of_length_le (by omega)] at e; cases e
      rw [List.drop_eq_getElem_cons hlt] at e
      injection e with e1 e2
      obtain ⟨s', q1, q2⟩ := hs k d s (by rw [List.getElem?_eq_getElem hlt, e1]) p
      obtain ⟨s2, q3, q4⟩ := ih (k + 1) s' e2 hlt q2
      exact ⟨s2, by show thenO (f d s) (forL f r) = _; rw [q1]; exact q3, q4⟩
  exact key 0 ds st rfl (Nat.zero_le _) h0
theorem forB_inv {Γ : List Sem1} {G : List D} {tg : Tg} {b : Sms} {ds : List D} (P : Nat → Sto → Prop) {st : Sto} (h0 : P 0 st) (hs : ∀ i d s, ds[i]? = some d → P i s → ∃ s1 s', bindTg tg d s = some s1 ∧ exs Γ G b s1 = some (.next s') ∧ P (i + 1) s') : ∃ s', forB Γ G tg b ds st = some (.next s') ∧ P ds.length s' :=
  forL_inv P h0 fun i d s hd p => by
    obtain ⟨s1, s', e1, e2, e3⟩ := hs i d s hd p
    exact ⟨s', by rw [e1]; exact e2, e3⟩
theorem forB_nil {Γ : List Sem1} {G : List D} {tg : Tg} {b : Sms} {st : Sto} : forB Γ G tg b [] st = some (.next st) := rfl
theorem forB_cons {Γ : List Sem1} {G : List D} {tg : Tg} {b : Sms} {d : D} {ds : List D} {st s1 s' : Sto} {o : Option Out} (h1 : bindTg tg d st = some s1) (h2 : exs Γ G b s1 = some (.next s')) (h3 : forB Γ G tg b ds s' = o) : forB Γ G tg b (d :: ds) st = o := by
  show thenO ((bindTg tg d st).bind fun s1 => exs Γ G b s1) _ = o
  rw [h1]
  show thenO (exs Γ G b s1) _ = o
  rw [h2]; exact h3
theorem forB_ret {Γ : List Sem1} {G : List D} {tg : Tg} {b : Sms} {d r : D} {ds : List D} {st s1 : Sto} (h1 : bindTg tg d st = some s1) (h2 : exs Γ G b s1 = some (.ret r)) : forB Γ G tg b (d :: ds) st = some (.ret r) := by
  show thenO ((bindTg tg d st).bind fun s1 => exs Γ G b s1) _ = _
  rw [h1]
  show thenO (exs Γ G b s1) _ = _
  rw [h2]; rfl
/-- a loop that may leave with an answer: all turns go on -/
theorem forL_all {f : D → Sto → Option Out} {ds : List D} {st : Sto} (P : Sto → Prop) (h0 : P st) (hs : ∀ d s, d ∈ ds → P s → ∃ s', f d s = some (.next s') ∧ P s') : ∃ s', forL f ds st = some (.next s') ∧ P s' := by
  obtain ⟨s', e, p⟩ := forL_inv (f := f) (ds := ds) (fun _ s => P s) h0 fun i d s hd p => hs d s (List.mem_of_getElem? hd) p
  exact ⟨s', e, p⟩
theorem compL_map {f : D → Option (Option D)} {g : D → D} {ds : List D} (h : ∀ d ∈ ds, f d = some (some (g d))) : compL f ds = some (ds.map g) := by
  induction ds with
  | nil => rfl
  | cons d r ih =>
    have e1 := h d List.mem_cons_self
    have e2 := ih fun x hx => h x (List.mem_cons_of_mem _ hx)
    simp [compL, e1, e2]
theorem compL_filter {f : D → Option (Option D)} {p : D → Bool} {g : D → D} {ds : List D} (h : ∀ d ∈ ds, f d = some (if p d then some (g d) else none)) : compL f ds = some ((ds.filter p).map g) := by
  induction ds with
  | nil => rfl
  | cons d r ih =>
    have e1 := h d List.mem_cons_self
    have e2 := ih fun x hx => h x (List.mem_cons_of_mem _ hx)
    cases c : p d <;> simp [compL, e1, e2, c]
@[simp] theorem atI_map {α β : Type} (f : α → β) (xs : List α) (i : Int) : atI (xs.map f) i = (atI xs i).map f := by
  unfold atI
  rw [List.length_map]
  cases ixN xs.length i <;> simp
theorem atI_of {α : Type} {xs : List α} {i : Int} {j : Nat} {v : α} (e : i = (j : Int)) (h : xs[j]? = some v) : atI xs i = some v := by
  subst e
  exact atI_nat h
theorem atI_nn {α : Type} {xs : List α} {i : Int} (h0 : 0 ≤ i) (h1 : i < xs.length) : atI xs i = some (xs[i.toNat]'(by omega)) := by
  obtain ⟨n, rfl⟩ : ∃ n : Nat, i = n := ⟨i.toNat, by omega⟩
  exact atI_nat (by rw [List.getElem?_eq_getElem (by omega)]; rfl)
theorem rngL_get {lo hi : Int} {i : Nat} {d : D} (h : (rngL lo hi)[i]? = some d) : d = .int (lo + (i : Int)) ∧ (i : Int) < hi - lo := by
  unfold rngL at h
  rw [List.getElem?_map] at h
  by_cases c : i < (hi - lo).toNat
  · rw [List.getElem?_range c] at h
    cases h
    exact ⟨rfl, by omega⟩
  · rw [List.getElem?_eq_none (by simpa using c)] at h
    cases h
theorem rngL_len (lo hi : Int) : (rngL lo hi).length = (hi - lo).toNat := by simp [rngL]
theorem rng_of {lo hi : Int} (h1 : -1000000 ≤ lo) (h2 : lo ≤ 1000000) (h3 : -1000000 ≤ hi) (h4 : hi ≤ 1000000) : rngOk lo hi = true := by
  unfold rngOk
  simp only [Bool.and_eq_true, decide_eq_true_eq]
  have := sizeLine_eq
  refine ⟨⟨?_, ?_⟩, ?_⟩ <;> omega
theorem mulOk_of {n m : Nat} {x y : Int} (h : Sz n x) (k : Sz m y) (e : n + m < 1000000) : mulOk x y = true := by
  have := log2_le h
  have := log2_le k
  unfold mulOk
  exact decide_eq_true (by omega)
theorem divOk_of {n : Nat} {y : Int} (h : y ≠ 0) (k : Sz n y) (e : n < 9000) : dvOk y = true := by
  have := log2_le k
  exact decide_eq_true ⟨h, by omega⟩
/-! ### lengths as data -/
def encL (a : Ln) : D := .tuple [.int a.p, .int a.q, .int a.s]
theorem encL_inj {a b : Ln} (h : encL a = encL b) : a = b := by
  cases a; cases b
  simp [encL] at h
  simp [h]
@[simp] theorem canLay_encL (a : Ln) : (encL a).canLay0 = true := by simp [encL, PyData.canLay0, PyData.canLayAll0]
@[simp] theorem depth_encL (a : Ln) : (encL a).depth = 1 := by simp [encL, PyData.depth, PyData.depthAll]
theorem eqv_encL (a b : Ln) : PyData.eqv (encL a) (encL b) = decide (a = b) := by
  cases a with | mk p q s =>
  cases b with | mk p' q' s' =>
  simp only [encL, PyData.eqv, PyData.eqvAll, Bool.and_true]
  by_cases h : (⟨p, q, s⟩ : Ln) = ⟨p', q', s'⟩
  · cases h; simp
  · rw [decide_eq_false h]
    by_cases h1 : p = p'
    · by_cases h2 : q = q'
      · by_cases h3 : s = s'
        · exact absurd (by rw [h1, h2, h3]) h
        · simp [h3]
      · simp [h2]
    · simp [h1]
theorem eqOk_encL (a b : Ln) : eqOk (encL a) (encL b) = true := by simp [eqOk]
theorem gd_add {n m : Nat} {a b : Ln} (h : Gd n a) (k : Gd m b) : Gd (n + m + 1) (addL a b) := by
  refine gd_nrm (ne_mul h.ne k.ne) ((h.p.mul k.s).add ?_) ((h.q.mul k.s).add ?_) ((h.s.mul k.s).mono (by omega))
  · rw [Nat.add_comm]; exact k.p.mul h.s
  · rw [Nat.add_comm]; exact k.q.mul h.s
theorem gd_sub {n m : Nat} {a b : Ln} (h : Gd n a) (k : Gd m b) : Gd (n + m + 1) (subL a b) := gd_add h k.neg
theorem gd_mul {n m : Nat} {d : Int} {a b : Ln} (hd : Sz 6 d) (h : Gd n a) (k : Gd m b) : Gd (n + m + 7) (mulL d a b) := by
  refine gd_nrm (ne_mul h.ne k.ne) ?_ ?_ ((h.s.mul k.s).mono (by omega))
  · refine Sz.add (n := n + m + 6) ((h.p.mul k.p).mono (by omega)) (((hd.mul h.q).mul k.q).mono (by omega))
  · exact (((h.p.mul k.q).mono (by omega)).add (n := n + m + 6) ((h.q.mul k.p).mono (by omega)))
theorem gd_inv {n : Nat} {d : Int} {a : Ln} (hd : Sz 6 d) (h : Gd n a) (hn : a.p * a.p - d * a.q * a.q ≠ 0) : Gd (n + n + 7) (invL d a) := by
  refine gd_nrm hn ((h.s.mul h.p).mono (by omega)) ((h.s.neg.mul h.q).mono (by omega)) ?_
  exact Sz.sub (n := n + n + 6) ((h.p.mul h.p).mono (by omega)) (((hd.mul h.q).mul h.q).mono (by omega))
theorem gd_whl {n : Nat} {p : Int} (h : Sz n p) (e : 0 < n) : Gd n (whl p) := ⟨nf_whl p, h, Nat.two_pow_pos n, by
  show (1 : Int).natAbs < 2 ^ n
  exact Nat.one_lt_two_pow (by omega)⟩
end PL
namespace PL
open PySem PySem.Spec PyProof.Rows L2
/-! ### more tools -/
@[simp] theorem atI_c0 {α : Type} (x : α) (xs : List α) : atI (x :: xs) 0 = some x := atI_nat (j := 0) rfl
@[simp] theorem atI_c1 {α : Type} (x y : α) (xs : List α) : atI (x :: y :: xs) 1 = some y := atI_nat (j := 1) rfl
@[simp] theorem atI_c2 {α : Type} (x y z : α) (xs : List α) : atI (x :: y :: z :: xs) 2 = some z := atI_nat (j := 2) rfl
@[simp] theorem atI_c3 {α : Type} (x y z w : α) (xs : List α) : atI (x :: y :: z :: w :: xs) 3 = some w := atI_nat (j := 3) rfl
theorem encL_tu (a : Ln) : encL a = .tuple [.int a.p, .int a.q, .int a.s] := rfl
theorem comp_of {Γ : List Sem1} {G : List D} {x : Ex} {tg : Tg} {it : Ir} {f : Oe} {w : List Nat} {st : Sto} {ds es : List D} (h1 : evI Γ G it st = some ds)
    (h2 : compL (fun d => (bindTg tg d (wipeS st w)).bind fun st1 => (evC Γ G f st1).bind fun b => if b then (ev Γ G x st1).map some else some none) ds = some es) : evF Γ G (.comp x tg it f w) st = some es := by
  show (evI Γ G it st).bind _ = _
  rw [h1]; exact h2
theorem fmod_nat (k n : Nat) : (k : Int).fmod n = ((k % n : Nat) : Int) := by
  rw [Int.fmod_eq_emod_of_nonneg _ (by omega)]; rfl
@[simp] theorem eqv_int (i j : Int) : PyData.eqv (.int i) (.int j) = decide (i = j) := by
  show (i == j) = _
  exact rfl
@[simp] theorem canLayAll_ints (ys : List Int) : PyData.canLayAll0 (ys.map PyData.int) = true := by
  induction ys with
  | nil => rfl
  | cons y r ih => exact ih
theorem depthAll_ints (ys : List Int) : PyData.depthAll (ys.map PyData.int) = 0 := by
  induction ys with
  | nil => rfl
  | cons y r ih =>
    show max 0 (PyData.depthAll (r.map PyData.int)) = 0
    rw [ih]; rfl
@[simp] theorem shaped_int (x : Int) : SeqAt.shaped (.int x) = true := rfl
@[simp] theorem shaped_ints (ys : List Int) : SeqAt.shaped (.list (ys.map .int)) = true := by
  simp [SeqAt.shaped, PyData.canLay0, PyData.depth, depthAll_ints]
theorem inD_ints (x : Int) (ys : List Int) : inD (.int x) (.list (ys.map .int)) = some (decide (x ∈ ys)) := by
  show (if SeqAt.shaped (.int x) && SeqAt.shaped (.list (ys.map .int)) then some ((ys.map .int).any fun z => PyData.eqv z (.int x)) else none) = _
  rw [shaped_int, shaped_ints]
  show some _ = some _
  congr 1
  induction ys with
  | nil => rfl
  | cons y r ih =>
    rw [List.map_cons, List.any_cons, ih, eqv_int]
    by_cases c : y = x
    · subst c; simp
    · have c' : x ≠ y := fun h => c h.symm
      simp [c, c']
/-! ### the kinds of a value -/
theorem isI_int (d : D) : o1D (.isI "int") d = (kitB (tyN d) "int").map .bool := by
  simp only [o1D]
  rw [if_pos (by simp)]
theorem isI_bool (d : D) : o1D (.isI "bool") d = (kitB (tyN d) "bool").map .bool := by
  simp only [o1D]
  rw [if_neg (by decide), if_pos (by simp)]
theorem isI_str (d : D) : o1D (.isI "str") d = (kitB (tyN d) "str").map .bool := by
  simp only [o1D]
  rw [if_neg (by decide), if_neg (by decide), if_pos (by simp)]
theorem isI_list (d : D) : o1D (.isI "list") d = (kitB (tyN d) "list").map .bool := by
  simp only [o1D]
  rw [if_neg (by decide), if_neg (by decide), if_neg (by decide), if_pos (by simp)]
theorem isI_tuple (d : D) : o1D (.isI "tuple") d = (kitB (tyN d) "tuple").map .bool := by
  simp only [o1D]
  rw [if_neg (by decide), if_neg (by decide), if_neg (by decide), if_neg (by decide), if_pos (by simp)]
@[simp] theorem kb_int_int : kitB "int" "int" = some true := by decide +kernel
@[simp] theorem kb_bool_int : kitB "bool" "int" = some true := by decide +kernel
@[simp] theorem kb_str_int : kitB "str" "int" = some false := by decide +kernel
@[simp] theorem kb_list_int : kitB "list" "int" = some false := by decide +kernel
@[simp] theorem kb_tuple_int : kitB "tuple" "int" = some false := by decide +kernel
@[simp] theorem kb_NoneType_int : kitB "NoneType" "int" = some false := by decide +kernel
@[simp] theorem sn_bool_int : (Str.ofString "bool" = Str.ofString "int") = False := by decide
@[simp] theorem sn_str_int : (Str.ofString "str" = Str.ofString "int") = False := by decide
@[simp] theorem sn_list_int : (Str.ofString "list" = Str.ofString "int") = False := by decide
@[simp] theorem sn_tuple_int : (Str.ofString "tuple" = Str.ofString "int") = False := by decide
@[simp] theorem kb_int_bool : kitB "int" "bool" = some false := by decide +kernel
@[simp] theorem kb_bool_bool : kitB "bool" "bool" = some true := by decide +kernel
@[simp] theorem kb_str_bool : kitB "str" "bool" = some false := by decide +kernel
@[simp] theorem kb_list_bool : kitB "list" "bool" = some false := by decide +kernel
@[simp] theorem kb_tuple_bool : kitB "tuple" "bool" = some false := by decide +kernel
@[simp] theorem kb_NoneType_bool : kitB "NoneType" "bool" = some false := by decide +kernel
@[simp] theorem sn_int_bool : (Str.ofString "int" = Str.ofString "bool") = False := by decide
@[simp] theorem sn_str_bool : (Str.ofString "str" = Str.ofString "bool") = False := by decide
@[simp] theorem sn_list_bool : (Str.ofString "list" = Str.ofString "bool") = False := by decide
@[simp] theorem sn_tuple_bool : (Str.ofString "tuple" = Str.ofString "bool") = False := by decide
@[simp] theorem kb_int_str : kitB "int" "str" = some false := by decide +kernel
@[simp] theorem kb_bool_str : kitB "bool" "str" = some false := by decide +kernel
@[simp] theorem kb_str_str : kitB "str" "str" = some true := by decide +kernel
@[simp] theorem kb_list_str : kitB "list" "str" = some false := by decide +kernel
@[simp] theorem kb_tuple_str : kitB "tuple" "str" = some false := by decide +kernel
@[simp] theorem kb_NoneType_str : kitB "NoneType" "str" = some false := by decide +kernel
@[simp] theorem sn_int_str : (Str.ofString "int" = Str.ofString "str") = False := by decide
@[simp] theorem sn_bool_str : (Str.ofString "bool" = Str.ofString "str") = False := by decide
@[simp] theorem sn_list_str : (Str.ofString "list" = Str.ofString "str") = False := by decide
@[simp] theorem sn_tuple_str : (Str.ofString "tuple" = Str.ofString "str") = False := by decide
@[simp] theorem kb_int_list : kitB "int" "list" = some false := by decide +kernel
@[simp] theorem kb_bool_list : kitB "bool" "list" = some false := by decide +kernel
@[simp] theorem kb_str_list : kitB "str" "list" = some false := by decide +kernel
@[simp] theorem kb_list_list : kitB "list" "list" = some true := by decide +kernel
@[simp] theorem kb_tuple_list : kitB "tuple" "list" = some false := by decide +kernel
@[simp] theorem kb_NoneType_list : kitB "NoneType" "list" = some false := by decide +kernel
@[simp] theorem sn_int_list : (Str.ofString "int" = Str.ofString "list") = False := by decide
@[simp] theorem sn_bool_list : (Str.ofString "bool" = Str.ofString "list") = False := by decide
@[simp] theorem sn_str_list : (Str.ofString "str" = Str.ofString "list") = False := by decide
@[simp] theorem sn_tuple_list : (Str.ofString "tuple" = Str.ofString "list") = False := by decide
@[simp] theorem kb_int_tuple : kitB "int" "tuple" = some false := by decide +kernel
@[simp] theorem kb_bool_tuple : kitB "bool" "tuple" = some false := by decide +kernel
@[simp] theorem kb_str_tuple : kitB "str" "tuple" = some false := by decide +kernel
@[simp] theorem kb_list_tuple : kitB "list" "tuple" = some false := by decide +kernel
@[simp] theorem kb_tuple_tuple : kitB "tuple" "tuple" = some true := by decide +kernel
@[simp] theorem kb_NoneType_tuple : kitB "NoneType" "tuple" = some false := by decide +kernel
@[simp] theorem sn_int_tuple : (Str.ofString "int" = Str.ofString "tuple") = False := by decide
@[simp] theorem sn_bool_tuple : (Str.ofString "bool" = Str.ofString "tuple") = False := by decide
@[simp] theorem sn_str_tuple : (Str.ofString "str" = Str.ofString "tuple") = False := by decide
@[simp] theorem sn_list_tuple : (Str.ofString "list" = Str.ofString "tuple") = False := by decide
def fxAt : Nat → Sms → Fx
  | 0, .cons (.setF _ f) _ => f
  | n + 1, .cons _ r => fxAt n r
  | n, .frz _ r => fxAt n r
  | _, _ => .lst .nil
theorem compL_ints {f : D → Option (Option D)} {P : Int → Prop} : ∀ {ds : List D}, (∀ d ∈ ds, ∃ y, P y ∧ f d = some (some (.int y))) → ∃ ys : List Int, ys.length = ds.length ∧ (∀ y ∈ ys, P y) ∧ compL f ds = some (ys.map .int)
  | [], _ => ⟨[], rfl, fun _ h => absurd h (by simp), rfl⟩
  | d :: r, h => by
    obtain ⟨y, p, e⟩ := h d List.mem_cons_self
    obtain ⟨ys, l, q, e2⟩ := compL_ints fun x hx => h x (List.mem_cons_of_mem _ hx)
    refine ⟨y :: ys, by simp [l], ?_, by simp [compL, e, e2]⟩
    intro z hz
    rcases List.mem_cons.mp hz with hz | hz
    · subst hz; exact p
    · exact q z hz
theorem comp_ints {Γ : List Sem1} {G : List D} {x : Ex} {tg : Tg} {it : Ir} {f : Oe} {w : List Nat} {st : Sto} {ds : List D} {P : Int → Prop} (h1 : evI Γ G it st = some ds)
    (h2 : ∀ d ∈ ds, ∃ y, P y ∧ ((bindTg tg d (wipeS st w)).bind fun st1 => (evC Γ G f st1).bind fun b => if b then (ev Γ G x st1).map some else some none) = some (some (.int y))) : ∃ ys : List Int, ys.length = ds.length ∧ (∀ y ∈ ys, P y) ∧ evF Γ G (.comp x tg it f w) st = some (ys.map .int) := by
  obtain ⟨ys, l, q, e⟩ := compL_ints h2
  exact ⟨ys, l, q, comp_of h1 e⟩
theorem rngL_mem {lo hi : Int} {d : D} (h : d ∈ rngL lo hi) : ∃ i : Int, d = .int i ∧ lo ≤ i ∧ i < hi := by
  unfold rngL at h
  obtain ⟨i, h1, e⟩ := List.mem_map.mp h
  have := List.mem_range.mp h1
  exact ⟨_, e.symm, by omega, by omega⟩
theorem ex_par2 {Γ : List Sem1} {G : List D} {i j : Nat} {a b : Ex} {st : Sto} {x y : D} (h1 : ev Γ G a st = some x) (h2 : ev Γ G b st = some y) : ex Γ G (.par2 i j a b) st = some (.next (put (put st i (.val x)) j (.val y))) := by
  simp only [ex, h1, h2, Option.bind_some, Option.map_some]
theorem ev_call {Γ : List Sem1} {G : List D} {g : Nat} {es : Exs} {st : Sto} {ds : List D} {f : Sem1} {d : D} (h1 : evs Γ G es st = some ds) (h2 : Γ[g]? = some f) (h3 : f ds = some d) : ev Γ G (.call g es) st = some d := by
  simp only [ev, h1, h2, Option.bind_some, h3]
theorem abs_eq (x : Int) : (if x < 0 then -x else x) = (x.natAbs : Int) := by split <;> omega
theorem d3_ok {p q s : Int} {n : Nat} (h : s ≠ 0) (hs : Sz n s) (e : n < 9000) : dvOk (d3 p q s) = true := by
  refine divOk_of (n := n) (d3_ne h) ?_ e
  have hg := d3_abs p q s
  have hp : 0 < s.natAbs := by omega
  have hd : g3 p q s ∣ s.natAbs := Nat.gcd_dvd_right _ _
  have := Nat.le_of_dvd hp hd
  unfold Sz at *
  omega
theorem fmod_bd (x : Int) {m : Int} (h : 0 < m) : 0 ≤ x.fmod m ∧ x.fmod m < m := ⟨Int.fmod_nonneg_of_pos x h, Int.fmod_lt_of_pos x h⟩
theorem sz100 {x : Int} (h0 : -1000000000000000000 ≤ x) (h1 : x ≤ 1000000000000000000) : Sz 100 x := by
  unfold Sz
  have : (2 : Nat) ^ 100 = 1267650600228229401496703205376 := by decide
  omega
theorem mulOk_bd {x y : Int} (h0 : -1000000000000000000 ≤ x) (h1 : x ≤ 1000000000000000000) (k0 : -1000000000000000000 ≤ y) (k1 : y ≤ 1000000000000000000) : mulOk x y = true := mulOk_of (sz100 h0 h1) (sz100 k0 k1) (by decide)
theorem dv_of {y : Int} (h : y ≠ 0) (k0 : -1000000000000000000 ≤ y) (k1 : y ≤ 1000000000000000000) : dvOk y = true := divOk_of h (sz100 k0 k1) (by decide)
@[simp] theorem eqv_bool (x y : Bool) : PyData.eqv (.bool x) (.bool y) = (x == y) := by
  cases x <;> cases y <;> rfl
@[simp] theorem eqOk_int (i j : Int) : eqOk (.int i) (.int j) = true := rfl
@[simp] theorem eqOk_bool (i j : Bool) : eqOk (.bool i) (.bool j) = true := rfl
theorem ev_o2 {Γ : List Sem1} {G : List D} {o : O2} {a b : Ex} {st : Sto} {x y d : D} (h1 : ev Γ G a st = some x) (h2 : ev Γ G b st = some y) (h3 : o2D o x y = some d) : ev Γ G (.o2 o a b) st = some d := by
  simp only [ev, h1, h2, Option.bind_some, h3]
theorem ev_o1 {Γ : List Sem1} {G : List D} {o : O1} {a : Ex} {st : Sto} {x d : D} (h1 : ev Γ G a st = some x) (h3 : o1D o x = some d) : ev Γ G (.o1 o a) st = some d := by
  simp only [ev, h1, Option.bind_some, h3]
theorem ev_not {Γ : List Sem1} {G : List D} {a : Ex} {st : Sto} {x : Bool} (h1 : ev Γ G a st = some (.bool x)) : ev Γ G (.not a) st = some (.bool (!x)) := by
  simp only [ev, h1, Option.bind_some]
theorem exs_ite_ret {Γ : List Sem1} {G : List D} {c : Ex} {a b r : Sms} {st : Sto} {d : D} (h : ev Γ G c st = some (.bool true)) (k : exs Γ G a st = some (.ret d)) : exs Γ G (.cons (.ite c a b) r) st = some (.ret d) := exs_ret (ex_then h k)
theorem ex_par3 {Γ : List Sem1} {G : List D} {i j l : Nat} {a b c : Ex} {st : Sto} {x y z : D} (h1 : ev Γ G a st = some x) (h2 : ev Γ G b st = some y) (h3 : ev Γ G c st = some z) : ex Γ G (.par3 i j l a b c) st = some (.next (put (put (put st i (.val x)) j (.val y)) l (.val z))) := by
  simp only [ex, h1, h2, h3, Option.bind_some, Option.map_some]
theorem forB_all {Γ : List Sem1} {G : List D} {tg : Tg} {b : Sms} {ds : List D} {st : Sto} (P : Sto → Prop) (h0 : P st) (hs : ∀ d s, d ∈ ds → P s → ∃ s1 s', bindTg tg d s = some s1 ∧ exs Γ G b s1 = some (.next s') ∧ P s') : ∃ s', forB Γ G tg b ds st = some (.next s') ∧ P s' :=
  forL_all P h0 fun d s hd p => by
    obtain ⟨s1, s', e1, e2, e3⟩ := hs d s hd p
    exact ⟨s', by rw [e1]; exact e2, e3⟩
/-! ### plain values -/
inductive Pl : Nat → D → Prop where
  | none {n : Nat} : Pl n .none
  | bool {n : Nat} (b : Bool) : Pl n (.bool b)
  | int {n : Nat} (x : Int) : Pl n (.int x)
  | str {n : Nat} (s : Str) (h : PyData.strOk s = true) : Pl n (.str s)
  | list {n : Nat} (ds : List D) (hl : ds.length ≤ 1000000) (h : ∀ d ∈ ds, Pl n d) : Pl (n + 1) (.list ds)
  | tuple {n : Nat} (ds : List D) (hl : ds.length ≤ 1000000) (h : ∀ d ∈ ds, Pl n d) : Pl (n + 1) (.tuple ds)
theorem pl_encL (n : Nat) (a : Ln) : Pl (n + 1) (encL a) := by
  refine .tuple _ (by simp) ?_
  intro d hd
  simp at hd
  rcases hd with hd | hd | hd <;> subst hd <;> exact .int _
end PL
namespace PL
open PySem PySem.Spec PyProof.Rows L2
/-! ### laws of lengths -/
theorem sub_add {a b : Ln} (ha : Nf a) (hb : Nf b) : addL (subL a b) b = a := by
  have key : ∀ {p q s p' q' s' : Int}, s ≠ 0 → s' ≠ 0 → addL (subL (nrm p q s) (nrm p' q' s')) (nrm p' q' s') = nrm p q s := by
    intro p q s p' q' s' h h'
    unfold subL
    rw [negL_nrm h', addL_nrm h h', addL_nrm (ne_mul h h') h']
    exact nrm_eq (ne_mul (ne_mul h h') h') h (by grind) (by grind)
  have := key (p := a.p) (q := a.q) (s := a.s) (p' := b.p) (q' := b.q) (s' := b.s) (by have := ha.pos; omega) (by have := hb.pos; omega)
  rwa [nrm_id ha, nrm_id hb] at this
theorem div_mul {d : Int} {a b : Ln} (ha : Nf a) (hb : Nf b) (hn : b.p * b.p - d * b.q * b.q ≠ 0) : mulL d (divL d a b) b = a := by
  have key : ∀ {p q s p' q' s' : Int}, s ≠ 0 → s' ≠ 0 → p' * p' - d * q' * q' ≠ 0 → mulL d (divL d (nrm p q s) (nrm p' q' s')) (nrm p' q' s') = nrm p q s := by
    intro p q s p' q' s' h h' hn
    unfold divL
    rw [invL_nrm h' hn, mulL_nrm h hn, mulL_nrm (ne_mul h hn) h']
    exact nrm_eq (ne_mul (ne_mul h hn) h') h (by grind) (by grind)
  have := key (p := a.p) (q := a.q) (s := a.s) (p' := b.p) (q' := b.q) (s' := b.s) (by have := ha.pos; omega) (by have := hb.pos; omega) hn
  rwa [nrm_id ha, nrm_id hb] at this
theorem nf_zero {a : Ln} (h : Nf a) (hp : a.p = 0) (hq : a.q = 0) : a = ⟨0, 0, 1⟩ := by
  have h1 := h.one
  have h2 := h.pos
  cases a with | mk p q s =>
  simp only at hp hq h1 h2
  subst hp; subst hq
  have : s = 1 := by
    unfold g3 at h1
    simp at h1
    omega
  subst this; rfl
theorem norm_ne {d : Int} (hd : NS d) {a : Ln} (h : Nf a) (hz : a ≠ ⟨0, 0, 1⟩) : a.p * a.p - d * a.q * a.q ≠ 0 := by
  refine hd.ne ?_
  by_cases c : a.p = 0
  · by_cases c2 : a.q = 0
    · exact absurd (nf_zero h c c2) hz
    · exact Or.inr c2
  · exact Or.inl c
theorem gd_c {p q s : Int} (h : g3 p q s = 1 ∧ 0 < s ∧ p.natAbs < 100 ∧ q.natAbs < 100 ∧ s.natAbs < 100) : Gd 100 ⟨p, q, s⟩ := by
  have e : (100 : Nat) < 2 ^ 100 := by decide
  obtain ⟨h1, h2, h3, h4, h5⟩ := h
  exact ⟨⟨h2, h1⟩, Nat.lt_trans h3 e, Nat.lt_trans h4 e, Nat.lt_trans h5 e⟩
theorem Nf.rep {a : Ln} (h : Nf a) : ∃ p q s, s ≠ 0 ∧ a = nrm p q s ∧ a.p = p ∧ a.q = q := ⟨a.p, a.q, a.s, by have := h.pos; omega, (nrm_id h).symm, rfl, rfl⟩
theorem nrm_p0 {p q s : Int} (h : s ≠ 0) : (nrm p q s).p = 0 ↔ p = 0 := by
  have e := (nrm_cross (p := p) (q := q) h).1
  have k := nrm_pos (p := p) (q := q) h
  constructor
  · intro c
    rw [c, Int.zero_mul] at e
    rcases Int.mul_eq_zero.mp e.symm with x | x
    · exact x
    · omega
  · intro c
    subst c
    rw [Int.zero_mul] at e
    rcases Int.mul_eq_zero.mp e with x | x
    · exact x
    · exact absurd x h
theorem nrm_q0 {p q s : Int} (h : s ≠ 0) : (nrm p q s).q = 0 ↔ q = 0 := by
  have e := (nrm_cross (p := p) (q := q) h).2
  have k := nrm_pos (p := p) (q := q) h
  constructor
  · intro c
    rw [c, Int.zero_mul] at e
    rcases Int.mul_eq_zero.mp e.symm with x | x
    · exact x
    · omega
  · intro c
    subst c
    rw [Int.zero_mul] at e
    rcases Int.mul_eq_zero.mp e with x | x
    · exact x
    · exact absurd x h
theorem divL_nrm {d p q s p' q' s' : Int} (h : s ≠ 0) (h' : s' ≠ 0) (hn : p' * p' - d * q' * q' ≠ 0) : divL d (nrm p q s) (nrm p' q' s') = nrm (p * (s' * p') + d * q * (-s' * q')) (p * (-s' * q') + q * (s' * p')) (s * (p' * p' - d * q' * q')) := by
  unfold divL
  rw [invL_nrm h' hn, mulL_nrm h hn]
theorem subL_nrm {p q s p' q' s' : Int} (h : s ≠ 0) (h' : s' ≠ 0) : subL (nrm p q s) (nrm p' q' s') = nrm (p * s' + -p' * s) (q * s' + -q' * s) (s * s') := by
  unfold subL
  rw [negL_nrm h', addL_nrm h h']
/-! #### twins -/
theorem twin_twin (a : Ln) : twinL (twinL a) = a := by
  cases a; simp [twinL]
theorem twin_same (a : Ln) : (twinL a = a) ↔ a.q = 0 := by
  cases a with | mk p q s =>
  simp only [twinL, Ln.mk.injEq, true_and, and_true]
  omega
theorem add_twin_q {a : Ln} (h : Nf a) : (addL a (twinL a)).q = 0 := by
  obtain ⟨p, q, s, hs, e, -, -⟩ := h.rep
  rw [e, twinL_nrm hs, addL_nrm hs hs, nrm_q0 (ne_mul hs hs)]
  grind
theorem mul_twin_q {d : Int} {a : Ln} (h : Nf a) : (mulL d a (twinL a)).q = 0 := by
  obtain ⟨p, q, s, hs, e, -, -⟩ := h.rep
  rw [e, twinL_nrm hs, mulL_nrm hs hs, nrm_q0 (ne_mul hs hs)]
  grind
theorem mul_twin_ne {d : Int} (hd : NS d) {a : Ln} (h : Nf a) (hz : a ≠ ⟨0, 0, 1⟩) : mulL d a (twinL a) ≠ ⟨0, 0, 1⟩ := by
  have hn := norm_ne hd h hz
  obtain ⟨p, q, s, hs, e, e1, e2⟩ := h.rep
  rw [e1, e2] at hn
  rw [e, twinL_nrm hs, mulL_nrm hs hs]
  intro c
  have : (nrm (p * p + d * q * -q) (p * -q + q * p) (s * s)).p = 0 := by rw [c]
  rw [nrm_p0 (ne_mul hs hs)] at this
  exact hn (by grind)
theorem twin_add {a b : Ln} (h : Nf a) (k : Nf b) : twinL (addL a b) = addL (twinL a) (twinL b) := by
  obtain ⟨p, q, s, hs, e, -, -⟩ := h.rep
  obtain ⟨p', q', s', hs', e', -, -⟩ := k.rep
  rw [e, e', addL_nrm hs hs', twinL_nrm (ne_mul hs hs'), twinL_nrm hs, twinL_nrm hs', addL_nrm hs hs']
  exact nrm_eq (ne_mul hs hs') (ne_mul hs hs') (by grind) (by grind)
theorem twin_sub {a b : Ln} (h : Nf a) (k : Nf b) : twinL (subL a b) = subL (twinL a) (twinL b) := by
  obtain ⟨p, q, s, hs, e, -, -⟩ := h.rep
  obtain ⟨p', q', s', hs', e', -, -⟩ := k.rep
  rw [e, e', subL_nrm hs hs', twinL_nrm (ne_mul hs hs'), twinL_nrm hs, twinL_nrm hs', subL_nrm hs hs']
  exact nrm_eq (ne_mul hs hs') (ne_mul hs hs') (by grind) (by grind)
theorem twin_mul {d : Int} {a b : Ln} (h : Nf a) (k : Nf b) : twinL (mulL d a b) = mulL d (twinL a) (twinL b) := by
  obtain ⟨p, q, s, hs, e, -, -⟩ := h.rep
  obtain ⟨p', q', s', hs', e', -, -⟩ := k.rep
  rw [e, e', mulL_nrm hs hs', twinL_nrm (ne_mul hs hs'), twinL_nrm hs, twinL_nrm hs', mulL_nrm hs hs']
  exact nrm_eq (ne_mul hs hs') (ne_mul hs hs') (by grind) (by grind)
theorem twin_div {d : Int} {a b : Ln} (h : Nf a) (k : Nf b) (hn : b.p * b.p - d * b.q * b.q ≠ 0) : twinL (divL d a b) = divL d (twinL a) (twinL b) := by
  obtain ⟨p, q, s, hs, e, -, -⟩ := h.rep
  obtain ⟨p', q', s', hs', e', e1, e2⟩ := k.rep
  rw [e1, e2] at hn
  have hn2 : p' * p' - d * -q' * -q' ≠ 0 := by intro c; exact hn (by grind)
  rw [e, e', divL_nrm hs hs' hn, twinL_nrm (ne_mul hs hn), twinL_nrm hs, twinL_nrm hs', divL_nrm hs hs' hn2]
  exact nrm_eq (ne_mul hs hn) (ne_mul hs hn2) (by grind) (by grind)
/-! #### signs -/
def twoS (d : Int) (a : Ln) : Int := a.p * (a.p.natAbs : Int) + d * a.q * (a.q.natAbs : Int)
def sgI (x : Int) : Int := (if 0 < x then 1 else 0) - (if x < 0 then 1 else 0)
def sgL (d : Int) (a : Ln) : Int := sgI (twoS d a)
theorem sgI_zero (x : Int) : sgI x = 0 ↔ x = 0 := by
  unfold sgI
  split <;> split <;> omega
theorem twoS_zero {d : Int} (hd : NS d) {a : Ln} (h : Nf a) : twoS d a = 0 ↔ a = ⟨0, 0, 1⟩ := by
  constructor
  · intro e
    by_cases hz : a = ⟨0, 0, 1⟩
    · exact hz
    · refine absurd ?_ (norm_ne hd h hz)
      unfold twoS at e
      have hd0 : 0 ≤ d := by
        obtain ⟨r, r0, r1, _⟩ := hd
        have := Int.mul_nonneg r0 r0
        omega
      rcases Int.le_total 0 a.p with x | x <;> rcases Int.le_total 0 a.q with y | y
      all_goals (first | rw [Int.natAbs_of_nonneg x] at e | rw [Int.ofNat_natAbs_of_nonpos x] at e)
      all_goals (first | rw [Int.natAbs_of_nonneg y] at e | rw [Int.ofNat_natAbs_of_nonpos y] at e)
      · have h1 := Int.mul_nonneg x x
        have h2 := Int.mul_nonneg (Int.mul_nonneg hd0 y) y
        omega
      · grind
      · grind
      · have h1 := Int.mul_nonneg (show 0 ≤ -a.p by omega) (show 0 ≤ -a.p by omega)
        have h2 := Int.mul_nonneg (Int.mul_nonneg hd0 (show 0 ≤ -a.q by omega)) (show 0 ≤ -a.q by omega)
        have e1 : -a.p * -a.p = a.p * a.p := by grind
        have e2 : d * -a.q * -a.q = d * a.q * a.q := by grind
        have e3 : a.p * -a.p = -(a.p * a.p) := by grind
        have e4 : d * a.q * -a.q = -(d * a.q * a.q) := by grind
        rw [e1] at h1; rw [e2] at h2; rw [e3, e4] at e
        omega
  · intro e; subst e; simp [twoS]
end PL
namespace PL
open PySem PySem.Spec PyProof.Rows L2
/-! ### laws of reckoning with lengths -/
theorem gd_c' {p q s : Int} (h : g3 p q s = 1 ∧ 0 < s ∧ p.natAbs < 100 ∧ q.natAbs < 100 ∧ s.natAbs < 100) : Gd 60 ⟨p, q, s⟩ := by
  have e : (100 : Nat) < 2 ^ 60 := by decide
  obtain ⟨h1, h2, h3, h4, h5⟩ := h
  exact ⟨⟨h2, h1⟩, Nat.lt_trans h3 e, Nat.lt_trans h4 e, Nat.lt_trans h5 e⟩
theorem zero_nrm : (⟨0, 0, 1⟩ : Ln) = nrm 0 0 1 := by decide +kernel
theorem one_nrm : (⟨1, 0, 1⟩ : Ln) = nrm 1 0 1 := by decide +kernel
theorem mone_nrm : (⟨-1, 0, 1⟩ : Ln) = nrm (-1) 0 1 := by decide +kernel
theorem add_comm' (a b : Ln) : addL a b = addL b a := by
  unfold addL
  rw [Int.add_comm (a.p * b.s), Int.add_comm (a.q * b.s), Int.mul_comm a.s]
theorem mul_comm' (d : Int) (a b : Ln) : mulL d a b = mulL d b a := by
  unfold mulL
  rw [show a.p * b.p + d * a.q * b.q = b.p * a.p + d * b.q * a.q by grind, show a.p * b.q + a.q * b.p = b.p * a.q + b.q * a.p by grind, Int.mul_comm a.s]
section
variable {d : Int} {a b c : Ln}
theorem add_assoc' (h : Nf a) (k : Nf b) (l : Nf c) : addL (addL a b) c = addL a (addL b c) := by
  obtain ⟨p, q, s, hs, e, -, -⟩ := h.rep
  obtain ⟨p', q', s', hs', e', -, -⟩ := k.rep
  obtain ⟨p2, q2, s2, hs2, e2, -, -⟩ := l.rep
  rw [e, e', e2, addL_nrm hs hs', addL_nrm (ne_mul hs hs') hs2, addL_nrm hs' hs2, addL_nrm hs (ne_mul hs' hs2)]
  exact nrm_eq (ne_mul (ne_mul hs hs') hs2) (ne_mul hs (ne_mul hs' hs2)) (by grind) (by grind)
theorem mul_assoc' (h : Nf a) (k : Nf b) (l : Nf c) : mulL d (mulL d a b) c = mulL d a (mulL d b c) := by
  obtain ⟨p, q, s, hs, e, -, -⟩ := h.rep
  obtain ⟨p', q', s', hs', e', -, -⟩ := k.rep
  obtain ⟨p2, q2, s2, hs2, e2, -, -⟩ := l.rep
  rw [e, e', e2, mulL_nrm hs hs', mulL_nrm (ne_mul hs hs') hs2, mulL_nrm hs' hs2, mulL_nrm hs (ne_mul hs' hs2)]
  exact nrm_eq (ne_mul (ne_mul hs hs') hs2) (ne_mul hs (ne_mul hs' hs2)) (by grind) (by grind)
theorem mul_add' (h : Nf a) (k : Nf b) (l : Nf c) : mulL d a (addL b c) = addL (mulL d a b) (mulL d a c) := by
  obtain ⟨p, q, s, hs, e, -, -⟩ := h.rep
  obtain ⟨p', q', s', hs', e', -, -⟩ := k.rep
  obtain ⟨p2, q2, s2, hs2, e2, -, -⟩ := l.rep
  rw [e, e', e2, addL_nrm hs' hs2, mulL_nrm hs (ne_mul hs' hs2), mulL_nrm hs hs', mulL_nrm hs hs2, addL_nrm (ne_mul hs hs') (ne_mul hs hs2)]
  exact nrm_eq (ne_mul hs (ne_mul hs' hs2)) (ne_mul (ne_mul hs hs') (ne_mul hs hs2)) (by grind) (by grind)
theorem add_zero' (h : Nf a) : addL a ⟨0, 0, 1⟩ = a := by
  obtain ⟨p, q, s, hs, e, -, -⟩ := h.rep
  rw [e, zero_nrm, addL_nrm hs (by decide)]
  exact nrm_eq (ne_mul hs (by decide)) hs (by grind) (by grind)
theorem mul_one' (h : Nf a) : mulL d a ⟨1, 0, 1⟩ = a := by
  obtain ⟨p, q, s, hs, e, -, -⟩ := h.rep
  rw [e, one_nrm, mulL_nrm hs (by decide)]
  exact nrm_eq (ne_mul hs (by decide)) hs (by grind) (by grind)
theorem mul_zero' (h : Nf a) : mulL d a ⟨0, 0, 1⟩ = ⟨0, 0, 1⟩ := by
  obtain ⟨p, q, s, hs, e, -, -⟩ := h.rep
  rw [e, zero_nrm, mulL_nrm hs (by decide)]
  exact nrm_eq (ne_mul hs (by decide)) (by decide) (by grind) (by grind)
theorem sub_self' (h : Nf a) : subL a a = ⟨0, 0, 1⟩ := by
  obtain ⟨p, q, s, hs, e, -, -⟩ := h.rep
  rw [e, zero_nrm, subL_nrm hs hs]
  exact nrm_eq (ne_mul hs hs) (by decide) (by grind) (by grind)
theorem sub_mone (h : Nf a) (k : Nf b) : subL a b = addL a (mulL d ⟨-1, 0, 1⟩ b) := by
  obtain ⟨p, q, s, hs, e, -, -⟩ := h.rep
  obtain ⟨p', q', s', hs', e', -, -⟩ := k.rep
  rw [e, e', mone_nrm, mulL_nrm (by decide) hs', subL_nrm hs hs', addL_nrm hs (ne_mul (by decide) hs')]
  exact nrm_eq (ne_mul hs hs') (ne_mul hs (ne_mul (by decide) hs')) (by grind) (by grind)
theorem nf_mul (h : Nf a) (k : Nf b) : Nf (mulL d a b) := nrm_nf (ne_mul (by have := h.pos; omega) (by have := k.pos; omega))
theorem nf_add (h : Nf a) (k : Nf b) : Nf (addL a b) := nrm_nf (ne_mul (by have := h.pos; omega) (by have := k.pos; omega))
theorem norm_mul {p q p' q' : Int} : (p * p' + d * q * q') * (p * p' + d * q * q') - d * (p * q' + q * p') * (p * q' + q * p') = (p * p - d * q * q) * (p' * p' - d * q' * q') := by grind
theorem mul_zero_iff (hd : NS d) (h : Nf a) (k : Nf b) : mulL d a b = ⟨0, 0, 1⟩ ↔ a = ⟨0, 0, 1⟩ ∨ b = ⟨0, 0, 1⟩ := by
  constructor
  · intro e
    by_cases ha : a = ⟨0, 0, 1⟩
    · exact Or.inl ha
    · by_cases hb : b = ⟨0, 0, 1⟩
      · exact Or.inr hb
      · have n1 := norm_ne hd h ha
        have n2 := norm_ne hd k hb
        have hs : a.s * b.s ≠ 0 := ne_mul (by have := h.pos; omega) (by have := k.pos; omega)
        have e1 : (mulL d a b).p = 0 := by rw [e]
        have e2 : (mulL d a b).q = 0 := by rw [e]
        unfold mulL at e1 e2
        rw [nrm_p0 hs] at e1
        rw [nrm_q0 hs] at e2
        have := norm_mul (d := d) (p := a.p) (q := a.q) (p' := b.p) (q' := b.q)
        rw [e1, e2] at this
        exact absurd (by rw [← this]; simp) (ne_mul n1 n2)
  · intro e
    rcases e with e | e
    · subst e; rw [mul_comm']; exact mul_zero' k
    · subst e; exact mul_zero' h
theorem div_self' (h : Nf a) (hn : a.p * a.p - d * a.q * a.q ≠ 0) : divL d a a = ⟨1, 0, 1⟩ := by
  obtain ⟨p, q, s, hs, e, e1, e2⟩ := h.rep
  rw [e1, e2] at hn
  rw [e, one_nrm, divL_nrm hs hs hn]
  exact nrm_eq (ne_mul hs hn) (by decide) (by grind) (by grind)
theorem div_div' (h : Nf a) (k : Nf b) (l : Nf c) (hn : a.p * a.p - d * a.q * a.q ≠ 0) (kn : b.p * b.p - d * b.q * b.q ≠ 0) : divL d (divL d c a) b = divL d c (mulL d a b) := by
  obtain ⟨p, q, s, hs, e, e1, e2⟩ := h.rep
  obtain ⟨p', q', s', hs', e', e1', e2'⟩ := k.rep
  obtain ⟨p2, q2, s2, hs2, e3, -, -⟩ := l.rep
  rw [e1, e2] at hn
  rw [e1', e2'] at kn
  have mn : (p * p' + d * q * q') * (p * p' + d * q * q') - d * (p * q' + q * p') * (p * q' + q * p') ≠ 0 := by
    rw [norm_mul]; exact ne_mul hn kn
  rw [e, e', e3, divL_nrm hs2 hs hn, divL_nrm (ne_mul hs2 hn) hs' kn, mulL_nrm hs hs', divL_nrm hs2 (ne_mul hs hs') mn]
  refine nrm_eq (ne_mul (ne_mul hs2 hn) kn) (ne_mul hs2 mn) ?_ ?_
  · rw [norm_mul]; grind
  · rw [norm_mul]; grind
theorem div_rec' (h : Nf a) (k : Nf b) (hn : a.p * a.p - d * a.q * a.q ≠ 0) (kn : b.p * b.p - d * b.q * b.q ≠ 0) : divL d a b = divL d ⟨1, 0, 1⟩ (divL d b a) := by
  obtain ⟨p, q, s, hs, e, e1, e2⟩ := h.rep
  obtain ⟨p', q', s', hs', e', e1', e2'⟩ := k.rep
  rw [e1, e2] at hn
  rw [e1', e2'] at kn
  have ev : (p' * (s * p) + d * q' * (-s * q)) * (p' * (s * p) + d * q' * (-s * q)) - d * (p' * (-s * q) + q' * (s * p)) * (p' * (-s * q) + q' * (s * p)) = (s * s) * ((p' * p' - d * q' * q') * (p * p - d * q * q)) := by grind
  have mn : (p' * (s * p) + d * q' * (-s * q)) * (p' * (s * p) + d * q' * (-s * q)) - d * (p' * (-s * q) + q' * (s * p)) * (p' * (-s * q) + q' * (s * p)) ≠ 0 := by
    rw [ev]; exact ne_mul (ne_mul hs hs) (ne_mul kn hn)
  rw [e, e', one_nrm, divL_nrm hs hs' kn, divL_nrm hs' hs hn, divL_nrm (by decide) (ne_mul hs' hn) mn]
  refine nrm_eq (ne_mul hs kn) (ne_mul (by decide) mn) ?_ ?_
  · rw [ev]; grind
  · rw [ev]; grind
theorem norm_div (hd : NS d) (h : Nf a) (k : Nf b) (ha : a ≠ ⟨0, 0, 1⟩) (hb : b ≠ ⟨0, 0, 1⟩) : (divL d a b).p * (divL d a b).p - d * (divL d a b).q * (divL d a b).q ≠ 0 := by
  have kn := norm_ne hd k hb
  refine norm_ne hd (nf_mul h (nrm_nf kn)) ?_
  intro c
  rcases (mul_zero_iff hd h (nrm_nf kn)).mp c with c | c
  · exact ha c
  · have := div_mul (d := d) h k kn
    unfold divL at this
    rw [show invL d b = ⟨0, 0, 1⟩ from c, mul_zero' h, mul_comm', mul_zero' k] at this
    exact ha this.symm
end
end PL
namespace PL
open PySem PySem.Spec PyProof.Rows L2
/-! ### the order of lengths -/
def vS (d p q : Int) : Int := p * (p.natAbs : Int) + d * q * (q.natAbs : Int)
theorem NS.pos {d : Int} (h : NS d) : 0 < d := by
  obtain ⟨r, r0, r1, _⟩ := h
  have := Int.mul_nonneg r0 r0
  omega
theorem nab_p {p : Int} (h : 0 ≤ p) : (p.natAbs : Int) = p := by omega
theorem nab_n {p : Int} (h : p ≤ 0) : (p.natAbs : Int) = -p := by omega
theorem vS_pp {d p q : Int} (hp : 0 ≤ p) (hq : 0 ≤ q) : vS d p q = p * p + d * (q * q) := by
  unfold vS; rw [nab_p hp, nab_p hq]; grind
theorem vS_pn {d p q : Int} (hp : 0 ≤ p) (hq : q ≤ 0) : vS d p q = p * p - d * (q * q) := by
  unfold vS; rw [nab_p hp, nab_n hq]; grind
theorem vS_np {d p q : Int} (hp : p ≤ 0) (hq : 0 ≤ q) : vS d p q = d * (q * q) - p * p := by
  unfold vS; rw [nab_n hp, nab_p hq]; grind
theorem vS_nn {d p q : Int} (hp : p ≤ 0) (hq : q ≤ 0) : vS d p q = -(p * p) - d * (q * q) := by
  unfold vS; rw [nab_n hp, nab_n hq]; grind
theorem vS_neg (d p q : Int) : vS d (-p) (-q) = -vS d p q := by
  unfold vS
  rw [Int.natAbs_neg, Int.natAbs_neg]; grind
theorem sq_nn (x : Int) : 0 ≤ x * x := by
  rcases Int.le_total 0 x with h | h
  · exact Int.mul_nonneg h h
  · have := Int.mul_nonneg (show 0 ≤ -x by omega) (show 0 ≤ -x by omega)
    have e : -x * -x = x * x := by grind
    omega
theorem le_of_sq {x y : Int} (hy : 0 ≤ y) (h : x * x ≤ y * y) : x ≤ y := by
  by_cases c : x ≤ y
  · exact c
  · have h1 := Int.mul_le_mul (show y + 1 ≤ x by omega) (show y + 1 ≤ x by omega) (by omega) (by omega)
    have : (y + 1) * (y + 1) = y * y + 2 * y + 1 := by grind
    omega
theorem sq_le {x y : Int} (hx : 0 ≤ x) (h : x ≤ y) : x * x ≤ y * y := Int.mul_le_mul h h hx (by omega)
theorem lemS {d u v u' v' : Int} (hd : 0 < d) (hu : 0 ≤ u) (hv : 0 ≤ v) (hu' : 0 ≤ u') (hv' : 0 ≤ v') (h : u * u ≤ d * (v * v)) (h' : u' * u' ≤ d * (v' * v')) : u * u' ≤ d * (v * v') := by
  refine le_of_sq (Int.mul_nonneg (by omega) (Int.mul_nonneg hv hv')) ?_
  have := Int.mul_le_mul h h' (sq_nn u') (Int.mul_nonneg (by omega) (sq_nn v))
  have e1 : u * u' * (u * u') = u * u * (u' * u') := by grind
  have e2 : d * (v * v') * (d * (v * v')) = d * (v * v) * (d * (v' * v')) := by grind
  rw [e1, e2]; exact this
theorem lemT {d u v u' v' : Int} (hd : 0 < d) (hu : 0 ≤ u) (hv : 0 ≤ v) (hu' : 0 ≤ u') (hv' : 0 ≤ v') (h : d * (v * v) ≤ u * u) (h' : d * (v' * v') ≤ u' * u') : d * (v * v') ≤ u * u' := by
  refine le_of_sq (Int.mul_nonneg hu hu') ?_
  have := Int.mul_le_mul h h' (Int.mul_nonneg (by omega) (sq_nn v')) (sq_nn u)
  have e1 : u * u' * (u * u') = u * u * (u' * u') := by grind
  have e2 : d * (v * v') * (d * (v * v')) = d * (v * v) * (d * (v' * v')) := by grind
  rw [e1, e2]; exact this
theorem mul_sq_le {d x y : Int} (hd : 0 < d) (hx : 0 ≤ x) (h : x ≤ y) : d * (x * x) ≤ d * (y * y) := Int.mul_le_mul_of_nonneg_left (sq_le hx h) (by omega)
theorem vS_cases {d p q : Int} (hd : 0 < d) (h : 0 ≤ vS d p q) : (0 ≤ p ∧ 0 ≤ q) ∨ (0 ≤ p ∧ q ≤ 0 ∧ d * (q * q) ≤ p * p) ∨ (p ≤ 0 ∧ 0 ≤ q ∧ p * p ≤ d * (q * q)) := by
  rcases Int.le_total 0 p with hp | hp <;> rcases Int.le_total 0 q with hq | hq
  · exact Or.inl ⟨hp, hq⟩
  · rw [vS_pn hp hq] at h; exact Or.inr (Or.inl ⟨hp, hq, by omega⟩)
  · rw [vS_np hp hq] at h; exact Or.inr (Or.inr ⟨hp, hq, by omega⟩)
  · rw [vS_nn hp hq] at h
    have h1 := sq_nn p
    have h2 := Int.mul_nonneg (show 0 ≤ d by omega) (sq_nn q)
    have e1 : p * p = 0 := by omega
    have e2 : d * (q * q) = 0 := by omega
    have p0 : p = 0 := by rcases Int.mul_eq_zero.mp e1 with x | x <;> exact x
    have q0 : q = 0 := by
      rcases Int.mul_eq_zero.mp e2 with x | x
      · omega
      · rcases Int.mul_eq_zero.mp x with x | x <;> exact x
    exact Or.inl ⟨by omega, by omega⟩
theorem vS_pp_nn {d p q : Int} (hd : 0 < d) (hp : 0 ≤ p) (hq : 0 ≤ q) : 0 ≤ vS d p q := by
  rw [vS_pp hp hq]
  have h1 := sq_nn p
  have h2 := Int.mul_nonneg (show 0 ≤ d by omega) (sq_nn q)
  omega
theorem nn_i_ii {d p q p' q' : Int} (hd : 0 < d) (hp : 0 ≤ p) (hq : 0 ≤ q) (hp' : 0 ≤ p') (hq' : q' ≤ 0) (h : d * (q' * q') ≤ p' * p') : 0 ≤ vS d (p + p') (q + q') := by
  rcases Int.le_total 0 (q + q') with c | c
  · exact vS_pp_nn hd (by omega) c
  · rw [vS_pn (by omega) c]
    have h1 := sq_le hp' (show p' ≤ p + p' by omega)
    have h2 := mul_sq_le hd (show 0 ≤ -(q + q') by omega) (show -(q + q') ≤ -q' by omega)
    have e1 : -(q + q') * -(q + q') = (q + q') * (q + q') := by grind
    have e2 : -q' * -q' = q' * q' := by grind
    rw [e1, e2] at h2
    omega
theorem nn_i_iii {d p q p' q' : Int} (hd : 0 < d) (hp : 0 ≤ p) (hq : 0 ≤ q) (hp' : p' ≤ 0) (hq' : 0 ≤ q') (h : p' * p' ≤ d * (q' * q')) : 0 ≤ vS d (p + p') (q + q') := by
  rcases Int.le_total 0 (p + p') with c | c
  · exact vS_pp_nn hd c (by omega)
  · rw [vS_np c (by omega)]
    have h1 := sq_le (show 0 ≤ -(p + p') by omega) (show -(p + p') ≤ -p' by omega)
    have h2 := mul_sq_le hd hq' (show q' ≤ q + q' by omega)
    have e1 : -(p + p') * -(p + p') = (p + p') * (p + p') := by grind
    have e2 : -p' * -p' = p' * p' := by grind
    rw [e1, e2] at h1
    omega
theorem nn_ii_iii {d p q p' q' : Int} (hd : 0 < d) (hp : 0 ≤ p) (hq : q ≤ 0) (h : d * (q * q) ≤ p * p) (hp' : p' ≤ 0) (hq' : 0 ≤ q') (h' : p' * p' ≤ d * (q' * q')) : 0 ≤ vS d (p + p') (q + q') := by
  rcases Int.le_total 0 (p + p') with c | c <;> rcases Int.le_total 0 (q + q') with e | e
  · exact vS_pp_nn hd c e
  · rw [vS_pn c e]
    by_cases z : d * ((q + q') * (q + q')) ≤ (p + p') * (p + p')
    · omega
    · have := lemS hd c (show 0 ≤ -(q + q') by omega) (show 0 ≤ -p' by omega) hq' (by grind) (by grind)
      grind
  · rw [vS_np c e]
    by_cases z : (p + p') * (p + p') ≤ d * ((q + q') * (q + q'))
    · omega
    · have := lemT hd hp (show 0 ≤ -q by omega) (show 0 ≤ -(p + p') by omega) e (by grind) (by grind)
      grind
  · have h1 := sq_le hp (show p ≤ -p' by omega)
    have h2 := mul_sq_le hd hq' (show q' ≤ -q by omega)
    have e1 : -p' * -p' = p' * p' := by grind
    have e2 : -q * -q = q * q := by grind
    rw [e1] at h1
    rw [e2] at h2
    have k1 : p * p = p' * p' := by omega
    have k2 : d * (q * q) = d * (q' * q') := by omega
    have k3 : q * q = q' * q' := Int.eq_of_mul_eq_mul_left (by omega) k2
    have h3 := le_of_sq hp (show -p' * -p' ≤ p * p by omega)
    have h4 := le_of_sq hq' (show -q * -q ≤ q' * q' by omega)
    exact vS_pp_nn hd (by omega) (by omega)
theorem nn_add {d p q p' q' : Int} (hd : 0 < d) (h : 0 ≤ vS d p q) (h' : 0 ≤ vS d p' q') : 0 ≤ vS d (p + p') (q + q') := by
  have sw (x y z w : Int) : vS d (x + y) (z + w) = vS d (y + x) (w + z) := by rw [Int.add_comm x, Int.add_comm z]
  rcases vS_cases hd h with ⟨a, b⟩ | ⟨a, b, c⟩ | ⟨a, b, c⟩ <;> rcases vS_cases hd h' with ⟨a', b'⟩ | ⟨a', b', c'⟩ | ⟨a', b', c'⟩
  · exact vS_pp_nn hd (by omega) (by omega)
  · exact nn_i_ii hd a b a' b' c'
  · exact nn_i_iii hd a b a' b' c'
  · rw [sw]; exact nn_i_ii hd a' b' a b c
  · rw [vS_pn (by omega) (by omega)]
    have := lemT hd a (show 0 ≤ -q by omega) a' (show 0 ≤ -q' by omega) (by grind) (by grind)
    grind
  · exact nn_ii_iii hd a b c a' b' c'
  · rw [sw]; exact nn_i_iii hd a' b' a b c
  · rw [sw]; exact nn_ii_iii hd a' b' c' a b c
  · rw [vS_np (by omega) (by omega)]
    have := lemS hd (show 0 ≤ -p by omega) b (show 0 ≤ -p' by omega) b' (by grind) (by grind)
    grind
theorem vS_zero {d p q : Int} (hd : NS d) : vS d p q = 0 ↔ p = 0 ∧ q = 0 := by
  constructor
  · intro h
    have k := hd.pos
    rcases Int.le_total 0 p with hp | hp <;> rcases Int.le_total 0 q with hq | hq
    · rw [vS_pp hp hq] at h
      have h1 := sq_nn p
      have h2 := Int.mul_nonneg (show 0 ≤ d by omega) (sq_nn q)
      have e1 : p * p = 0 := by omega
      have e2 : d * (q * q) = 0 := by omega
      exact hd.zero (by grind)
    · rw [vS_pn hp hq] at h; exact hd.zero (by grind)
    · rw [vS_np hp hq] at h; exact hd.zero (by grind)
    · rw [vS_nn hp hq] at h
      have h1 := sq_nn p
      have h2 := Int.mul_nonneg (show 0 ≤ d by omega) (sq_nn q)
      have e1 : p * p = 0 := by omega
      have e2 : d * (q * q) = 0 := by omega
      exact hd.zero (by grind)
  · rintro ⟨h1, h2⟩; subst h1; subst h2; simp [vS]
theorem pos_add {d p q p' q' : Int} (hd : NS d) (h : 0 < vS d p q) (h' : 0 ≤ vS d p' q') : 0 < vS d (p + p') (q + q') := by
  have h1 := nn_add hd.pos (show 0 ≤ vS d p q by omega) h'
  by_cases c : vS d (p + p') (q + q') = 0
  · obtain ⟨e1, e2⟩ := (vS_zero hd).mp c
    have e3 : p' = -p := by omega
    have e4 : q' = -q := by omega
    rw [e3, e4, vS_neg] at h'
    omega
  · omega
theorem vS_scale {d k p q : Int} (hk : 0 ≤ k) : vS d (k * p) (k * q) = k * k * vS d p q := by
  unfold vS
  rw [Int.natAbs_mul, Int.natAbs_mul]
  push_cast
  rw [nab_p hk]; grind
theorem vS_scale_pos {d k p q : Int} (hk : 0 < k) : 0 < vS d (k * p) (k * q) ↔ 0 < vS d p q := by
  rw [vS_scale (by omega)]
  have := Int.mul_pos hk hk
  constructor
  · intro h; exact Int.pos_of_mul_pos_right h (by omega) |> fun x => x
  · intro h; exact Int.mul_pos this h
end PL
namespace PL
open PySem PySem.Spec PyProof.Rows L2
/-! ### signs, comparing, floors -/
theorem twoS_vS (d : Int) (a : Ln) : twoS d a = vS d a.p a.q := rfl
theorem sgI_pos {x : Int} (h : 0 < x) : sgI x = 1 := by unfold sgI; split <;> split <;> omega
theorem sgI_neg' {x : Int} (h : x < 0) : sgI x = -1 := by unfold sgI; rw [if_neg (by omega), if_pos h]; rfl
theorem sgI_0 : sgI 0 = 0 := by decide
theorem sgI_neg (x : Int) : sgI (-x) = -sgI x := by unfold sgI; split <;> split <;> split <;> split <;> omega
theorem sgI_one {x : Int} : sgI x = 1 ↔ 0 < x := by unfold sgI; split <;> split <;> omega
theorem sgI_gt {x : Int} : 0 < sgI x ↔ 0 < x := by unfold sgI; split <;> split <;> omega
theorem sgI_ge {x : Int} : 0 ≤ sgI x ↔ 0 ≤ x := by unfold sgI; split <;> split <;> omega
theorem vS_pos_pp {d p q : Int} (hd : 0 < d) (hp : 0 ≤ p) (hq : 0 ≤ q) (h : 0 < p + q) : 0 < vS d p q := by
  rw [vS_pp hp hq]
  have h1 := sq_nn p
  have h2 := Int.mul_nonneg (show 0 ≤ d by omega) (sq_nn q)
  by_cases c : 0 < p
  · have := Int.mul_pos c c; omega
  · have hq : 0 < q := by omega
    have := Int.mul_pos hd (Int.mul_pos hq hq); omega
theorem sg_same {d p q : Int} (hd : 0 < d) (h : 0 ≤ p * q) : sgI (vS d p q) = sgI (p + q) := by
  have main : ∀ {p q : Int}, 0 ≤ p → 0 ≤ q → sgI (vS d p q) = sgI (p + q) := by
    intro p q hp hq
    by_cases c : 0 < p + q
    · rw [sgI_pos c, sgI_pos (vS_pos_pp hd hp hq c)]
    · have e1 : p = 0 := by omega
      have e2 : q = 0 := by omega
      subst e1; subst e2; simp [vS]
  have neg : ∀ {p q : Int}, p ≤ 0 → q ≤ 0 → sgI (vS d p q) = sgI (p + q) := by
    intro p q hp hq
    have := main (p := -p) (q := -q) (by omega) (by omega)
    rw [vS_neg, sgI_neg, show -p + -q = -(p + q) by omega, sgI_neg] at this
    omega
  rcases Int.le_total 0 p with hp | hp <;> rcases Int.le_total 0 q with hq | hq
  · exact main hp hq
  · by_cases c : p = 0
    · exact neg (by omega) hq
    · by_cases c2 : q = 0
      · exact main hp (by omega)
      · have := Int.mul_pos (show 0 < p by omega) (show 0 < -q by omega)
        grind
  · by_cases c : p = 0
    · exact main (by omega) hq
    · by_cases c2 : q = 0
      · exact neg hp (by omega)
      · have := Int.mul_pos (show 0 < -p by omega) (show 0 < q by omega)
        grind
  · exact neg hp hq
theorem mul_neg_cases {p q : Int} (h : ¬ 0 ≤ p * q) : (0 < p ∧ q < 0) ∨ (p < 0 ∧ 0 < q) := by
  rcases Int.lt_trichotomy p 0 with hp | hp | hp
  · rcases Int.lt_trichotomy q 0 with hq | hq | hq
    · have := Int.mul_pos (show 0 < -p by omega) (show 0 < -q by omega)
      grind
    · subst hq; simp at h
    · exact Or.inr ⟨hp, hq⟩
  · subst hp; simp at h
  · rcases Int.lt_trichotomy q 0 with hq | hq | hq
    · exact Or.inl ⟨hp, hq⟩
    · subst hq; simp at h
    · have := Int.mul_pos hp hq
      omega
theorem sg_first {d p q : Int} (h : ¬ 0 ≤ p * q) (k : d * q * q < p * p) : sgI (vS d p q) = sgI p := by
  have e : d * q * q = d * (q * q) := by grind
  rcases mul_neg_cases h with ⟨a, b⟩ | ⟨a, b⟩
  · rw [sgI_pos a, vS_pn (by omega) (by omega), sgI_pos (by omega)]
  · rw [sgI_neg' a, vS_np (by omega) (by omega), sgI_neg' (by omega)]
theorem sg_second {d p q : Int} (hd : NS d) (h : ¬ 0 ≤ p * q) (k : ¬ d * q * q < p * p) : sgI (vS d p q) = sgI q := by
  have e : d * q * q = d * (q * q) := by grind
  have hn : p * p - d * q * q ≠ 0 := hd.ne (by rcases mul_neg_cases h with ⟨a, b⟩ | ⟨a, b⟩ <;> omega)
  rcases mul_neg_cases h with ⟨a, b⟩ | ⟨a, b⟩
  · rw [sgI_neg' b, vS_pn (by omega) (by omega), sgI_neg' (by omega)]
  · rw [sgI_pos b, vS_np (by omega) (by omega), sgI_pos (by omega)]
theorem sgL_neg (d : Int) (a : Ln) : sgL d (negL a) = -sgL d a := by
  unfold sgL
  rw [twoS_vS, twoS_vS]
  unfold negL
  rw [vS_neg, sgI_neg]
theorem sub_swap {a b : Ln} (h : Nf a) (k : Nf b) : subL b a = negL (subL a b) := by
  obtain ⟨p, q, s, hs, e, -, -⟩ := h.rep
  obtain ⟨p', q', s', hs', e', -, -⟩ := k.rep
  rw [e, e', subL_nrm hs' hs, subL_nrm hs hs', negL_nrm (ne_mul hs hs')]
  exact nrm_eq (ne_mul hs' hs) (ne_mul hs hs') (by grind) (by grind)
theorem sub_zero_iff {a b : Ln} (h : Nf a) (k : Nf b) : subL a b = ⟨0, 0, 1⟩ ↔ a = b := by
  constructor
  · intro e
    have := sub_add h k
    rw [e, add_comm', add_zero' k] at this
    exact this.symm
  · intro e; subst e; exact sub_self' h
theorem nf_sub {a b : Ln} (h : Nf a) (k : Nf b) : Nf (subL a b) := nf_add h k.neg
/-- a positive multiple of the cross difference has its sign -/
theorem sg_nrm {d p q s : Int} (h : 0 < s) : sgI (vS d (nrm p q s).p (nrm p q s).q) = sgI (vS d p q) := by
  have c := nrm_cross (p := p) (q := q) (s := s) (by omega)
  have k := nrm_pos (p := p) (q := q) (s := s) (by omega)
  have e : vS d ((nrm p q s).p * s) ((nrm p q s).q * s) = vS d (p * (nrm p q s).s) (q * (nrm p q s).s) := by rw [c.1, c.2]
  rw [Int.mul_comm _ s, Int.mul_comm _ s, Int.mul_comm p, Int.mul_comm q, vS_scale (by omega), vS_scale (by omega)] at e
  have h1 := Int.mul_pos h h
  have h2 := Int.mul_pos k k
  rcases Int.lt_trichotomy (vS d p q) 0 with g | g | g
  · rw [sgI_neg' g, sgI_neg']
    have := Int.mul_neg_of_pos_of_neg h2 g
    rw [← e] at this
    exact Int.not_le.mp fun z => absurd (Int.mul_nonneg (show 0 ≤ s * s by omega) z) (by omega)
  · rw [g, Int.mul_zero] at e
    rcases Int.mul_eq_zero.mp e with z | z
    · omega
    · rw [z, g]
  · rw [sgI_pos g, sgI_pos]
    have := Int.mul_pos h2 g
    rw [← e] at this
    exact Int.not_le.mp fun z => absurd (Int.mul_nonpos_of_nonneg_of_nonpos (show 0 ≤ s * s by omega) z) (by omega)
/-- the order: a below b -/
theorem sgL_sub (d : Int) {a b : Ln} (h : Nf a) (k : Nf b) : sgL d (subL a b) = sgI (vS d (a.p * b.s - b.p * a.s) (a.q * b.s - b.q * a.s)) := by
  have e : subL a b = nrm (a.p * b.s + -b.p * a.s) (a.q * b.s + -b.q * a.s) (a.s * b.s) := rfl
  unfold sgL
  rw [twoS_vS, e, sg_nrm (Int.mul_pos h.pos k.pos)]
  congr 2 <;> grind
theorem sgL_trans {d : Int} (hd : NS d) {a b c : Ln} (h : Nf a) (k : Nf b) (l : Nf c) (x : 0 < sgL d (subL a b)) (y : 0 ≤ sgL d (subL b c)) : sgL d (subL a c) = 1 := by
  rw [sgL_sub d h k, sgI_gt] at x
  rw [sgL_sub d k l, sgI_ge] at y
  rw [sgL_sub d h l, sgI_one]
  have x2 := (vS_scale_pos (d := d) (p := a.p * b.s - b.p * a.s) (q := a.q * b.s - b.q * a.s) l.pos).mpr x
  have y2 : 0 ≤ vS d (a.s * (b.p * c.s - c.p * b.s)) (a.s * (b.q * c.s - c.q * b.s)) := by
    rw [vS_scale (by have := h.pos; omega)]
    exact Int.mul_nonneg (sq_nn _) y
  have z := pos_add hd x2 y2
  rw [← vS_scale_pos (d := d) k.pos]
  have e1 : b.s * (a.p * c.s - c.p * a.s) = c.s * (a.p * b.s - b.p * a.s) + a.s * (b.p * c.s - c.p * b.s) := by grind
  have e2 : b.s * (a.q * c.s - c.q * a.s) = c.s * (a.q * b.s - b.q * a.s) + a.s * (b.q * c.s - c.q * b.s) := by grind
  rw [e1, e2]; exact z
/-! #### floors -/
def nbL (d : Int) (a : Ln) (k : Int) : Prop := 0 ≤ vS d (a.p - k * a.s) a.q
instance {d : Int} {a : Ln} {k : Int} : Decidable (nbL d a k) := inferInstanceAs (Decidable (_ ≤ _))
theorem vS_whole (d : Int) {p : Int} (h : 0 ≤ p) : 0 ≤ vS d p 0 := by
  unfold vS
  rw [nab_p h]
  have := sq_nn p
  simp; exact this
theorem nbL_mono {d : Int} (hd : 0 < d) {a : Ln} (hs : 0 < a.s) {j k : Int} (e : j ≤ k) (h : nbL d a k) : nbL d a j := by
  have h2 := vS_whole d (p := (k - j) * a.s) (Int.mul_nonneg (by omega) (by omega))
  have := nn_add hd h h2
  unfold nbL
  rw [show a.p - j * a.s = a.p - k * a.s + (k - j) * a.s by grind, show a.q = a.q + 0 by omega]
  exact this
theorem nbL_low {d : Int} (hd : 0 < d) (h64 : d ≤ 64) {a : Ln} (hs : 0 < a.s) {B : Int} (hB : (a.p.natAbs : Int) + 8 * (a.q.natAbs : Int) ≤ B) : nbL d a (-B) := by
  unfold nbL
  have hb : 0 ≤ B := by omega
  have h1 : B ≤ B * a.s := by have := Int.mul_le_mul_of_nonneg_left (show 1 ≤ a.s by omega) hb; omega
  have e : a.p - -B * a.s = a.p + B * a.s := by grind
  rw [e]
  have hp : 8 * (a.q.natAbs : Int) ≤ a.p + B * a.s := by omega
  rcases Int.le_total 0 a.q with hq | hq
  · exact vS_pp_nn hd (by omega) hq
  · rw [vS_pn (by omega) hq]
    have h2 := sq_le (x := 8 * (a.q.natAbs : Int)) (by omega) hp
    have h3 : d * (a.q * a.q) ≤ 64 * (a.q * a.q) := Int.mul_le_mul_of_nonneg_right h64 (sq_nn _)
    have h4 : 8 * (a.q.natAbs : Int) * (8 * (a.q.natAbs : Int)) = 64 * (a.q * a.q) := by
      rw [nab_n hq]; grind
    omega
theorem nbL_high {d : Int} (hd : 0 < d) (h64 : d ≤ 64) {a : Ln} (hs : 0 < a.s) {B : Int} (hB : (a.p.natAbs : Int) + 8 * (a.q.natAbs : Int) < B) : ¬ nbL d a B := by
  unfold nbL
  have hb : 0 ≤ B := by omega
  have h1 : B ≤ B * a.s := by have := Int.mul_le_mul_of_nonneg_left (show 1 ≤ a.s by omega) hb; omega
  have hp : 8 * (a.q.natAbs : Int) + 1 ≤ -(a.p - B * a.s) := by omega
  rcases Int.le_total 0 a.q with hq | hq
  · rw [vS_np (by omega) hq]
    have h2 := sq_le (x := 8 * (a.q.natAbs : Int) + 1) (by omega) hp
    have h3 : d * (a.q * a.q) ≤ 64 * (a.q * a.q) := Int.mul_le_mul_of_nonneg_right h64 (sq_nn _)
    have h4 : (8 * (a.q.natAbs : Int) + 1) * (8 * (a.q.natAbs : Int) + 1) = 64 * (a.q * a.q) + 16 * a.q + 1 := by
      rw [nab_p hq]; grind
    have h5 : -(a.p - B * a.s) * -(a.p - B * a.s) = (a.p - B * a.s) * (a.p - B * a.s) := by grind
    omega
  · have := vS_pos_pp (d := d) (p := -(a.p - B * a.s)) (q := -a.q) hd (by omega) (by omega) (by omega)
    rw [vS_neg] at this
    omega
structure IsFl (d : Int) (a : Ln) (f : Int) : Prop where
  lo : nbL d a f
  hi : ¬ nbL d a (f + 1)
theorem IsFl.le {d : Int} (hd : 0 < d) {a : Ln} (hs : 0 < a.s) {f k : Int} (h : IsFl d a f) (e : nbL d a k) : k ≤ f := by
  by_cases c : k ≤ f
  · exact c
  · exact absurd (nbL_mono hd hs (show f + 1 ≤ k by omega) e) h.hi
theorem IsFl.iff {d : Int} (hd : 0 < d) {a : Ln} (hs : 0 < a.s) {f : Int} (h : IsFl d a f) (k : Int) : nbL d a k ↔ k ≤ f := ⟨h.le hd hs, fun e => nbL_mono hd hs e h.lo⟩
theorem IsFl.eq {d : Int} (hd : 0 < d) {a : Ln} (hs : 0 < a.s) {f g : Int} (h : IsFl d a f) (k : IsFl d a g) : f = g := by
  have h1 := h.le hd hs k.lo
  have h2 := k.le hd hs h.lo
  omega
/-! #### a while loop with a measure -/
theorem whB_ind {Γ : List Sem1} {G : List D} {c : Ex} {b : Sms} (P : Sto → Prop) (m : Sto → Nat) (step : ∀ s, P s → ev Γ G c s = some (.bool false) ∨ (ev Γ G c s = some (.bool true) ∧ ∃ s', exs Γ G b s = some (.next s') ∧ P s' ∧ m s' < m s)) :
    ∀ {s}, P s → ∃ s', whB Γ G c b s = some (.next s') ∧ P s' ∧ ev Γ G c s' = some (.bool false) := by
  have key : ∀ (n : Nat) (s : Sto), m s < n → P s → ∃ s', whB Γ G c b s = some (.next s') ∧ P s' ∧ ev Γ G c s' = some (.bool false) := by
    intro n
    induction n with
    | zero => intro s h; omega
    | succ n ih =>
      intro s h p
      rcases step s p with e | ⟨e, s1, e1, p1, e2⟩
      · exact ⟨s, whB_false e, p, e⟩
      · obtain ⟨s2, f1, f2, f3⟩ := ih s1 (by omega) p1
        exact ⟨s2, whB_true e e1 f1, f2, f3⟩
  intro s p
  exact key (m s + 1) s (by omega) p
end PL
namespace PL
open PySem PySem.Spec PyProof.Rows L2
/-! ### floors reckoned with a whole root -/
structure IsqrtI (N r : Int) : Prop where
  nn : 0 ≤ r
  lo : r * r ≤ N
  hi : N < (r + 1) * (r + 1)
theorem newton_step {N f : Int} (hN : 0 ≤ N) (hf : 0 < f) (h : N < f * f) : N < ((f + N / f) / 2 + 1) * ((f + N / f) / 2 + 1) ∧ (f + N / f) / 2 < f ∧ 0 ≤ (f + N / f) / 2 := by
  obtain ⟨q, hq⟩ : ∃ q, q = N / f := ⟨_, rfl⟩
  have q0 : 0 ≤ q := by rw [hq]; exact Int.ediv_nonneg hN (by omega)
  have h1 : N < f * (q + 1) := by
    have := Int.lt_mul_ediv_self_add (x := N) hf
    rw [← hq] at this
    grind
  have h2 : q < f := by
    rw [hq]
    exact Int.ediv_lt_of_lt_mul hf h
  rw [← hq]
  obtain ⟨g, hg⟩ : ∃ g, g = (f + q) / 2 := ⟨_, rfl⟩
  have g1 : f + q + 1 ≤ 2 * (g + 1) := by omega
  refine ⟨?_, by omega, by omega⟩
  rw [← hg]
  have h3 := sq_le (show 0 ≤ f + q + 1 by omega) g1
  have h4 := sq_nn (f - (q + 1))
  have e1 : (f + q + 1) * (f + q + 1) = (f - (q + 1)) * (f - (q + 1)) + 4 * (f * (q + 1)) := by grind
  have e2 : 2 * (g + 1) * (2 * (g + 1)) = 4 * ((g + 1) * (g + 1)) := by grind
  omega
/-- the floor of the root taken q times -/
def IsRt (d q r : Int) : Prop := ∀ j : Int, 0 ≤ vS d (-j) q ↔ j ≤ r
theorem rt_pos {d q r : Int} (hd : 0 < d) (hq : 0 ≤ q) (h : IsqrtI (d * q * q) r) : IsRt d q r := by
  intro j
  have e : d * q * q = d * (q * q) := by grind
  have hlo := h.lo
  have hhi := h.hi
  have hnn := h.nn
  by_cases c : j ≤ 0
  · exact ⟨fun _ => by omega, fun _ => vS_pp_nn hd (by omega) hq⟩
  · rw [vS_np (by omega) hq]
    have e2 : -j * -j = j * j := by grind
    rw [e2, ← e]
    constructor
    · intro z
      by_cases c2 : j ≤ r
      · exact c2
      · have := sq_le (show 0 ≤ r + 1 by omega) (show r + 1 ≤ j by omega)
        omega
    · intro z
      have := sq_le (show 0 ≤ j by omega) z
      omega
theorem rt_neg {d q r : Int} (hd : NS d) (hq : q < 0) (h : IsqrtI (d * q * q) r) : IsRt d q (-r - 1) := by
  intro j
  have e : d * q * q = d * (q * q) := by grind
  have hlo := h.lo
  have hhi := h.hi
  have hnn := h.nn
  by_cases c : 0 ≤ j
  · constructor
    · intro z
      rw [vS_nn (by omega) (by omega)] at z
      have h1 := sq_nn (-j)
      have h2 := Int.mul_pos hd.pos (Int.mul_pos (show 0 < -q by omega) (show 0 < -q by omega))
      have e3 : -q * -q = q * q := by grind
      rw [e3] at h2
      omega
    · intro z; omega
  · rw [vS_pn (by omega) (by omega)]
    have e2 : -j * -j = j * j := by grind
    have hne : (-j) * (-j) - d * q * q ≠ 0 := hd.ne (Or.inl (by omega))
    rw [e2] at hne
    rw [e2, ← e]
    constructor
    · intro z
      by_cases c2 : j ≤ -r - 1
      · exact c2
      · have := sq_le (show 0 ≤ -j by omega) (show -j ≤ r by omega)
        rw [e2] at this
        omega
    · intro z
      have := sq_le (show 0 ≤ r + 1 by omega) (show r + 1 ≤ -j by omega)
      rw [e2] at this
      omega
theorem IsRt.fl {d : Int} {a : Ln} {r : Int} (hs : 0 < a.s) (h : IsRt d a.q r) : IsFl d a ((a.p + r) / a.s) := by
  have key : ∀ k : Int, nbL d a k ↔ k ≤ (a.p + r) / a.s := by
    intro k
    unfold nbL
    rw [show a.p - k * a.s = -(k * a.s - a.p) by omega, h, Int.le_ediv_iff_mul_le hs]
    omega
  exact ⟨(key _).mpr (Int.le_refl _), fun c => by have := (key _).mp c; omega⟩
theorem IsFl.sz {d : Int} (hd : 0 < d) (h64 : d ≤ 64) {n : Nat} {a : Ln} (h : Gd n a) {f : Int} (k : IsFl d a f) : Sz (n + 6) f := by
  have hs := h.nf.pos
  have h1 := k.le hd hs (nbL_low hd h64 hs (B := (a.p.natAbs : Int) + 8 * (a.q.natAbs : Int)) (Int.le_refl _))
  have h2 : f < (a.p.natAbs : Int) + 8 * (a.q.natAbs : Int) + 1 := by
    refine Int.not_le.mp fun z => ?_
    exact nbL_high hd h64 hs (show _ < f by omega) k.lo
  have p2 : (2 : Nat) ^ (n + 6) = 64 * 2 ^ n := by rw [Nat.pow_add]; omega
  have := h.p
  have := h.q
  have := Nat.two_pow_pos n
  unfold Sz at *
  omega
theorem Sz6.le {d : Int} (h : Sz 6 d) : d ≤ 64 := by
  unfold Sz at h
  have : (2 : Nat) ^ 6 = 64 := by decide
  omega
theorem whl_nrm (k : Int) : (⟨k, 0, 1⟩ : Ln) = nrm k 0 1 := (nrm_id (nf_whl k)).symm
theorem nbL_sg {d : Int} {a : Ln} (h : Nf a) (k : Int) : nbL d a k ↔ 0 ≤ sgL d (subL a ⟨k, 0, 1⟩) := by
  rw [sgL_sub (b := ⟨k, 0, 1⟩) d h (nf_whl k), sgI_ge]
  unfold nbL
  simp only [Int.mul_one, Int.zero_mul, Int.sub_zero]
theorem sub_sub_whl {a : Ln} (h : Nf a) (f g : Int) : subL (subL a ⟨f, 0, 1⟩) ⟨g, 0, 1⟩ = subL a ⟨f + g, 0, 1⟩ := by
  obtain ⟨p, q, s, hs, e, -, -⟩ := h.rep
  rw [e, whl_nrm, whl_nrm, whl_nrm, subL_nrm hs (by decide), subL_nrm (ne_mul hs (by decide)) (by decide), subL_nrm hs (by decide)]
  exact nrm_eq (ne_mul (ne_mul hs (by decide)) (by decide)) (ne_mul hs (by decide)) (by grind) (by grind)
theorem add_sub_whl {a : Ln} (h : Nf a) (f g : Int) : subL (addL a ⟨f, 0, 1⟩) ⟨g, 0, 1⟩ = subL a ⟨g - f, 0, 1⟩ := by
  obtain ⟨p, q, s, hs, e, -, -⟩ := h.rep
  rw [e, whl_nrm, whl_nrm, whl_nrm, addL_nrm hs (by decide), subL_nrm (ne_mul hs (by decide)) (by decide), subL_nrm hs (by decide)]
  exact nrm_eq (ne_mul (ne_mul hs (by decide)) (by decide)) (ne_mul hs (by decide)) (by grind) (by grind)
theorem IsFl.shift {d : Int} {a : Ln} (h : Nf a) {f : Int} (k : IsFl d a f) (t : Int) : IsFl d (addL a ⟨t, 0, 1⟩) (f + t) := by
  have hn := nf_add h (nf_whl t)
  refine ⟨?_, ?_⟩
  · rw [nbL_sg (a := addL a ⟨t, 0, 1⟩) hn, add_sub_whl h, ← nbL_sg h]
    rw [show f + t - t = f by omega]; exact k.lo
  · rw [nbL_sg (a := addL a ⟨t, 0, 1⟩) hn, add_sub_whl h, ← nbL_sg h]
    rw [show f + t + 1 - t = f + 1 by omega]; exact k.hi
end PL
namespace PL
open PySem PySem.Spec PyProof.Rows L2
/-! ### tiles -/
structure Tl where
  x : Ln
  y : Ln
  w : Ln
  h : Ln
  deriving DecidableEq
def encT (t : Tl) : D := .tuple [encL t.x, encL t.y, encL t.w, encL t.h]
structure TOk (n m : Nat) (t : Tl) : Prop where
  x : Gd m t.x
  y : Gd m t.y
  w : Gd n t.w
  h : Gd n t.h
theorem TOk.mono {n m n' m' : Nat} {t : Tl} (k : TOk n m t) (e : n ≤ n') (e' : m ≤ m') : TOk n' m' t := ⟨k.x.mono e', k.y.mono e', k.w.mono e, k.h.mono e⟩
theorem pl_encT (n : Nat) (t : Tl) : Pl (n + 2) (encT t) := by
  refine .tuple _ (by simp) ?_
  intro d hd
  simp only [List.mem_cons, List.not_mem_nil, or_false] at hd
  rcases hd with hd | hd | hd | hd <;> subst hd <;> exact pl_encL n _
theorem pl_list {α : Type} {f : α → D} {n : Nat} {xs : List α} (hl : xs.length ≤ 1000000) (h : ∀ x ∈ xs, Pl n (f x)) : Pl (n + 1) (.list (xs.map f)) := by
  refine .list _ (by simpa using hl) ?_
  intro d hd
  obtain ⟨x, hx, rfl⟩ := List.mem_map.mp hd
  exact h x hx
/-- plain values are equal to themselves, and may be compared -/
theorem pl_good : ∀ (n : Nat) (d : D), Pl n d → d.canLay0 = true ∧ d.depth ≤ n ∧ PyData.eqv d d = true := by
  intro n
  induction n with
  | zero =>
    intro d h
    cases h with
    | none => exact ⟨rfl, Nat.le_refl _, rfl⟩
    | bool b => exact ⟨rfl, Nat.le_refl _, by simp [PyData.eqv]⟩
    | int x => exact ⟨rfl, Nat.le_refl _, by simp [PyData.eqv]⟩
    | str s hs => exact ⟨hs, Nat.le_refl _, by simp [PyData.eqv]⟩
  | succ n ih =>
    intro d h
    have all : ∀ ds : List D, (∀ d ∈ ds, Pl n d) → PyData.canLayAll0 ds = true ∧ PyData.depthAll ds ≤ n ∧ PyData.eqvAll ds ds = true := by
      intro ds
      induction ds with
      | nil => exact fun _ => ⟨rfl, Nat.zero_le _, rfl⟩
      | cons d r ihr =>
        intro h
        obtain ⟨a1, a2, a3⟩ := ih d (h d List.mem_cons_self)
        obtain ⟨b1, b2, b3⟩ := ihr fun x hx => h x (List.mem_cons_of_mem _ hx)
        refine ⟨by simp [PyData.canLayAll0, a1, b1], ?_, by simp [PyData.eqvAll, a3, b3]⟩
        simp only [PyData.depthAll]
        omega
    cases h with
    | none => exact ⟨rfl, Nat.zero_le _, rfl⟩
    | bool b => exact ⟨rfl, Nat.zero_le _, by simp [PyData.eqv]⟩
    | int x => exact ⟨rfl, Nat.zero_le _, by simp [PyData.eqv]⟩
    | str s hs => exact ⟨hs, Nat.zero_le _, by simp [PyData.eqv]⟩
    | list ds hl hk =>
      obtain ⟨a1, a2, a3⟩ := all ds hk
      exact ⟨by simp [PyData.canLay0, a1], by simp only [PyData.depth]; omega, by simp [PyData.eqv, a3]⟩
    | tuple ds hl hk =>
      obtain ⟨a1, a2, a3⟩ := all ds hk
      exact ⟨by simp [PyData.canLay0, a1], by simp only [PyData.depth]; omega, by simp [PyData.eqv, a3]⟩
theorem pl_eqOk {n : Nat} {d e : D} (h : Pl n d) (k : Pl n e) (hn : n ≤ 64) : eqOk d e = true := by
  obtain ⟨a1, a2, _⟩ := pl_good n d h
  obtain ⟨b1, b2, _⟩ := pl_good n e k
  simp [eqOk, a1, b1]
  omega
theorem pl_eqv {n : Nat} {d : D} (h : Pl n d) : PyData.eqv d d = true := (pl_good n d h).2.2
/-! lists -/
theorem compL_filter_map {α : Type} {f : D → Option (Option D)} {enc : α → D} {xs : List α} (p : α → Bool) (h : ∀ x ∈ xs, f (enc x) = some (if p x then some (enc x) else none)) : compL f (xs.map enc) = some ((xs.filter p).map enc) := by
  induction xs with
  | nil => rfl
  | cons x r ih =>
    have e1 := h x List.mem_cons_self
    have e2 := ih fun y hy => h y (List.mem_cons_of_mem _ hy)
    cases c : p x <;> simp [compL, e1, e2, c]
theorem compL_map_map {α β : Type} {f : D → Option (Option D)} {enc : α → D} {enc2 : β → D} {xs : List α} (g : α → β) (h : ∀ x ∈ xs, f (enc x) = some (some (enc2 (g x)))) : compL f (xs.map enc) = some ((xs.map g).map enc2) := by
  induction xs with
  | nil => rfl
  | cons x r ih =>
    have e1 := h x List.mem_cons_self
    have e2 := ih fun y hy => h y (List.mem_cons_of_mem _ hy)
    simp only [List.map_cons, compL, e1, e2, Option.bind_some, Option.map_some]
theorem cut_from {α : Type} (f : α → D) (xs : List α) (k : Nat) (h : k ≤ xs.length) : cutL (xs.map f) (some (k : Int)) none = (xs.drop k).map f := by
  unfold cutL
  rw [List.length_map, HT.sIx_nat, HT.sIx_none, Nat.min_eq_left h, List.map_drop]
  rw [List.take_of_length_le (by simp)]
theorem cut_to {α : Type} (f : α → D) (xs : List α) (k : Nat) (h : k ≤ xs.length) : cutL (xs.map f) none (some (k : Int)) = (xs.take k).map f := by
  unfold cutL
  rw [List.length_map, HT.sIx_nat, HT.sIx_none, Nat.min_eq_left h, List.map_take]
  rfl
theorem add_list {xs ys : List D} (h : xs.length + ys.length ≤ 1000000) : o2D .add (.list xs) (.list ys) = some (.list (xs ++ ys)) := by
  have := sizeLine_eq
  simp only [o2D, addD]
  rw [if_pos (by omega)]
theorem sub_mul_one {d : Int} {a s : Ln} (h : Nf a) (k : Nf s) : subL a (mulL d a s) = mulL d a (subL ⟨1, 0, 1⟩ s) := by
  obtain ⟨p, q, t, ht, e, -, -⟩ := h.rep
  obtain ⟨p', q', t', ht', e', -, -⟩ := k.rep
  rw [e, e', one_nrm, mulL_nrm ht ht', subL_nrm ht (ne_mul ht ht'), subL_nrm (by decide) ht', mulL_nrm ht (ne_mul (by decide) ht')]
  exact nrm_eq (ne_mul ht (ne_mul ht ht')) (ne_mul ht (ne_mul (by decide) ht')) (by grind) (by grind)
/-! the order of tiles, halves, wheels -/
def bef (d : Int) (a b : Tl) : Bool := if a.y = b.y then decide (sgL d (subL b.x a.x) = 1) else decide (sgL d (subL b.y a.y) = 1)
def insO (d : Int) (found : List Tl) (t : Tl) : List Tl := let less := found.filter fun o => !bef d t o
  less ++ [t] ++ found.drop less.length
def ordO (d : Int) (ts : List Tl) : List Tl := ts.foldl (insO d) []
theorem insO_mem {d : Int} {found : List Tl} {t u : Tl} (h : u ∈ insO d found t) : u = t ∨ u ∈ found := by
  unfold insO at h
  simp only [List.mem_append, List.mem_singleton] at h
  rcases h with (h | h) | h
  · exact Or.inr (List.mem_filter.mp h).1
  · exact Or.inl h
  · exact Or.inr (List.mem_of_mem_drop h)
theorem insO_len {d : Int} {found : List Tl} {t : Tl} : (insO d found t).length = found.length + 1 := by
  unfold insO
  have := List.length_filter_le (fun o => !bef d t o) found
  simp only [List.length_append, List.length_singleton, List.length_drop]
  omega
theorem foldO {d : Int} (ts : List Tl) : ∀ found : List Tl, (ts.foldl (insO d) found).length = found.length + ts.length ∧ ∀ u ∈ ts.foldl (insO d) found, u ∈ found ∨ u ∈ ts := by
  induction ts with
  | nil => exact fun found => ⟨rfl, fun u h => Or.inl h⟩
  | cons t r ih =>
    intro found
    obtain ⟨h1, h2⟩ := ih (insO d found t)
    refine ⟨by rw [List.foldl_cons, h1, insO_len, List.length_cons]; omega, ?_⟩
    intro u hu
    rcases h2 u hu with z | z
    · rcases insO_mem z with z | z
      · subst z; exact Or.inr List.mem_cons_self
      · exact Or.inl z
    · exact Or.inr (List.mem_cons_of_mem _ z)
theorem ordO_len {d : Int} {ts : List Tl} : (ordO d ts).length = ts.length := by
  have := (foldO (d := d) ts []).1
  simpa [ordO] using this
theorem ordO_mem {d : Int} {ts : List Tl} {u : Tl} (h : u ∈ ordO d ts) : u ∈ ts := by
  rcases (foldO (d := d) ts []).2 u h with z | z
  · cases z
  · exact z
def halfX (d : Int) (t : Tl) (s : Ln) : List Tl := [⟨t.x, t.y, mulL d t.w s, t.h⟩, ⟨addL t.x (mulL d t.w s), t.y, subL t.w (mulL d t.w s), t.h⟩]
def halfY (d : Int) (t : Tl) (s : Ln) : List Tl := [⟨t.x, t.y, t.w, mulL d t.h s⟩, ⟨t.x, addL t.y (mulL d t.h s), t.w, subL t.h (mulL d t.h s)⟩]
def wheelAt (d : Int) (t : Tl) (a b c e : Int) : Tl :=
  let w := mulL d t.w ⟨1, 0, 3⟩
  let h := mulL d t.h ⟨1, 0, 3⟩
  ⟨addL t.x (mulL d w ⟨a, 0, 1⟩), addL t.y (mulL d h ⟨b, 0, 1⟩), mulL d w ⟨c, 0, 1⟩, mulL d h ⟨e, 0, 1⟩⟩
def wheelT (d : Int) (t : Tl) : List Tl := [wheelAt d t 0 0 2 1, wheelAt d t 2 0 1 2, wheelAt d t 1 2 2 1, wheelAt d t 0 1 1 2, wheelAt d t 1 1 1 1]
/-- a factor that makes numbers longer by j bits at most -/
structure Small (d : Int) (j : Nat) (s : Ln) : Prop where
  nf : Nf s
  pq : (s.p.natAbs : Int) + d * (s.q.natAbs : Int) ≤ 2 ^ j
  s : s.s.natAbs ≤ 2 ^ j
theorem gd_by {n j : Nat} {d : Int} (hd : 0 < d) {a s : Ln} (h : Gd n a) (k : Small d j s) : Gd (n + j) (mulL d a s) := by
  have hp := h.p
  have hq := h.q
  have hs := h.s
  have kpq := k.pq
  have ks := k.s
  have e : ((2 ^ (n + j) : Nat) : Int) = ((2 ^ n : Nat) : Int) * ((2 ^ j : Nat) : Int) := by rw [Nat.pow_add]; push_cast; rfl
  obtain ⟨N, hN⟩ : ∃ N : Int, N = ((2 ^ n : Nat) : Int) := ⟨_, rfl⟩
  obtain ⟨J, hJ⟩ : ∃ J : Int, J = ((2 ^ j : Nat) : Int) := ⟨_, rfl⟩
  have hJ2 : ((2 : Int) ^ j) = J := by rw [hJ]; push_cast; rfl
  rw [hJ2] at kpq
  have hN0 : 0 < N := by rw [hN]; exact_mod_cast Nat.two_pow_pos n
  have hpi : (a.p.natAbs : Int) ≤ N - 1 := by unfold Sz at hp; omega
  have hqi : (a.q.natAbs : Int) ≤ N - 1 := by unfold Sz at hq; omega
  have hsi : (a.s.natAbs : Int) ≤ N - 1 := by unfold Sz at hs; omega
  have ksi : (s.s.natAbs : Int) ≤ J := by omega
  have hsp : (0 : Int) ≤ s.p.natAbs := by omega
  have hsq : (0 : Int) ≤ s.q.natAbs := by omega
  have hdq : (s.q.natAbs : Int) ≤ d * (s.q.natAbs : Int) := by
    have := Int.mul_le_mul_of_nonneg_right (show 1 ≤ d by omega) hsq
    omega
  have hJ0 : 0 < J := by rw [hJ]; exact_mod_cast Nat.two_pow_pos j
  have big : ∀ x : Int, (x.natAbs : Int) ≤ (N - 1) * J → Sz (n + j) x := by
    intro x hx
    have h1 : (N - 1) * J = N * J - J := by grind
    unfold Sz
    have : ((x.natAbs : Nat) : Int) < ((2 ^ (n + j) : Nat) : Int) := by rw [e, ← hN, ← hJ]; omega
    exact_mod_cast this
  have mulb : ∀ (x y X Y : Int), (x.natAbs : Int) ≤ X → (y.natAbs : Int) ≤ Y → 0 ≤ X → ((x * y).natAbs : Int) ≤ X * Y := by
    intro x y X Y hx hy hX
    rw [Int.natAbs_mul]
    push_cast
    exact Int.mul_le_mul hx hy (by omega) hX
  refine gd_nrm (ne_mul h.ne (by have := k.nf.pos; omega)) (big _ ?_) (big _ ?_) (big _ ?_)
  · have m1 := mulb a.p s.p (N - 1) s.p.natAbs hpi (Int.le_refl _) (by omega)
    have m2 := mulb a.q s.q (N - 1) s.q.natAbs hqi (Int.le_refl _) (by omega)
    have m3 : ((d * a.q * s.q).natAbs : Int) ≤ d * ((N - 1) * s.q.natAbs) := by
      rw [show d * a.q * s.q = d * (a.q * s.q) by grind, Int.natAbs_mul]
      push_cast
      rw [nab_p (show 0 ≤ d by omega)]
      exact Int.mul_le_mul_of_nonneg_left m2 (by omega)
    have m4 : (N - 1) * ((s.p.natAbs : Int) + d * (s.q.natAbs : Int)) ≤ (N - 1) * J := Int.mul_le_mul_of_nonneg_left kpq (by omega)
    have m5 : (N - 1) * ((s.p.natAbs : Int) + d * (s.q.natAbs : Int)) = (N - 1) * s.p.natAbs + d * ((N - 1) * s.q.natAbs) := by grind
    omega
  · have m1 := mulb a.p s.q (N - 1) s.q.natAbs hpi (Int.le_refl _) (by omega)
    have m2 := mulb a.q s.p (N - 1) s.p.natAbs hqi (Int.le_refl _) (by omega)
    have m4 : (N - 1) * ((s.p.natAbs : Int) + s.q.natAbs) ≤ (N - 1) * J := Int.mul_le_mul_of_nonneg_left (by omega) (by omega)
    have m5 : (N - 1) * ((s.p.natAbs : Int) + (s.q.natAbs : Int)) = (N - 1) * s.p.natAbs + (N - 1) * s.q.natAbs := by grind
    omega
  · exact mulb a.s s.s (N - 1) J hsi ksi (by omega)
theorem half_ok {d : Int} (hd : 0 < d) {n m : Nat} {t : Tl} (h : TOk n m t) {s : Ln} (gs : Small d 7 s) (g1 : Small d 7 (subL ⟨1, 0, 1⟩ s)) : (∀ u ∈ halfX d t s, TOk (n + 7) (m + n + 14) u) ∧ ∀ u ∈ halfY d t s, TOk (n + 7) (m + n + 14) u := by
  have w1 := gd_by hd h.w gs
  have w2 : Gd (n + 7) (subL t.w (mulL d t.w s)) := by
    rw [sub_mul_one h.w.nf gs.nf]
    exact gd_by hd h.w g1
  have h1 := gd_by hd h.h gs
  have h2 : Gd (n + 7) (subL t.h (mulL d t.h s)) := by
    rw [sub_mul_one h.h.nf gs.nf]
    exact gd_by hd h.h g1
  constructor
  · intro u hu
    simp only [halfX, List.mem_cons, List.not_mem_nil, or_false] at hu
    rcases hu with hu | hu <;> subst hu
    · exact ⟨h.x.mono (by omega), h.y.mono (by omega), w1, h.h.mono (by omega)⟩
    · exact ⟨(gd_add h.x w1).mono (by omega), h.y.mono (by omega), w2, h.h.mono (by omega)⟩
  · intro u hu
    simp only [halfY, List.mem_cons, List.not_mem_nil, or_false] at hu
    rcases hu with hu | hu <;> subst hu
    · exact ⟨h.x.mono (by omega), h.y.mono (by omega), h.w.mono (by omega), h1⟩
    · exact ⟨h.x.mono (by omega), (gd_add h.y h1).mono (by omega), h.w.mono (by omega), h2⟩
theorem gd2 {p q s : Int} (h : g3 p q s = 1 ∧ 0 < s ∧ p.natAbs < 4 ∧ q.natAbs < 4 ∧ s.natAbs < 4) : Gd 2 ⟨p, q, s⟩ := by
  obtain ⟨h1, h2, h3, h4, h5⟩ := h
  exact ⟨⟨h2, h1⟩, h3, h4, h5⟩
theorem small_whl {d c : Int} {j : Nat} (h : c.natAbs ≤ 2 ^ j) : Small d j ⟨c, 0, 1⟩ := ⟨nf_whl c, by
  show (c.natAbs : Int) + d * (((0 : Int).natAbs : Nat) : Int) ≤ 2 ^ j
  rw [show (((0 : Int).natAbs : Nat) : Int) = 0 from rfl, Int.mul_zero, Int.add_zero]
  exact_mod_cast h, Nat.one_le_two_pow⟩
theorem small_third (d : Int) : Small d 2 ⟨1, 0, 3⟩ := ⟨⟨by decide, by decide +kernel⟩, by
  show (((1 : Int).natAbs : Nat) : Int) + d * (((0 : Int).natAbs : Nat) : Int) ≤ 2 ^ 2
  rw [show (((0 : Int).natAbs : Nat) : Int) = 0 from rfl, Int.mul_zero, Int.add_zero]
  decide, by decide⟩
theorem wheelAt_ok {d : Int} (hd : 0 < d) {n m : Nat} {t : Tl} (h : TOk n m t) {a b c e : Int} (ga : a.natAbs ≤ 2 ^ 1) (gb : b.natAbs ≤ 2 ^ 1) (gc : c.natAbs ≤ 2 ^ 1) (ge : e.natAbs ≤ 2 ^ 1) : TOk (n + 7) (m + n + 14) (wheelAt d t a b c e) := by
  have w := gd_by hd h.w (small_third d)
  have k := gd_by hd h.h (small_third d)
  exact ⟨(gd_add h.x (gd_by hd w (small_whl ga))).mono (by omega), (gd_add h.y (gd_by hd k (small_whl gb))).mono (by omega), (gd_by hd w (small_whl gc)).mono (by omega), (gd_by hd k (small_whl ge)).mono (by omega)⟩
theorem wheel_ok {d : Int} (hd : 0 < d) {n m : Nat} {t : Tl} (h : TOk n m t) : ∀ u ∈ wheelT d t, TOk (n + 7) (m + n + 14) u := by
  intro u hu
  simp only [wheelT, List.mem_cons, List.not_mem_nil, or_false] at hu
  rcases hu with hu | hu | hu | hu | hu <;> subst hu <;> exact wheelAt_ok hd h (by decide) (by decide) (by decide) (by decide)
theorem ev_fr {Γ : List Sem1} {G : List D} {f : Fx} {st : Sto} {ds : List D} (h : evF Γ G f st = some ds) : ev Γ G (.fr f) st = some (.list ds) := by
  simp only [ev, h, Option.map_some]
/-- how the tiles come about -/
inductive CutT (S : List Ln) (d : Int) (w h : Ln) : Nat → List Tl → Prop where
  | start : CutT S d w h 0 [⟨⟨0, 0, 1⟩, ⟨0, 0, 1⟩, w, h⟩]
  | step {k : Nat} (l r : List Tl) (t : Tl) (ps : List Tl) (k1 : CutT S d w h k (l ++ t :: r)) (hp : (∃ s, s ∈ S ∧ (ps = halfX d t s ∨ ps = halfY d t s)) ∨ ps = wheelT d t) : CutT S d w h (k + 1) (l ++ r ++ ps)
theorem CutT.len {S : List Ln} {d : Int} {w h : Ln} {k : Nat} {ts : List Tl} (c : CutT S d w h k ts) : 1 ≤ ts.length ∧ ts.length ≤ 1 + 4 * k := by
  induction c with
  | start => exact ⟨Nat.le_refl _, by simp⟩
  | step l r t ps k1 hp ih =>
    have : 2 ≤ ps.length ∧ ps.length ≤ 5 := by
      rcases hp with ⟨s, _, hp | hp⟩ | hp <;> subst hp <;> simp [halfX, halfY, wheelT]
    simp only [List.length_append, List.length_cons] at ih ⊢
    omega
theorem CutT.ok {S : List Ln} {d : Int} (hd : 0 < d) (hS : ∀ s ∈ S, Small d 7 s ∧ Small d 7 (subL ⟨1, 0, 1⟩ s)) {w h : Ln} (gw : Gd 6 w) (gh : Gd 6 h) {k : Nat} {ts : List Tl} (c : CutT S d w h k ts) : ∀ t ∈ ts, TOk (6 + 7 * k) (6 + 25 * k + 9 * (k * k)) t := by
  induction c with
  | start =>
    intro t ht
    simp only [List.mem_singleton] at ht
    subst ht
    have g0 : Gd 6 ⟨0, 0, 1⟩ := (gd2 (by decide +kernel)).mono (by decide)
    exact ⟨g0, g0, gw, gh⟩
  | step l r t ps k1 hp ih =>
    rename_i k
    have e : 9 * ((k + 1) * (k + 1)) = 9 * (k * k) + 18 * k + 9 := by
      have : (k + 1) * (k + 1) = k * k + 2 * k + 1 := by grind
      omega
    have ht := ih t (by simp)
    intro u hu
    rw [List.mem_append, List.mem_append] at hu
    rcases hu with (hu | hu) | hu
    · exact (ih u (by simp [hu])).mono (by omega) (by omega)
    · exact (ih u (by simp [hu])).mono (by omega) (by omega)
    · rcases hp with ⟨s, hs, hp⟩ | hp
      · obtain ⟨h1, h2⟩ := half_ok hd ht (hS s hs).1 (hS s hs).2
        rcases hp with hp | hp <;> subst hp
        · exact (h1 u hu).mono (by omega) (by omega)
        · exact (h2 u hu).mono (by omega) (by omega)
      · subst hp
        exact (wheel_ok hd ht u hu).mono (by omega) (by omega)
end PL
namespace PL
open PySem PySem.Spec PyProof.Rows L2
/-! ### signs of products -/
def cA (d p q : Int) : Prop := 0 ≤ p ∧ d * (q * q) ≤ p * p
def cB (d p q : Int) : Prop := 0 ≤ q ∧ p * p ≤ d * (q * q)
theorem vS_ab {d p q : Int} (hd : 0 < d) (h : 0 ≤ vS d p q) : cA d p q ∨ cB d p q := by
  rcases vS_cases hd h with ⟨a, b⟩ | ⟨a, b, c⟩ | ⟨a, b, c⟩
  · rcases Int.le_total (d * (q * q)) (p * p) with h | h
    · exact .inl ⟨a, h⟩
    · exact .inr ⟨b, h⟩
  · exact .inl ⟨a, c⟩
  · exact .inr ⟨b, c⟩
theorem cA_nn {d p q : Int} (hd : 0 < d) (h : cA d p q) : 0 ≤ vS d p q := by
  obtain ⟨a, b⟩ := h
  rcases Int.le_total 0 q with c | c
  · exact vS_pp_nn hd a c
  · rw [vS_pn a c]; omega
theorem cB_nn {d p q : Int} (hd : 0 < d) (h : cB d p q) : 0 ≤ vS d p q := by
  obtain ⟨a, b⟩ := h
  rcases Int.le_total 0 p with c | c
  · exact vS_pp_nn hd c a
  · rw [vS_np c a]; omega
theorem abs_of_sq {x y : Int} (hy : 0 ≤ y) (h : x * x ≤ y * y) : -y ≤ x ∧ x ≤ y := by
  refine ⟨?_, le_of_sq hy h⟩
  have : -x ≤ y := le_of_sq hy (by have : -x * -x = x * x := by grind
                                   omega)
  omega
theorem mul_le_nn {a b c e : Int} (h : a ≤ b) (k : c ≤ e) (hc : 0 ≤ c) (hb : 0 ≤ b) : a * c ≤ b * e := Int.mul_le_mul h k hc hb
theorem dsq_nn {d x : Int} (hd : 0 < d) : 0 ≤ d * (x * x) := Int.mul_nonneg (by omega) (sq_nn x)
theorem nn_mul {d p q p' q' : Int} (hd : 0 < d) (h : 0 ≤ vS d p q) (h' : 0 ≤ vS d p' q') : 0 ≤ vS d (p * p' + d * q * q') (p * q' + q * p') := by
  have hn : (p * p' + d * q * q') * (p * p' + d * q * q') - d * ((p * q' + q * p') * (p * q' + q * p')) = (p * p - d * (q * q)) * (p' * p' - d * (q' * q')) := by grind
  have AB : ∀ {p q p' q' : Int}, cA d p q → cB d p' q' → cB d (p * p' + d * q * q') (p * q' + q * p') := by
    intro p q p' q' ⟨a1, a2⟩ ⟨b1, b2⟩
    have hn : d * ((p * q' + q * p') * (p * q' + q * p')) - (p * p' + d * q * q') * (p * p' + d * q * q') = (p * p - d * (q * q)) * (d * (q' * q') - p' * p') := by grind
    have k1 : 0 ≤ (p * p - d * (q * q)) * (d * (q' * q') - p' * p') := Int.mul_nonneg (by omega) (by omega)
    have k2 : d * ((q * p') * (q * p')) ≤ d * ((p * q') * (p * q')) := by
      have e1 : d * (q * q) * (p' * p') ≤ p * p * (d * (q' * q')) := mul_le_nn a2 b2 (sq_nn p') (sq_nn p)
      have e2 : d * ((q * p') * (q * p')) = d * (q * q) * (p' * p') := by grind
      have e3 : d * ((p * q') * (p * q')) = p * p * (d * (q' * q')) := by grind
      omega
    have k3 : (q * p') * (q * p') ≤ (p * q') * (p * q') := Int.le_of_mul_le_mul_left k2 hd
    have k4 := abs_of_sq (Int.mul_nonneg a1 b1) k3
    exact ⟨by omega, by omega⟩
  rcases vS_ab hd h with a | b <;> rcases vS_ab hd h' with a' | b'
  · obtain ⟨a1, a2⟩ := a
    obtain ⟨b1, b2⟩ := a'
    have k1 : 0 ≤ (p * p - d * (q * q)) * (p' * p' - d * (q' * q')) := Int.mul_nonneg (by omega) (by omega)
    have k2 : (d * q * q') * (d * q * q') ≤ (p * p') * (p * p') := by
      have e1 : d * (q * q) * (d * (q' * q')) ≤ p * p * (p' * p') := mul_le_nn a2 b2 (dsq_nn hd) (sq_nn p)
      have e2 : (d * q * q') * (d * q * q') = d * (q * q) * (d * (q' * q')) := by grind
      have e3 : (p * p') * (p * p') = p * p * (p' * p') := by grind
      omega
    have k4 := abs_of_sq (Int.mul_nonneg a1 b1) k2
    exact cA_nn hd ⟨by omega, by omega⟩
  · exact cB_nn hd (AB a b')
  · have := cB_nn hd (AB a' b)
    rwa [show p' * p + d * q' * q = p * p' + d * q * q' by grind, show p' * q + q' * p = p * q' + q * p' by grind] at this
  · obtain ⟨a1, a2⟩ := b
    obtain ⟨b1, b2⟩ := b'
    have k1 : 0 ≤ (d * (q * q) - p * p) * (d * (q' * q') - p' * p') := Int.mul_nonneg (by omega) (by omega)
    have k0 : (d * (q * q) - p * p) * (d * (q' * q') - p' * p') = (p * p - d * (q * q)) * (p' * p' - d * (q' * q')) := by grind
    have k2 : (p * p') * (p * p') ≤ (d * (q * q')) * (d * (q * q')) := by
      have e1 : p * p * (p' * p') ≤ d * (q * q) * (d * (q' * q')) := mul_le_nn a2 b2 (sq_nn p') (dsq_nn hd)
      have e2 : (d * (q * q')) * (d * (q * q')) = d * (q * q) * (d * (q' * q')) := by grind
      have e3 : (p * p') * (p * p') = p * p * (p' * p') := by grind
      omega
    have k4 := abs_of_sq (Int.mul_nonneg (by omega) (Int.mul_nonneg a1 b1)) k2
    have e : d * q * q' = d * (q * q') := by grind
    exact cA_nn hd ⟨by omega, by omega⟩
theorem pos_mul {d p q p' q' : Int} (hd : NS d) (h : 0 < vS d p q) (h' : 0 < vS d p' q') : 0 < vS d (p * p' + d * q * q') (p * q' + q * p') := by
  have h1 := nn_mul hd.pos (Int.le_of_lt h) (Int.le_of_lt h')
  have h2 : vS d (p * p' + d * q * q') (p * q' + q * p') ≠ 0 := by
    intro z
    obtain ⟨z1, z2⟩ := (vS_zero hd).mp z
    have hn := @norm_mul d p q p' q'
    rw [z1, z2] at hn
    have z3 : (p * p - d * q * q) * (p' * p' - d * q' * q') = 0 := by rw [← hn]; grind
    rcases Int.mul_eq_zero.mp z3 with z | z
    · have := (vS_zero (q := q) hd).mpr (hd.zero z); omega
    · have := (vS_zero (q := q') hd).mpr (hd.zero z); omega
  omega
theorem sgL_gt {d : Int} {a : Ln} : 0 < sgL d a ↔ 0 < vS d a.p a.q := sgI_gt
theorem sg_pos {d p q s : Int} (h : 0 < s) : 0 < sgL d (nrm p q s) ↔ 0 < vS d p q := by
  unfold sgL
  rw [twoS_vS, sg_nrm h]
  exact sgI_gt
theorem sgL_mul {d : Int} (hd : NS d) {a b : Ln} (h : Nf a) (k : Nf b) (x : 0 < sgL d a) (y : 0 < sgL d b) : 0 < sgL d (mulL d a b) := by
  unfold mulL
  rw [sg_pos (Int.mul_pos h.pos k.pos)]
  exact pos_mul hd (sgL_gt.mp x) (sgL_gt.mp y)
theorem nrm_flip {p q s : Int} (h : s ≠ 0) : nrm p q s = nrm (-p) (-q) (-s) := nrm_eq h (by omega) (by grind) (by grind)
theorem sgL_inv {d : Int} (hd : NS d) {a : Ln} (h : Nf a) (x : 0 < sgL d a) : 0 < sgL d (invL d a) := by
  have x' := sgL_gt.mp x
  have hs := h.pos
  have hd0 := hd.pos
  have e : d * a.q * a.q = d * (a.q * a.q) := by grind
  have hn : a.p * a.p - d * a.q * a.q ≠ 0 := by
    intro z
    have := (vS_zero (q := a.q) hd).mpr (hd.zero z); omega
  have nz : ∀ u v : Int, (u ≠ 0 ∨ v ≠ 0) → vS d u v ≠ 0 := fun u v k z => by
    have := (vS_zero hd).mp z; omega
  have hpq : a.p ≠ 0 ∨ a.q ≠ 0 := by
    by_cases c : a.p = 0
    · by_cases c2 : a.q = 0
      · rw [c, c2] at hn; exact absurd (by grind) hn
      · exact .inr c2
    · exact .inl c
  unfold invL
  rcases vS_ab hd0 (Int.le_of_lt x') with ⟨a1, a2⟩ | ⟨a1, a2⟩
  · rw [sg_pos (by omega)]
    have e1 : -a.s * a.q = a.s * -a.q := by grind
    rw [e1, vS_scale_pos hs]
    have := cA_nn (p := a.p) (q := -a.q) hd0 ⟨a1, by rw [show -a.q * -a.q = a.q * a.q by grind]; exact a2⟩
    have := nz a.p (-a.q) (by omega)
    omega
  · rw [nrm_flip hn, sg_pos (by omega)]
    have e1 : -(a.s * a.p) = a.s * -a.p := by grind
    have e2 : -(-a.s * a.q) = a.s * a.q := by grind
    rw [e1, e2, vS_scale_pos hs]
    have := cB_nn (p := -a.p) (q := a.q) hd0 ⟨a1, by rw [show -a.p * -a.p = a.p * a.p by grind]; exact a2⟩
    have := nz (-a.p) a.q (by omega)
    omega
end PL
namespace PL
open PySem PySem.Spec PyProof.Rows L2
/-! ### lists of one's own -/
section
variable {Γ : List Sem1} {G : List D} {s : Sm} {r : Sms} {st : Sto} {xs : List D}
theorem run_own {np n : Nat} {b : Sms} {ds : List D} (hl : ds.length = np) (h : exs Γ G b (ds.map .val ++ List.replicate (n - np) .no) = some (.own xs)) : runO Γ G np n b ds = some (.list xs) := by
  unfold runO
  rw [if_pos hl, h]
  rfl
theorem ex_retO {i : Nat} (h : get st i = .own xs) : ex Γ G (.retO i) st = some (.own xs) := by
  simp [h]
theorem ex_retF {f : Fx} (h : evF Γ G f st = some xs) : ex Γ G (.retF f) st = some (.own xs) := by
  simp [h]
theorem exs_own (h : ex Γ G s st = some (.own xs)) : exs Γ G (.cons s r) st = some (.own xs) := by
  show thenO (ex Γ G s st) (fun st' => exs Γ G r st') = _
  rw [h]; rfl
theorem ev_callF {j : Nat} {es : Exs} {ds : List D} {f : Sem1} (h1 : evs Γ G es st = some ds) (h2 : Γ[j]? = some f) (h3 : f ds = some (.list xs)) : evF Γ G (.callF j es) st = some xs := by
  simp only [evF, h1, h2, Option.bind_some, h3]
end
theorem canLay_ints (l : List Int) : (PyData.list (l.map .int)).canLay0 = true := by
  show PyData.canLayAll0 (l.map PyData.int) = true
  exact canLayAll_ints l
/-! ### the floor as a number -/
open Classical in
noncomputable def flr (d : Int) (a : Ln) : Int := if h : ∃ f, IsFl d a f then choose h else 0
theorem flr_eq {d : Int} (hd : 0 < d) {a : Ln} (hs : 0 < a.s) {f : Int} (h : IsFl d a f) : flr d a = f := by
  have e : ∃ f, IsFl d a f := ⟨f, h⟩
  unfold flr
  rw [dif_pos e]
  exact (Classical.choose_spec e).eq hd hs h
/-! ### the partner -/
theorem one_sub {r : Ln} (h : Nf r) : subL r ⟨1, 0, 1⟩ = nrm (r.p - r.s) r.q r.s := by
  have hs := h.pos
  have e := @subL_nrm r.p r.q r.s 1 0 1 (by omega) (by decide)
  rw [nrm_id h, ← one_nrm] at e
  rw [e]
  exact nrm_eq (by omega) (by omega) (by grind) (by grind)
structure Part (d : Int) (r o : Ln) : Prop where
  q : o.q ≠ 0
  one : 0 < sgL d (subL o ⟨1, 0, 1⟩)
  inv : divL d o (subL o ⟨1, 0, 1⟩) = r
  sum : addL (divL d ⟨1, 0, 1⟩ r) (divL d ⟨1, 0, 1⟩ o) = ⟨1, 0, 1⟩
  n1 : (subL r ⟨1, 0, 1⟩).p * (subL r ⟨1, 0, 1⟩).p - d * (subL r ⟨1, 0, 1⟩).q * (subL r ⟨1, 0, 1⟩).q ≠ 0
  n2 : (subL o ⟨1, 0, 1⟩).p * (subL o ⟨1, 0, 1⟩).p - d * (subL o ⟨1, 0, 1⟩).q * (subL o ⟨1, 0, 1⟩).q ≠ 0
  n3 : r.p * r.p - d * r.q * r.q ≠ 0
  n4 : o.p * o.p - d * o.q * o.q ≠ 0
theorem part_of {d : Int} (hd : NS d) {r : Ln} (h : Nf r) (hq : r.q ≠ 0) (x : 0 < sgL d (subL r ⟨1, 0, 1⟩)) : Part d r (divL d r (subL r ⟨1, 0, 1⟩)) := by
  have hs := h.pos
  obtain ⟨p, q, s⟩ := r
  simp only at hq hs
  have hs' : s ≠ 0 := by omega
  have er : (⟨p, q, s⟩ : Ln) = nrm p q s := (nrm_id h).symm
  have et := one_sub h
  simp only at et
  rw [et] at x ⊢
  have hN : (p - s) * (p - s) - d * q * q ≠ 0 := hd.ne (.inr hq)
  have hM : p * p - d * q * q ≠ 0 := hd.ne (.inr hq)
  have eo : divL d ⟨p, q, s⟩ (nrm (p - s) q s) = nrm (p * (p - s) - d * q * q) (-s * q) ((p - s) * (p - s) - d * q * q) := by
    rw [er, divL_nrm hs' hs' hN]
    exact nrm_eq (ne_mul hs' hN) hN (by grind) (by grind)
  have hQ : -s * q ≠ 0 := ne_mul (by omega) hq
  have eo1 : subL (nrm (p * (p - s) - d * q * q) (-s * q) ((p - s) * (p - s) - d * q * q)) ⟨1, 0, 1⟩ = nrm (s * (p - s)) (-s * q) ((p - s) * (p - s) - d * q * q) := by
    rw [one_nrm, subL_nrm hN (by decide)]
    exact nrm_eq (by simpa using hN) hN (by grind) (by grind)
  have hN2 : s * (p - s) * (s * (p - s)) - d * (-s * q) * (-s * q) ≠ 0 := hd.ne (.inr hQ)
  have hN3 : (p * (p - s) - d * q * q) * (p * (p - s) - d * q * q) - d * (-s * q) * (-s * q) ≠ 0 := hd.ne (.inr hQ)
  have nfo : Nf (nrm (p * (p - s) - d * q * q) (-s * q) ((p - s) * (p - s) - d * q * q)) := nrm_nf hN
  have qo : (nrm (p * (p - s) - d * q * q) (-s * q) ((p - s) * (p - s) - d * q * q)).q ≠ 0 := fun z => hQ ((nrm_q0 hN).mp z)
  have qt : (nrm (p - s) q s).q ≠ 0 := fun z => hq ((nrm_q0 hs').mp z)
  have qo1 : (nrm (s * (p - s)) (-s * q) ((p - s) * (p - s) - d * q * q)).q ≠ 0 := fun z => hQ ((nrm_q0 hN).mp z)
  rw [eo]
  refine ⟨qo, ?_, ?_, ?_, by rw [et]; exact hd.ne (.inr qt), by rw [eo1]; exact hd.ne (.inr qo1), hM, hd.ne (.inr qo)⟩
  · rw [eo1]
    have e : nrm (s * (p - s)) (-s * q) ((p - s) * (p - s) - d * q * q) = invL d (nrm (p - s) q s) := (invL_nrm hs' hN).symm
    rw [e]
    exact sgL_inv hd (nrm_nf hs') x
  · rw [eo1, divL_nrm hN hN hN2, er]
    exact nrm_eq (ne_mul hN hN2) hs' (by grind) (by grind)
  · rw [er, one_nrm, divL_nrm (by decide) hs' hM, divL_nrm (by decide) hN hN3, addL_nrm (ne_mul (by decide) hM) (ne_mul (by decide) hN3)]
    refine nrm_eq (ne_mul (ne_mul (by decide) hM) (ne_mul (by decide) hN3)) (by decide) ?_ ?_
    · grind
    · grind
end PL
namespace PL
open PySem PySem.Spec PyProof.Rows L2
/-! ### floors of quotients, and what is left -/
theorem cf_bd {d u E Q : Int} (hd : 0 < d) (h64 : d ≤ 64) (hQ : 0 < Q) (h : 0 ≤ vS d (-u) E) (k : vS d (-u - Q) E < 0) :
    u.natAbs ≤ Q.natAbs + 8 * E.natAbs ∧ (d * E * E - u * u).natAbs ≤ Q.natAbs * (16 * E.natAbs + Q.natAbs) := by
  obtain ⟨e, he⟩ : ∃ e : Int, e = (E.natAbs : Int) := ⟨_, rfl⟩
  have he0 : 0 ≤ e := by omega
  have hee : e * e = E * E := by
    rcases Int.le_total 0 E with c | c
    · rw [show e = E by omega]
    · rw [show e = -E by omega]; grind
  have hde : d * (E * E) ≤ 64 * (e * e) := by
    rw [hee]
    exact Int.mul_le_mul_of_nonneg_right h64 (sq_nn E)
  have hde0 : 0 ≤ d * (E * E) := dsq_nn hd
  have big : ∀ x : Int, 8 * e < x → d * (E * E) < x * x := fun x hx => by
    have h1 : (8 * e + 1) * (8 * e + 1) ≤ x * x := sq_le (by omega) (by omega)
    have h2 : (8 * e + 1) * (8 * e + 1) = 64 * (e * e) + 16 * e + 1 := by grind
    omega
  have c1 : u ≤ 8 * e := by
    refine Int.not_lt.mp fun z => ?_
    have z2 := big u z
    have z3 : -u * -u = u * u := by grind
    rcases Int.le_total 0 E with c | c
    · rw [vS_np (by omega) c] at h; omega
    · rw [vS_nn (by omega) c] at h
      have := sq_nn u
      omega
  have c2 : -u - Q ≤ 8 * e := by
    refine Int.not_lt.mp fun z => ?_
    have z2 := big _ z
    rcases Int.le_total 0 E with c | c
    · have := vS_pp_nn (p := -u - Q) (q := E) hd (by omega) c; omega
    · rw [vS_pn (by omega) c] at k; omega
  have goal : -(Q * (16 * e + Q)) ≤ d * (E * E) - u * u ∧ d * (E * E) - u * u ≤ Q * (16 * e + Q) := by
    have e0 : Q * (16 * e + Q) = 16 * (Q * e) + Q * Q := by grind
    have qe : 0 ≤ Q * e := Int.mul_nonneg (by omega) he0
    have qq := sq_nn Q
    rw [e0]
    rcases Int.le_total 0 E with c | c
    · rcases Int.le_total 0 u with cu | cu
      · rw [vS_np (by omega) c] at h
        rw [vS_np (by omega) c] at k
        have z1 : -u * -u = u * u := by grind
        have z2 : (-u - Q) * (-u - Q) = u * u + 2 * (Q * u) + Q * Q := by grind
        have z3 : Q * u ≤ 8 * (Q * e) := by
          have := Int.mul_le_mul_of_nonneg_left c1 (by omega : 0 ≤ Q)
          have z : Q * (8 * e) = 8 * (Q * e) := by grind
          omega
        omega
      · have z0 : -u - Q < 0 := by
          refine Int.not_le.mp fun z => ?_
          have := vS_pp_nn (p := -u - Q) (q := E) hd z c; omega
        rw [vS_np (by omega) c] at k
        have z1 : (-u - Q) * (-u - Q) = (Q + u) * (Q + u) := by grind
        have z2 : (Q + u) * (Q + u) ≤ Q * Q := sq_le (by omega) (by omega)
        have z3 : -u * -u ≤ Q * Q := sq_le (by omega) (by omega)
        have z4 : -u * -u = u * u := by grind
        have := sq_nn u
        omega
    · have cu : u ≤ 0 := by
        refine Int.not_lt.mp fun z => ?_
        rw [vS_nn (by omega) c] at h
        have := Int.mul_pos z z
        have z4 : -u * -u = u * u := by grind
        omega
      have z4 : -u * -u = u * u := by grind
      rw [vS_pn (by omega) c] at h
      rcases Int.le_total 0 (-u - Q) with cq | cq
      · rw [vS_pn (by omega) c] at k
        have z2 : (-u - Q) * (-u - Q) = u * u - 2 * (Q * -u) + Q * Q := by grind
        have z3 : Q * -u ≤ Q * (Q + 8 * e) := Int.mul_le_mul_of_nonneg_left (by omega) (by omega : 0 ≤ Q)
        have z5 : Q * (Q + 8 * e) = Q * Q + 8 * (Q * e) := by grind
        omega
      · have z3 : -u * -u ≤ Q * Q := sq_le (by omega) (by omega)
        omega
  refine ⟨by omega, ?_⟩
  have e1 : d * E * E = d * (E * E) := by grind
  have e2 : ((Q.natAbs * (16 * E.natAbs + Q.natAbs) : Nat) : Int) = Q * (16 * e + Q) := by
    rw [Int.natCast_mul, Int.natCast_add, Int.natCast_mul]
    rw [show (Q.natAbs : Int) = Q by omega, ← he]
    rfl
  rw [e1]
  omega
structure CS (d E : Int) (B : Nat) (a : Ln) : Prop where
  ex : ∃ P Q : Int, a = nrm P E Q ∧ Q ≠ 0 ∧ Q ∣ P * P - d * E * E ∧ P.natAbs ≤ B ∧ Q.natAbs ≤ B
theorem CS.nf {d E : Int} {B : Nat} {a : Ln} (h : CS d E B a) : Nf a := by
  obtain ⟨P, Q, rfl, h1, _⟩ := h.ex
  exact nrm_nf h1
theorem CS.gd {d E : Int} {B n : Nat} {a : Ln} (h : CS d E B a) (hE : Sz n E) (hB : B < 2 ^ n) : Gd n a := by
  obtain ⟨P, Q, rfl, h1, _, h2, h3⟩ := h.ex
  exact gd_nrm h1 (Nat.lt_of_le_of_lt h2 hB) hE (Nat.lt_of_le_of_lt h3 hB)
theorem CS.start {d : Int} {n : Nat} {a : Ln} (h : Gd n a) : CS d (a.q * a.s) (2 ^ (n + n)) a := by
  have hs := h.ne
  have sz (x y : Int) (hx : Sz n x) (hy : Sz n y) : (x * y).natAbs ≤ 2 ^ (n + n) := Nat.le_of_lt (hx.mul hy)
  refine ⟨a.p * a.s, a.s * a.s, ?_, ne_mul hs hs, ⟨a.p * a.p - d * a.q * a.q, by grind⟩, sz _ _ h.p h.s, sz _ _ h.s h.s⟩
  refine (nrm_id h.nf).symm.trans (nrm_eq hs (ne_mul hs hs) ?_ ?_)
  · grind
  · grind
theorem nbL_nrm {d P E Q k : Int} (hQ : 0 < Q) : nbL d (nrm P E Q) k ↔ 0 ≤ vS d (P - k * Q) E := by
  have hq : Q ≠ 0 := by omega
  rw [nbL_sg (nrm_nf hq), whl_nrm, subL_nrm hq (by decide)]
  unfold sgL
  rw [twoS_vS, sg_nrm (by omega), sgI_ge]
  rw [show P * 1 + -k * Q = P - k * Q by grind, show E * 1 + -0 * Q = E by grind]
theorem sub_flr {P E Q f : Int} (hQ : Q ≠ 0) : subL (nrm P E Q) ⟨f, 0, 1⟩ = nrm (P - f * Q) E Q := by
  rw [whl_nrm, subL_nrm hQ (by decide)]
  exact nrm_eq (by simpa using hQ) hQ (by grind) (by grind)
theorem CS.step {d E : Int} {B : Nat} {a : Ln} (hd : NS d) (h64 : d ≤ 64) (h : CS d E B a) {f : Int} (fl : IsFl d a f) (hz : subL a ⟨f, 0, 1⟩ ≠ ⟨0, 0, 1⟩) :
    CS d E (B + 16 * E.natAbs) (invL d (subL a ⟨f, 0, 1⟩)) := by
  obtain ⟨P, Q, rfl, hQ, hdiv, hP, hB⟩ := h.ex
  obtain ⟨u, hu⟩ : ∃ u, u = f * Q - P := ⟨_, rfl⟩
  rw [sub_flr hQ] at hz ⊢
  have hu' : P - f * Q = -u := by omega
  rw [hu'] at hz ⊢
  have hne : u ≠ 0 ∨ E ≠ 0 := by
    by_cases c : u = 0
    · by_cases c2 : E = 0
      · refine absurd ?_ hz
        rw [c, c2, zero_nrm]
        exact nrm_eq hQ (by decide) (by grind) (by grind)
      · exact .inr c2
    · exact .inl c
  have hn : -u * -u - d * E * E ≠ 0 := hd.ne (by omega)
  obtain ⟨R, hR⟩ : Q ∣ d * E * E - u * u := by
    obtain ⟨c, hc⟩ := hdiv
    exact ⟨-c - f * f * Q + 2 * f * P, by rw [hu]; grind⟩
  have hR0 : R ≠ 0 := fun z => by
    rw [z] at hR
    exact hn (by grind)
  have bd : u.natAbs ≤ Q.natAbs + 8 * E.natAbs ∧ (d * E * E - u * u).natAbs ≤ Q.natAbs * (16 * E.natAbs + Q.natAbs) := by
    rcases Int.lt_or_gt_of_ne hQ with c | c
    · have e : nrm P E Q = nrm (-P) (-E) (-Q) := nrm_flip hQ
      rw [e] at fl
      have k1 := (nbL_nrm (by omega)).mp fl.lo
      have k2 := Int.not_le.mp fun z => fl.hi ((nbL_nrm (by omega)).mpr z)
      have := cf_bd (u := -u) (E := -E) (Q := -Q) hd.pos h64 (by omega) (by rw [show - -u = -P - f * -Q by grind]; exact k1) (by
        rw [show - -u - -Q = -P - (f + 1) * -Q by grind]; exact k2)
      rw [show d * -E * -E - -u * -u = d * E * E - u * u by grind] at this
      simpa only [Int.natAbs_neg] using this
    · have k1 := (nbL_nrm c).mp fl.lo
      have k2 := Int.not_le.mp fun z => fl.hi ((nbL_nrm c).mpr z)
      exact cf_bd hd.pos h64 c (by rw [← hu']; exact k1) (by
        rw [show -u - Q = P - (f + 1) * Q by grind]; exact k2)
  refine ⟨u, R, ?_, hR0, ⟨-Q, by grind⟩, by omega, ?_⟩
  · rw [invL_nrm hQ hn]
    refine nrm_eq hn hR0 ?_ ?_
    · grind
    · grind
  · have h1 := bd.2
    rw [hR, Int.natAbs_mul] at h1
    have := Nat.le_of_mul_le_mul_left h1 (by omega)
    omega
/-! ### 1 by what is left -/
theorem rest_pos {d : Int} (hd : NS d) {a : Ln} (h : Nf a) {f : Int} (fl : IsFl d a f) (hz : subL a ⟨f, 0, 1⟩ ≠ ⟨0, 0, 1⟩) : 0 < sgL d (subL a ⟨f, 0, 1⟩) := by
  have k1 := (nbL_sg h f).mp fl.lo
  have nw : Nf (⟨f, 0, 1⟩ : Ln) := nf_whl f
  have k2 : sgL d (subL a ⟨f, 0, 1⟩) ≠ 0 := fun z => by
    unfold sgL at z
    rw [sgI_zero, twoS_zero hd (nf_sub h nw)] at z
    exact hz z
  omega
theorem rest_one {d : Int} {a : Ln} (h : Nf a) {f : Int} (fl : IsFl d a f) : 0 < sgL d (subL ⟨1, 0, 1⟩ (subL a ⟨f, 0, 1⟩)) := by
  have k1 : ¬ 0 ≤ sgL d (subL a ⟨f + 1, 0, 1⟩) := fun z => fl.hi ((nbL_sg h (f + 1)).mpr z)
  have e := sub_sub_whl h f 1
  have nw : Nf (⟨f, 0, 1⟩ : Ln) := nf_whl f
  have n1 : Nf (⟨1, 0, 1⟩ : Ln) := nf_whl 1
  rw [← e] at k1
  rw [sub_swap (nf_sub h nw) n1, sgL_neg]
  omega
theorem norm_of_pos {d : Int} (hd : NS d) {a : Ln} (h : Nf a) (x : 0 < sgL d a) : a.p * a.p - d * a.q * a.q ≠ 0 := by
  refine norm_ne hd h fun z => ?_
  rw [z] at x
  have : sgL d ⟨0, 0, 1⟩ = 0 := by simp [sgL, twoS, sgI]
  omega
theorem inv_sub_one {d : Int} {r : Ln} (h : Nf r) (hn : r.p * r.p - d * r.q * r.q ≠ 0) : subL (invL d r) ⟨1, 0, 1⟩ = mulL d (invL d r) (subL ⟨1, 0, 1⟩ r) := by
  obtain ⟨p, q, s⟩ := r
  have hs : s ≠ 0 := by have : 0 < s := h.pos; omega
  simp only at hn
  have er : (⟨p, q, s⟩ : Ln) = nrm p q s := (nrm_id h).symm
  rw [er, invL_nrm hs hn, one_nrm, subL_nrm hn (by decide), subL_nrm (by decide) hs, mulL_nrm hn (ne_mul (by decide) hs)]
  refine nrm_eq (ne_mul hn (by decide)) (ne_mul hn (ne_mul (by decide) hs)) ?_ ?_
  · grind
  · grind
theorem inv_gt {d : Int} (hd : NS d) {r : Ln} (h : Nf r) (x : 0 < sgL d r) (y : 0 < sgL d (subL ⟨1, 0, 1⟩ r)) : 0 < sgL d (subL (invL d r) ⟨1, 0, 1⟩) := by
  have hn := norm_of_pos hd h x
  rw [inv_sub_one h hn]
  exact sgL_mul hd (nrm_nf hn) (nf_sub (nf_whl 1) h) (sgL_inv hd h x) y
theorem div_inv {d : Int} (hd : NS d) {r : Ln} (h : Nf r) (x : 0 < sgL d r) : divL d ⟨1, 0, 1⟩ (invL d r) = r := by
  have hn := norm_of_pos hd h x
  have hx := sgL_inv hd h x
  obtain ⟨p, q, s⟩ := r
  have hs : s ≠ 0 := by have : 0 < s := h.pos; omega
  simp only at hn
  have er : (⟨p, q, s⟩ : Ln) = nrm p q s := (nrm_id h).symm
  have hne : p ≠ 0 ∨ q ≠ 0 := by
    by_cases c : p = 0
    · by_cases c2 : q = 0
      · rw [c, c2] at hn; exact absurd (by grind) hn
      · exact .inr c2
    · exact .inl c
  have hn2 : s * p * (s * p) - d * (-s * q) * (-s * q) ≠ 0 := hd.ne (by
    rcases hne with c | c
    · exact .inl (ne_mul hs c)
    · exact .inr (ne_mul (by omega) c))
  rw [er, invL_nrm hs hn, one_nrm, divL_nrm (by decide) hn hn2]
  refine nrm_eq (ne_mul (by decide) hn2) hs ?_ ?_
  · grind
  · grind
theorem inv_q {d : Int} {r : Ln} (h : Nf r) (hn : r.p * r.p - d * r.q * r.q ≠ 0) (hq : r.q ≠ 0) : (invL d r).q ≠ 0 := by
  have hs := h.pos
  intro z
  have := (nrm_q0 hn).mp z
  exact ne_mul (by omega) hq this
theorem sub_q {a : Ln} (h : Nf a) (f : Int) : (subL a ⟨f, 0, 1⟩).q = 0 ↔ a.q = 0 := by
  have hs := h.pos
  have e := @sub_flr a.p a.q a.s f (by omega)
  rw [nrm_id h] at e
  rw [e, nrm_q0 (by omega)]
/-! ### the parts -/
noncomputable def nxt (d : Int) (a : Ln) : Ln := invL d (subL a ⟨flr d a, 0, 1⟩)
/-- the numbers met -/
noncomputable def cq (d : Int) : Nat → Ln → List Ln
  | 0, _ => []
  | n + 1, a => a :: (if subL a ⟨flr d a, 0, 1⟩ = ⟨0, 0, 1⟩ then [] else cq d n (nxt d a))
noncomputable def cfl (d : Int) (n : Nat) (a : Ln) : List Int := (cq d n a).map (flr d)
theorem cfl_succ (d : Int) (n : Nat) (a : Ln) : cfl d (n + 1) a = flr d a :: (if subL a ⟨flr d a, 0, 1⟩ = ⟨0, 0, 1⟩ then [] else cfl d n (nxt d a)) := by
  unfold cfl
  rw [cq]
  split <;> simp
theorem cq_len (d : Int) : ∀ (n : Nat) (a : Ln), (cq d n a).length ≤ n
  | 0, _ => Nat.le_refl _
  | n + 1, a => by
    rw [cq]
    split
    · simp
    · have := cq_len d n (nxt d a)
      simp only [List.length_cons]; omega
theorem cfl_len (d : Int) (n : Nat) (a : Ln) : (cfl d n a).length ≤ n := by
  unfold cfl
  rw [List.length_map]; exact cq_len d n a
theorem cq_take (d : Int) : ∀ (n m : Nat) (a : Ln), m ≤ n → (cq d n a).take m = cq d m a
  | _, 0, _, _ => by simp [cq]
  | n + 1, m + 1, a, h => by
    rw [cq, cq, List.take_succ_cons]
    split
    · simp
    · rw [cq_take d n m _ (by omega)]
theorem cfl_take (d : Int) (n m : Nat) (a : Ln) (h : m ≤ n) : (cfl d n a).take m = cfl d m a := by
  unfold cfl
  rw [← List.map_take, cq_take d n m a h]
/-- a number's floor is there -/
theorem flr_is {d : Int} (hd : NS d) (sd : d ≤ 64) {a : Ln} (h : Nf a) : IsFl d a (flr d a) := by
  have hs := h.pos
  have key : ∃ f, IsFl d a f := by
    obtain ⟨B, hB⟩ : ∃ B : Int, B = (a.p.natAbs : Int) + 8 * (a.q.natAbs : Int) + 1 := ⟨_, rfl⟩
    have low := nbL_low hd.pos sd hs (B := B) (by omega)
    have high := nbL_high hd.pos sd hs (B := B) (by omega)
    have : ∀ (n : Nat) (k : Int), nbL d a k → ¬ nbL d a (k + n) → ∃ f, IsFl d a f := by
      intro n
      induction n with
      | zero => intro k h1 h2; exact absurd (by simpa using h1) h2
      | succ n ih =>
        intro k h1 h2
        by_cases c : nbL d a (k + 1)
        · exact ih (k + 1) c (by rw [show k + 1 + (n : Int) = k + ((n + 1 : Nat) : Int) by omega]; exact h2)
        · exact ⟨k, h1, c⟩
    refine this (2 * B).toNat (-B) low ?_
    rw [show -B + ((2 * B).toNat : Int) = B by omega]; exact high
  obtain ⟨f, fl⟩ := key
  rw [flr_eq hd.pos hs fl]; exact fl
def Gt1 (d : Int) (a : Ln) : Prop := 0 < sgL d (subL a ⟨1, 0, 1⟩)
section
variable {d : Int} (hd : NS d) (sd : d ≤ 64)
include hd sd
theorem nxt_ok {a : Ln} (h : Nf a) (hz : subL a ⟨flr d a, 0, 1⟩ ≠ ⟨0, 0, 1⟩) : Nf (nxt d a) ∧ Gt1 d (nxt d a) ∧ (subL a ⟨flr d a, 0, 1⟩).p * (subL a ⟨flr d a, 0, 1⟩).p - d * (subL a ⟨flr d a, 0, 1⟩).q * (subL a ⟨flr d a, 0, 1⟩).q ≠ 0 ∧ (nxt d a).p * (nxt d a).p - d * (nxt d a).q * (nxt d a).q ≠ 0 ∧ 0 < sgL d (nxt d a) ∧ a = addL ⟨flr d a, 0, 1⟩ (divL d ⟨1, 0, 1⟩ (nxt d a)) := by
  have fl := flr_is hd sd h
  have r1 := rest_pos hd h fl hz
  have r2 := rest_one h fl
  have nr : Nf (subL a ⟨flr d a, 0, 1⟩) := nf_sub h (nf_whl (flr d a))
  have nn := norm_of_pos hd nr r1
  have k2 := sgL_inv hd nr r1
  have nv : Nf (nxt d a) := nrm_nf nn
  refine ⟨nv, inv_gt hd nr r1 r2, nn, norm_of_pos hd nv k2, k2, ?_⟩
  unfold nxt
  rw [div_inv hd nr r1, add_comm']
  exact (sub_add h (nf_whl (flr d a))).symm
theorem gt1_ge {a : Ln} (h : Nf a) (g : Gt1 d a) : 1 ≤ flr d a := by
  have fl := flr_is hd sd h
  exact fl.le hd.pos h.pos ((nbL_sg h 1).mpr (by unfold Gt1 at g; omega))
theorem gt1_whl {a : Ln} (h : Nf a) (g : Gt1 d a) (hz : subL a ⟨flr d a, 0, 1⟩ = ⟨0, 0, 1⟩) : 2 ≤ flr d a := by
  have h1 := gt1_ge hd sd h g
  by_cases c : flr d a = 1
  · unfold Gt1 at g
    rw [c] at hz
    rw [hz] at g
    have : sgL d ⟨0, 0, 1⟩ = 0 := by simp [sgL, twoS, sgI]
    omega
  · omega
theorem cfl_ge : ∀ (n : Nat) (a : Ln), Nf a → Gt1 d a → ∀ x ∈ cfl d n a, 1 ≤ x
  | 0, _, _, _, x, hx => by simp [cfl, cq] at hx
  | n + 1, a, h, g, x, hx => by
    rw [cfl_succ] at hx
    rcases List.mem_cons.mp hx with c | c
    · rw [c]; exact gt1_ge hd sd h g
    · split at c
      · simp at c
      · rename_i hz
        obtain ⟨k1, k2, _⟩ := nxt_ok hd sd h hz
        exact cfl_ge n _ k1 k2 x c
theorem cfl_tail (n : Nat) (a : Ln) (h : Nf a) : ∀ x ∈ (cfl d n a).tail, 1 ≤ x := by
  intro x hx
  cases n with
  | zero => simp [cfl, cq] at hx
  | succ n =>
    rw [cfl_succ] at hx
    simp only [List.tail_cons] at hx
    split at hx
    · simp at hx
    · rename_i hz
      obtain ⟨k1, k2, _⟩ := nxt_ok hd sd h hz
      exact cfl_ge hd sd n _ k1 k2 x hx
theorem cq_full : ∀ (n : Nat) (a : Ln), Nf a → a.q ≠ 0 → (cq d n a).length = n
  | 0, _, _, _ => rfl
  | n + 1, a, h, hq => by
    have hz : subL a ⟨flr d a, 0, 1⟩ ≠ ⟨0, 0, 1⟩ := fun z => by
      have := (sub_q h (flr d a)).mp (by rw [z])
      exact hq this
    obtain ⟨k1, k2, k3, _⟩ := nxt_ok hd sd h hz
    rw [cq, if_neg hz, List.length_cons, cq_full n _ k1 (inv_q (nf_sub h (nf_whl _)) k3 (fun z => hq ((sub_q h _).mp z)))]
theorem cfl_last : ∀ (n : Nat) (a : Ln), Nf a → Gt1 d a → (cfl d n a).length < n → ∃ x, (cfl d n a).getLast? = some x ∧ 2 ≤ x
  | 0, _, _, _, h => absurd h (by omega)
  | n + 1, a, h, g, hl => by
    rw [cfl_succ] at hl ⊢
    split at hl
    · rename_i hz
      rw [if_pos hz]
      exact ⟨_, rfl, gt1_whl hd sd h g hz⟩
    · rename_i hz
      rw [if_neg hz]
      obtain ⟨k1, k2, _⟩ := nxt_ok hd sd h hz
      obtain ⟨x, e1, e2⟩ := cfl_last n _ k1 k2 (by simpa using hl)
      refine ⟨x, ?_, e2⟩
      rw [List.getLast?_cons, e1]; rfl
/-- each number is its part and 1 by the next one -/
def Ch (d : Int) : List Ln → Prop
  | [] => True
  | [_] => True
  | x :: z :: r => (x = addL ⟨flr d x, 0, 1⟩ (divL d ⟨1, 0, 1⟩ z) ∧ z.p * z.p - d * z.q * z.q ≠ 0) ∧ Ch d (z :: r)
theorem cq_ch : ∀ (n : Nat) (a : Ln), Nf a → Ch d (cq d n a)
  | 0, _, _ => trivial
  | 1, a, _ => by
    rw [cq]
    split <;> simp [cq, Ch]
  | n + 2, a, h => by
    rw [cq]
    split
    · trivial
    · rename_i hz
      obtain ⟨k1, k2, k3, k4, k5, k6⟩ := nxt_ok hd sd h hz
      have ih := cq_ch (n + 1) (nxt d a) k1
      rw [cq] at ih ⊢
      exact ⟨⟨k6, k4⟩, ih⟩
theorem cq_end : ∀ (n : Nat) (a : Ln), Nf a → (cq d n a).length < n → ∃ z, (cq d n a).getLast? = some z ∧ z = ⟨flr d z, 0, 1⟩
  | 0, _, _, h => absurd h (by omega)
  | n + 1, a, h, hl => by
    rw [cq] at hl ⊢
    split at hl
    · rename_i hz
      rw [if_pos hz]
      exact ⟨a, rfl, (sub_zero_iff h (nf_whl _)).mp hz⟩
    · rename_i hz
      rw [if_neg hz]
      obtain ⟨k1, k2, _⟩ := nxt_ok hd sd h hz
      obtain ⟨z, e1, e2⟩ := cq_end n _ k1 (by simpa using hl)
      refine ⟨z, ?_, e2⟩
      rw [List.getLast?_cons, e1]; rfl
theorem cq_cs {E : Int} : ∀ (n : Nat) (B : Nat) (a : Ln), CS d E B a → ∀ x ∈ cq d n a, CS d E (B + 16 * E.natAbs * n) x
  | 0, _, _, _, x, hx => by simp [cq] at hx
  | n + 1, B, a, h, x, hx => by
    rw [cq] at hx
    rcases List.mem_cons.mp hx with c | c
    · rw [c]
      obtain ⟨P, Q, h1, h2, h3, h4, h5⟩ := h.ex
      exact ⟨P, Q, h1, h2, h3, by omega, by omega⟩
    · split at c
      · simp at c
      · rename_i hz
        have := cq_cs n _ _ (h.step hd sd (flr_is hd sd h.nf) hz) x c
        rw [show B + 16 * E.natAbs + 16 * E.natAbs * n = B + 16 * E.natAbs * (n + 1) by rw [Nat.mul_succ]; omega] at this
        exact this
end
end PL
namespace PL
open PySem PySem.Spec PyProof.Rows L2
/-! ### slices, ends -/
theorem cut_from' {α : Type} (f : α → D) (xs : List α) (k : Nat) : cutL (xs.map f) (some (k : Int)) none = (xs.drop k).map f := by
  unfold cutL
  rw [List.length_map, HT.sIx_nat, HT.sIx_none, List.map_drop]
  rw [List.take_of_length_le (by simp)]
  rcases Nat.le_total k xs.length with h | h
  · rw [Nat.min_eq_left h]
  · rw [Nat.min_eq_right h, List.drop_of_length_le (by simp), List.drop_of_length_le (by simpa using h)]
theorem cut_to' {α : Type} (f : α → D) (xs : List α) (k : Nat) : cutL (xs.map f) none (some (k : Int)) = (xs.take k).map f := by
  unfold cutL
  rw [List.length_map, HT.sIx_nat, HT.sIx_none, List.map_take]
  show (List.map f xs).take (min k xs.length - 0) = _
  rcases Nat.le_total k xs.length with h | h
  · rw [Nat.min_eq_left h]; rfl
  · rw [Nat.min_eq_right h, List.take_of_length_le (by simp), List.take_of_length_le (by simpa using h)]
theorem cut_init {α : Type} (f : α → D) (xs : List α) : cutL (xs.map f) none (some (-1)) = xs.dropLast.map f := by
  unfold cutL
  rw [List.length_map, HT.sIx_none]
  show (List.map f xs).take ((if (-1 : Int) < 0 then ((-1 : Int) + (xs.length : Int)).toNat else min (-1 : Int).toNat xs.length) - 0) = _
  rw [if_pos (by decide), ← List.map_take, List.dropLast_eq_take]
  congr 2
  omega
theorem atI_last {α : Type} (xs : List α) (x : α) : atI (xs ++ [x]) (-1) = some x := by
  unfold atI ixN
  have e : (-1 + ((xs.length : Int) + 1)).toNat = xs.length := by omega
  have e2 : (1 : Int) ≤ (xs.length : Int) + 1 := by omega
  simp [e, e2]
theorem atI_end {α : Type} {xs : List α} {x : α} (h : xs.getLast? = some x) : atI xs (-1) = some x := by
  obtain ⟨ys, rfl⟩ := List.getLast?_eq_some_iff.mp h
  exact atI_last ys x
theorem forB_app {Γ : List Sem1} {G : List D} {tg : Tg} {b : Sms} : ∀ {ds es : List D} {st s1 : Sto} {o : Option Out}, forB Γ G tg b ds st = some (.next s1) → forB Γ G tg b es s1 = o → forB Γ G tg b (ds ++ es) st = o
  | [], es, st, s1, o, h, k => by
    cases h
    exact k
  | d :: r, es, st, s1, o, h, k => by
    have h' : thenO ((bindTg tg d st).bind fun s => exs Γ G b s) (fun s => forB Γ G tg b r s) = some (.next s1) := h
    show thenO ((bindTg tg d st).bind fun s => exs Γ G b s) (fun s => forB Γ G tg b (r ++ es) s) = o
    obtain ⟨x, e1, e2, e3, e4⟩ := thenO_some h'
    rw [e1]
    cases x with
    | next s => exact forB_app (e2 s rfl) k
    | ret d => cases e3 d rfl
    | own d => cases e4 d rfl
end PL
namespace PL
open PySem PySem.Spec PyProof.Rows L2
section
variable {Γ : List Sem1} {G : List D} {e : Ex} {es : Exs} {st : Sto} {o : Option D}
theorem ev_or (h : evOr Γ G es st = o) : ev Γ G (.or es) st = o := h
theorem ev_and (h : evAnd Γ G es st = o) : ev Γ G (.and es) st = o := h
theorem evOr_f (h : ev Γ G e st = some (.bool false)) (k : evOr Γ G es st = o) : evOr Γ G (.cons e es) st = o := by
  simp only [evOr, h, Option.bind_some]; exact k
theorem evOr_t (h : ev Γ G e st = some (.bool true)) : evOr Γ G (.cons e es) st = some (.bool true) := by
  simp only [evOr, h, Option.bind_some]
theorem evAnd_t (h : ev Γ G e st = some (.bool true)) (k : evAnd Γ G es st = o) : evAnd Γ G (.cons e es) st = o := by
  simp only [evAnd, h, Option.bind_some]; exact k
theorem evAnd_f (h : ev Γ G e st = some (.bool false)) : evAnd Γ G (.cons e es) st = some (.bool false) := by
  simp only [evAnd, h, Option.bind_some]
theorem evOr_nil : evOr Γ G .nil st = some (.bool false) := rfl
theorem evAnd_nil : evAnd Γ G .nil st = some (.bool true) := rfl
theorem ev_notT {e : Ex} (h : ev Γ G e st = some (.bool true)) : ev Γ G (.not e) st = some (.bool false) := ev_not h
theorem ev_notF {e : Ex} (h : ev Γ G e st = some (.bool false)) : ev Γ G (.not e) st = some (.bool true) := ev_not h
theorem ev_scalB {e : Ex} {b : Bool} (h : ev Γ G e (frzAll st) = some (.bool b)) : ev Γ G (.scal e) st = some (.bool b) := by
  simp only [ev, h, Option.bind_some]; rfl
end
section
variable {d : Int} (hd : NS d) (sd : d ≤ 64)
include hd sd
theorem cfl_last2 (n : Nat) (a : Ln) (h : Nf a) (hl : (cfl d n a).length < n) (h1 : 1 < (cfl d n a).length) : ∃ x, (cfl d n a).getLast? = some x ∧ 2 ≤ x := by
  cases n with
  | zero => omega
  | succ n =>
    rw [cfl_succ] at hl h1 ⊢
    split at hl
    · rename_i hz
      rw [if_pos hz] at h1
      simp at h1
    · rename_i hz
      rw [if_neg hz]
      obtain ⟨k1, k2, _⟩ := nxt_ok hd sd h hz
      obtain ⟨x, e1, e2⟩ := cfl_last hd sd n _ k1 k2 (by simpa using hl)
      refine ⟨x, ?_, e2⟩
      rw [List.getLast?_cons, e1]; rfl
end
def headL : List Ln → Ln
  | [] => ⟨0, 0, 1⟩
  | x :: _ => x
theorem headL_cq (d : Int) (n : Nat) (a : Ln) : headL (cq d (n + 1) a) = a := by
  rw [cq]; rfl
end PL
namespace PL
theorem cfl_c {d : Int} {a b : Ln} {f : Int} {n : Nat} (hd : 0 < d) (h : (0 < a.s ∧ nbL d a f ∧ ¬ nbL d a (f + 1)) ∧ subL a ⟨f, 0, 1⟩ ≠ ⟨0, 0, 1⟩ ∧ invL d (subL a ⟨f, 0, 1⟩) = b) : cfl d (n + 1) a = f :: cfl d n b := by
  have e : flr d a = f := flr_eq hd h.1.1 ⟨h.1.2.1, h.1.2.2⟩
  rw [cfl_succ]
  unfold nxt
  rw [e, if_neg h.2.1, h.2.2]
theorem cfl_e {d : Int} {a : Ln} {f : Int} {n : Nat} (hd : 0 < d) (h : (0 < a.s ∧ nbL d a f ∧ ¬ nbL d a (f + 1)) ∧ subL a ⟨f, 0, 1⟩ = ⟨0, 0, 1⟩) : cfl d (n + 1) a = [f] := by
  have e : flr d a = f := flr_eq hd h.1.1 ⟨h.1.2.1, h.1.2.2⟩
  rw [cfl_succ, e, if_pos h.2]
theorem cfl_0 (d : Int) (a : Ln) : cfl d 0 a = [] := rfl
end PL
namespace PL
open PySem PySem.Spec PyProof.Rows L2
/-! ### neighbours -/
def nbs : Int × Int → Int × Int → List Int → List (Int × Int)
  | _, _, [] => []
  | b, h, f :: fs => (f * h.1 + b.1, f * h.2 + b.2) :: nbs h (f * h.1 + b.1, f * h.2 + b.2) fs
theorem nbs_len : ∀ (b h : Int × Int) (fs : List Int), (nbs b h fs).length = fs.length
  | _, _, [] => rfl
  | b, h, f :: fs => by simp [nbs, nbs_len h _ fs]
def u1 (a : Ln) (x : Int × Int) : Int := x.2 * a.p - x.1 * a.s
def u2 (a : Ln) (x : Int × Int) : Int := x.2 * a.q
def sgJ (j : Nat) : Int := if j % 2 = 0 then -1 else 1
theorem sgJ_succ (j : Nat) : sgJ (j + 1) = -sgJ j := by
  unfold sgJ
  split <;> split <;> omega
structure NbI (d : Int) (a X : Ln) (b h : Int × Int) (j : Nat) : Prop where
  nf : Nf X
  gt : 0 < j → Gt1 d X
  r1 : X.p * u1 a h + d * X.q * u2 a h = -X.s * u1 a b
  r2 : X.p * u2 a h + X.q * u1 a h = -X.s * u2 a b
  sg : 0 < vS d (sgJ j * u1 a h) (sgJ j * u2 a h)
  dt : (h.1 * b.2 - h.2 * b.1).natAbs = 1
  p1 : 0 ≤ h.1
  p2 : 0 ≤ b.1
  s2 : 0 ≤ b.2
  z : (j = 0 ∧ h = (1, 0) ∧ b = (0, 1) ∧ 0 ≤ flr d X) ∨ (0 < j ∧ 1 ≤ h.2)
theorem NbI.start {d : Int} (hd : NS d) {a : Ln} (h : Nf a) (hf : 0 ≤ flr d a) : NbI d a a (0, 1) (1, 0) 0 := by
  have hs := h.pos
  refine ⟨h, fun z => absurd z (by decide), ?_, ?_, ?_, by decide, by decide, by decide, by decide, .inl ⟨rfl, rfl, rfl, hf⟩⟩
  · simp [u1, u2]; grind
  · simp [u1, u2]; grind
  · simp [u1, u2, sgJ]
    exact vS_pos_pp hd.pos (by omega) (by decide) (by omega)
structure NbF (d : Int) (a : Ln) (j : Nat) (x : Int × Int) : Prop where
  p0 : 0 ≤ x.1
  s1 : 1 ≤ x.2
  g : Nat.gcd x.1.natAbs x.2.natAbs = 1
  sg : 0 < vS d (sgJ (j + 1) * u1 a x) (sgJ (j + 1) * u2 a x) ∨ (u1 a x = 0 ∧ u2 a x = 0)
theorem gcd_det {x y : Int × Int} (h : (x.1 * y.2 - x.2 * y.1).natAbs = 1) : Nat.gcd x.1.natAbs x.2.natAbs = 1 := by
  have h1 : ((Nat.gcd x.1.natAbs x.2.natAbs : Nat) : Int) ∣ x.1 := Int.ofNat_dvd_left.mpr (Nat.gcd_dvd_left _ _)
  have h2 : ((Nat.gcd x.1.natAbs x.2.natAbs : Nat) : Int) ∣ x.2 := Int.ofNat_dvd_left.mpr (Nat.gcd_dvd_right _ _)
  have h3 : ((Nat.gcd x.1.natAbs x.2.natAbs : Nat) : Int) ∣ x.1 * y.2 - x.2 * y.1 := Int.dvd_sub (Int.dvd_mul_of_dvd_left h1) (Int.dvd_mul_of_dvd_left h2)
  have h4 := Int.ofNat_dvd_left.mp h3
  rw [h] at h4
  exact Nat.dvd_one.mp h4
theorem nx_rel {d S r q N P Q Y U V A B : Int} (hN : N = r * r - d * q * q) (c1 : P * N = S * r * Y) (c2 : Q * N = -S * q * Y) (k1 : S * U = -(r * A + d * q * B)) (k2 : S * V = -(r * B + q * A)) :
    N * (P * U + d * Q * V) = N * (-Y * A) ∧ N * (P * V + Q * U) = N * (-Y * B) := by
  have e1 : N * (P * U + d * Q * V) = (P * N) * U + d * (Q * N) * V := by grind
  have e2 : N * (P * V + Q * U) = (P * N) * V + (Q * N) * U := by grind
  rw [e1, e2, c1, c2]
  have e3 : S * r * Y * U + d * (-S * q * Y) * V = Y * (r * (S * U) - d * q * (S * V)) := by grind
  have e4 : S * r * Y * V + -S * q * Y * U = Y * (r * (S * V) - q * (S * U)) := by grind
  rw [e3, e4, k1, k2, hN]
  constructor <;> grind
section
variable {d : Int} (hd : NS d) (sd : d ≤ 64)
include hd sd
theorem NbI.fact {a X : Ln} {b h : Int × Int} {j : Nat} (I : NbI d a X b h j) : NbF d a j (flr d X * h.1 + b.1, flr d X * h.2 + b.2) ∧
    ((flr d X * h.1 + b.1) * h.2 - (flr d X * h.2 + b.2) * h.1).natAbs = 1 ∧
    (subL X ⟨flr d X, 0, 1⟩ ≠ ⟨0, 0, 1⟩ → NbI d a (nxt d X) h (flr d X * h.1 + b.1, flr d X * h.2 + b.2) (j + 1) ∧ 0 < vS d (sgJ (j + 1) * u1 a (flr d X * h.1 + b.1, flr d X * h.2 + b.2)) (sgJ (j + 1) * u2 a (flr d X * h.1 + b.1, flr d X * h.2 + b.2))) := by
  obtain ⟨f, hf⟩ : ∃ f, f = flr d X := ⟨_, rfl⟩
  have fl := flr_is hd sd I.nf
  rw [← hf] at fl ⊢
  have hS := I.nf.pos
  have e := @sub_flr X.p X.q X.s f (by omega)
  rw [nrm_id I.nf] at e
  obtain ⟨p1, s1⟩ := h
  obtain ⟨p2, s2⟩ := b
  obtain ⟨r, hr⟩ : ∃ r, r = X.p - f * X.s := ⟨_, rfl⟩
  rw [← hr] at e
  have hf0 : 0 ≤ f := by
    rcases I.z with z | z
    · rw [hf]; exact z.2.2.2
    · have := gt1_ge hd sd I.nf (I.gt z.1); omega
  have i1 := I.r1
  have i2 := I.r2
  have isg := I.sg
  have idt := I.dt
  have ip1 := I.p1
  have ip2 := I.p2
  have is2 := I.s2
  simp only at idt ip1 ip2 is2
  simp only [u1, u2] at i1 i2 isg
  have hdt : ((f * p1 + p2) * s1 - (f * s1 + s2) * p1).natAbs = 1 := by
    rw [show (f * p1 + p2) * s1 - (f * s1 + s2) * p1 = -(p1 * s2 - s1 * p2) by grind, Int.natAbs_neg]; exact idt
  have hp0 : 0 ≤ f * p1 + p2 := by have := Int.mul_nonneg hf0 ip1; omega
  have hs1 : 1 ≤ f * s1 + s2 := by
    rcases I.z with ⟨_, z1, z2, _⟩ | ⟨z1, z2⟩
    · cases z1; cases z2; omega
    · have k := gt1_ge hd sd I.nf (I.gt z1)
      rw [← hf] at k
      simp only at z2
      have := Int.mul_le_mul k z2 (by decide) hf0
      omega
  have hg := gcd_det (x := (f * p1 + p2, f * s1 + s2)) (y := (p1, s1)) hdt
  have k1 : X.s * ((f * s1 + s2) * a.p - (f * p1 + p2) * a.s) = -(r * (s1 * a.p - p1 * a.s) + d * X.q * (s1 * a.q)) := by grind
  have k2 : X.s * ((f * s1 + s2) * a.q) = -(r * (s1 * a.q) + X.q * (s1 * a.p - p1 * a.s)) := by grind
  have pos : subL X ⟨f, 0, 1⟩ ≠ ⟨0, 0, 1⟩ → 0 < vS d r X.q ∧ 0 < vS d (sgJ (j + 1) * ((f * s1 + s2) * a.p - (f * p1 + p2) * a.s)) (sgJ (j + 1) * ((f * s1 + s2) * a.q)) := by
    intro hz
    have hp := rest_pos hd I.nf fl hz
    rw [e, sg_pos hS] at hp
    refine ⟨hp, ?_⟩
    have := pos_mul hd hp isg
    rw [sgJ_succ, ← vS_scale_pos hS]
    rw [show X.s * (-sgJ j * ((f * s1 + s2) * a.p - (f * p1 + p2) * a.s)) = r * (sgJ j * (s1 * a.p - p1 * a.s)) + d * X.q * (sgJ j * (s1 * a.q)) by grind,
      show X.s * (-sgJ j * ((f * s1 + s2) * a.q)) = r * (sgJ j * (s1 * a.q)) + X.q * (sgJ j * (s1 * a.p - p1 * a.s)) by grind]
    exact this
  refine ⟨⟨hp0, hs1, hg, ?_⟩, hdt, fun hz => ?_⟩
  · by_cases hz : subL X ⟨f, 0, 1⟩ = ⟨0, 0, 1⟩
    · refine .inr ?_
      rw [e, zero_nrm] at hz
      obtain ⟨z1, z2⟩ := nrm_inj (by omega) (by decide) hz
      have z1 : r = 0 := by omega
      have z2 : X.q = 0 := by omega
      rw [z1, z2] at k1 k2
      simp only [u1, u2]
      constructor
      · have : X.s * ((f * s1 + s2) * a.p - (f * p1 + p2) * a.s) = 0 := by rw [k1]; grind
        rcases Int.mul_eq_zero.mp this with c | c
        · omega
        · exact c
      · have : X.s * ((f * s1 + s2) * a.q) = 0 := by rw [k2]; grind
        rcases Int.mul_eq_zero.mp this with c | c
        · omega
        · exact c
    · exact .inl (pos hz).2
  · obtain ⟨hr0, hpos⟩ := pos hz
    refine ⟨?_, hpos⟩
    rw [hf] at hz
    obtain ⟨n1, n2, _⟩ := nxt_ok hd sd I.nf hz
    have hn : r * r - d * X.q * X.q ≠ 0 := by
      intro z
      have := (vS_zero (q := X.q) hd).mpr (hd.zero z); omega
    have ex : nxt d X = nrm (X.s * r) (-X.s * X.q) (r * r - d * X.q * X.q) := by
      unfold nxt
      rw [← hf, e, invL_nrm (by omega) hn]
    obtain ⟨c1, c2⟩ := nrm_cross (p := X.s * r) (q := -X.s * X.q) hn
    rw [← ex] at c1 c2
    obtain ⟨w1, w2⟩ := nx_rel rfl c1 c2 k1 k2
    refine ⟨n1, fun _ => n2, cancel hn w1, cancel hn w2, hpos, ?_, hp0, ip1, ?_, .inr ⟨by omega, hs1⟩⟩
    · exact hdt
    · rcases I.z with ⟨_, z1, z2, _⟩ | ⟨z1, z2⟩
      · cases z1; decide
      · simp only at z2 ⊢; omega
theorem nb_all {a : Ln} : ∀ (n : Nat) (X : Ln) (b h : Int × Int) (j : Nat), NbI d a X b h j → ∀ i x, (nbs b h (cfl d n X))[i]? = some x →
    NbF d a (i + j) x ∧ (i + 1 < (nbs b h (cfl d n X)).length → 0 < vS d (sgJ (i + j + 1) * u1 a x) (sgJ (i + j + 1) * u2 a x)) ∧
    (i = 0 → (x.1 * h.2 - x.2 * h.1).natAbs = 1) ∧ (∀ y k, i = k + 1 → (nbs b h (cfl d n X))[k]? = some y → (x.1 * y.2 - x.2 * y.1).natAbs = 1)
  | 0, X, b, h, j, I, i, x, hx => by simp [cfl, cq, nbs] at hx
  | n + 1, X, b, h, j, I, i, x, hx => by
    obtain ⟨F, dt, nx⟩ := I.fact hd sd
    rw [cfl_succ] at hx ⊢
    rw [nbs] at hx ⊢
    cases i with
    | zero =>
      rw [List.getElem?_cons_zero] at hx
      cases hx
      refine ⟨by rw [Nat.zero_add]; exact F, fun hl => ?_, fun _ => dt, fun y k e => absurd e (by omega)⟩
      by_cases hz : subL X ⟨flr d X, 0, 1⟩ = ⟨0, 0, 1⟩
      · rw [if_pos hz] at hl
        simp [nbs] at hl
      · rw [Nat.zero_add]; exact (nx hz).2
    | succ i =>
      rw [List.getElem?_cons_succ] at hx
      by_cases hz : subL X ⟨flr d X, 0, 1⟩ = ⟨0, 0, 1⟩
      · rw [if_pos hz] at hx
        simp [nbs] at hx
      · rw [if_neg hz] at hx ⊢
        obtain ⟨k1, k2, k3, k4⟩ := nb_all n _ _ _ _ (nx hz).1 i x hx
        rw [show i + 1 + j = i + (j + 1) by omega]
        refine ⟨k1, fun hl => k2 (by simpa using hl), fun e => absurd e (by omega), fun y k e hy => ?_⟩
        have e' : i = k := by omega
        subst e'
        cases i with
        | zero =>
          rw [List.getElem?_cons_zero] at hy
          cases hy
          exact k3 rfl
        | succ i =>
          rw [List.getElem?_cons_succ] at hy
          exact k4 y i rfl hy
theorem flr_nn {a : Ln} (h : Nf a) (x : 0 ≤ sgL d a) : 0 ≤ flr d a := by
  have fl := flr_is hd sd h
  refine fl.le hd.pos h.pos ?_
  unfold nbL
  rw [show a.p - 0 * a.s = a.p by grind]
  exact sgI_ge.mp x
end
theorem atI_last2 {α : Type} (xs : List α) (x y : α) : atI (xs ++ [x, y]) (-2) = some x := by
  unfold atI ixN
  have e : (-2 + ((xs.length : Int) + 2)).toNat = xs.length := by omega
  have e2 : (2 : Int) ≤ (xs.length : Int) + 2 := by omega
  simp [e, e2]
/-- sizes of neighbours -/
theorem nbs_sz : ∀ (n : Nat) (b h : Int × Int) (fs : List Int), Sz n b.1 → Sz n b.2 → Sz n h.1 → Sz n h.2 → (∀ f ∈ fs, Sz 97 f) → ∀ x ∈ nbs b h fs, Sz (n + 98 * fs.length) x.1 ∧ Sz (n + 98 * fs.length) x.2
  | _, _, _, [], _, _, _, _, _, x, hx => by simp [nbs] at hx
  | n, b, h, f :: fs, b1, b2, h1, h2, hf, x, hx => by
    have sf := hf f List.mem_cons_self
    have k1 : Sz (n + 98) (f * h.1 + b.1) := Sz.add (n := n + 97) ((sf.mul h1).mono (by omega)) (b1.mono (by omega))
    have k2 : Sz (n + 98) (f * h.2 + b.2) := Sz.add (n := n + 97) ((sf.mul h2).mono (by omega)) (b2.mono (by omega))
    rw [nbs] at hx
    rcases List.mem_cons.mp hx with c | c
    · rw [c]
      exact ⟨k1.mono (by simp only [List.length_cons]; omega), k2.mono (by simp only [List.length_cons]; omega)⟩
    · have := nbs_sz (n + 98) h _ fs (h1.mono (by omega)) (h2.mono (by omega)) k1 k2 (fun f hf' => hf f (List.mem_cons_of_mem _ hf')) x c
      rw [show n + 98 + 98 * fs.length = n + 98 * (f :: fs).length by simp only [List.length_cons]; omega] at this
      exact this
end PL
namespace PL
open PySem PySem.Spec PyProof.Rows L2
theorem nb_sgn {d : Int} {a : Ln} {i : Nat} {x : Int × Int} (h : Nf a) (hx : Nf ⟨x.1, 0, x.2⟩) (k : 0 < vS d (sgJ (i + 1) * u1 a x) (sgJ (i + 1) * u2 a x)) : sgL d (subL a ⟨x.1, 0, x.2⟩) = sgJ (i + 1) := by
  rw [sgL_sub d h hx]
  rw [show a.p * x.2 - x.1 * a.s = u1 a x by unfold u1; grind, show a.q * x.2 - 0 * a.s = u2 a x by unfold u2; grind]
  unfold sgJ at k ⊢
  split at k
  · rename_i c
    rw [if_pos c]
    rw [show -1 * u1 a x = -u1 a x by omega, show -1 * u2 a x = -u2 a x by omega, vS_neg] at k
    exact sgI_neg' (by omega)
  · rename_i c
    rw [if_neg c]
    rw [show 1 * u1 a x = u1 a x by omega, show 1 * u2 a x = u2 a x by omega] at k
    exact sgI_pos k
theorem NbF.nf {d : Int} {a : Ln} {j : Nat} {x : Int × Int} (F : NbF d a j x) : Nf ⟨x.1, 0, x.2⟩ := by
  refine ⟨by have := F.s1; show 0 < x.2; omega, ?_⟩
  unfold g3
  show Nat.gcd (Nat.gcd x.1.natAbs 0) x.2.natAbs = 1
  rw [Nat.gcd_zero_right]; exact F.g
theorem NbF.side {d : Int} (hd : NS d) {a : Ln} {i : Nat} {x : Int × Int} (F : NbF d a i x) (h : Nf a) : sgL d (subL a ⟨x.1, 0, x.2⟩) = sgJ (i + 1) ∨ (sgL d (subL a ⟨x.1, 0, x.2⟩) = 0 ∧ a = nrm x.1 0 x.2) := by
  have hx := F.nf
  rcases F.sg with k | ⟨k1, k2⟩
  · exact .inl (nb_sgn h hx k)
  · right
    have e : sgL d (subL a ⟨x.1, 0, x.2⟩) = 0 := by
      rw [sgL_sub d h hx]
      rw [show a.p * x.2 - x.1 * a.s = u1 a x by unfold u1; grind, show a.q * x.2 - 0 * a.s = u2 a x by unfold u2; grind, k1, k2]
      simp [vS, sgI]
    refine ⟨e, ?_⟩
    have z : sgL d (subL a ⟨x.1, 0, x.2⟩) = 0 := e
    unfold sgL at z
    rw [sgI_zero, twoS_zero hd (nf_sub h hx), sub_zero_iff h hx] at z
    rw [z]
    exact (nrm_id hx).symm
theorem atI_last1 {α : Type} (xs : List α) (x y : α) : atI (xs ++ [x, y]) (-1) = some y := by
  have := atI_last (xs ++ [x]) y
  simpa using this
end PL
namespace PL
open PySem PySem.Spec PyProof.Rows L2
/-! ### units -/
def unitsT : List (Int × Int × Int) := [(2,1,1),(3,2,1),(5,2,1),(6,5,2),(7,8,3),(8,3,1),(10,3,1),(11,10,3),(12,7,2),(13,18,5),(14,15,4),(15,4,1),(17,4,1),(18,17,4),(19,170,39),(20,9,2),(21,55,12),(22,197,42),(23,24,5),(24,5,1),(26,5,1),(27,26,5),(28,127,24),(29,70,13),(30,11,2)]
def roots30 : List Int := [2,3,5,6,7,8,10,11,12,13,14,15,17,18,19,20,21,22,23,24,26,27,28,29,30]
theorem roots30_u {d : Int} (h : d ∈ roots30) : ∃ p q, (d, p, q) ∈ unitsT := by
  have key : ∀ d ∈ roots30, ∃ t ∈ unitsT, t.1 = d := by decide
  obtain ⟨⟨d', p, q⟩, m, e⟩ := key d h
  cases e
  exact ⟨p, q, m⟩
def isqGo : Nat → Nat → Nat → Nat
  | 0, _, g => g
  | f + 1, n, g => if g * g ≤ n then g else isqGo f n ((g + n / g) / 2)
def isq (n : Nat) : Nat := isqGo 40 n n
/-- both roots and what is found with them -/
def sqOk (n : Int) : Bool := decide ((isq n.toNat : Int) * isq n.toNat ≤ n) && decide (n < ((isq n.toNat : Int) + 1) * ((isq n.toNat : Int) + 1))
def wpP (a s : Int) : Bool := decide (0 < a) && decide ((a * a - s).natAbs = 1)
theorem IsqrtI.eq {N r t : Int} (h : IsqrtI N r) (k : IsqrtI N t) : r = t := by
  obtain ⟨h0, h1, h2⟩ := h
  obtain ⟨k0, k1, k2⟩ := k
  have a : r < t + 1 := by
    refine Int.not_le.mp fun z => ?_
    have := sq_le (by omega) z
    omega
  have b : t < r + 1 := by
    refine Int.not_le.mp fun z => ?_
    have := sq_le (by omega) z
    omega
  omega
theorem sqOk_is {n : Int} (h : sqOk n = true) : IsqrtI n (isq n.toNat : Int) := by
  unfold sqOk at h
  rw [Bool.and_eq_true, decide_eq_true_eq, decide_eq_true_eq] at h
  exact ⟨by omega, h.1, h.2⟩
theorem isq_fl {d q : Int} (hd : 0 < d) (hq : 0 ≤ q) {r : Int} (h : IsqrtI (d * q * q) r) : IsFl d ⟨0, q, 1⟩ r := by
  have e := rt_pos hd hq h
  refine ⟨?_, fun z => ?_⟩
  · unfold nbL
    have := (e r).mpr (Int.le_refl r)
    rwa [show (0 : Int) - r * 1 = -r by omega]
  · unfold nbL at z
    have := (e (r + 1)).mp (by rwa [show (0 : Int) - (r + 1) * 1 = -(r + 1) by omega] at z)
    omega
/-- a unit, the first one -/
structure UnitOk (d p q : Int) : Prop where
  ns : NS d
  sz : Sz 6 d
  q1 : 1 ≤ q
  q60 : q ≤ 60
  p1 : 1 ≤ p
  sp : Sz 8 p
  sq : Sz 8 q
  nm : (p * p - d * q * q).natAbs = 1
  none : ∀ i : Nat, (i : Int) + 1 < q → ∀ r : Int, IsqrtI (d * ((i : Int) + 1) * ((i : Int) + 1)) r → (r * r - d * ((i : Int) + 1) * ((i : Int) + 1)).natAbs ≠ 1 ∧ ((r + 1) * (r + 1) - d * ((i : Int) + 1) * ((i : Int) + 1)).natAbs ≠ 1
  none2 : ∀ i : Nat, (i : Int) + 1 < q → ∀ a b : Int, IsqrtI (d * ((i : Int) + 1) * ((i : Int) + 1) - 1) a → IsqrtI (d * ((i : Int) + 1) * ((i : Int) + 1) + 1) b → wpP a (d * ((i : Int) + 1) * ((i : Int) + 1)) = false ∧ wpP b (d * ((i : Int) + 1) * ((i : Int) + 1)) = false
  at_ : ∀ a b : Int, IsqrtI (d * q * q - 1) a → IsqrtI (d * q * q + 1) b → (wpP a (d * q * q) = true ∧ a = p) ∨ (wpP a (d * q * q) = false ∧ wpP b (d * q * q) = true ∧ b = p)
  at2 : ∀ r : Int, IsqrtI (d * q * q) r → (((r * r - d * q * q).natAbs = 1 ∧ r = p ∧ ¬ ((r + 1) * (r + 1) - d * q * q).natAbs = 1) ∨ (¬ (r * r - d * q * q).natAbs = 1 ∧ ((r + 1) * (r + 1) - d * q * q).natAbs = 1 ∧ r + 1 = p))
def unitB (d p q : Int) : Bool :=
  (decide (1 ≤ d) && decide (0 < isq d.toNat) && sqOk d && decide ((isq d.toNat : Int) * isq d.toNat ≠ d) && decide (d.natAbs < 64)) && (decide (1 ≤ q) && decide (q ≤ 60) && decide (1 ≤ p) && decide (p.natAbs < 256) && decide (q.natAbs < 256) && decide ((p * p - d * q * q).natAbs = 1))
  && ((List.range (q.toNat - 1)).all fun i =>
    let s := d * ((i : Int) + 1) * ((i : Int) + 1)
    sqOk s && sqOk (s - 1) && sqOk (s + 1) && decide (((isq s.toNat : Int) * isq s.toNat - s).natAbs ≠ 1) && decide ((((isq s.toNat : Int) + 1) * ((isq s.toNat : Int) + 1) - s).natAbs ≠ 1)
      && !wpP (isq (s - 1).toNat) s && !wpP (isq (s + 1).toNat) s)
  && (let s := d * q * q
    sqOk s && sqOk (s - 1) && sqOk (s + 1) && ((wpP (isq (s - 1).toNat) s && decide ((isq (s - 1).toNat : Int) = p)) || (!wpP (isq (s - 1).toNat) s && wpP (isq (s + 1).toNat) s && decide ((isq (s + 1).toNat : Int) = p)))
      && ((decide (((isq s.toNat : Int) * isq s.toNat - s).natAbs = 1) && decide ((isq s.toNat : Int) = p) && !decide ((((isq s.toNat : Int) + 1) * ((isq s.toNat : Int) + 1) - s).natAbs = 1)) || (!decide (((isq s.toNat : Int) * isq s.toNat - s).natAbs = 1) && decide ((((isq s.toNat : Int) + 1) * ((isq s.toNat : Int) + 1) - s).natAbs = 1) && decide ((isq s.toNat : Int) + 1 = p))))
theorem unitB_all : ∀ t ∈ unitsT, unitB t.1 t.2.1 t.2.2 = true := by decide +kernel
theorem unit_ok {d p q : Int} (h : (d, p, q) ∈ unitsT) : UnitOk d p q := by
  have k := unitB_all _ h
  unfold unitB at k
  simp only [Bool.and_eq_true, Bool.or_eq_true, Bool.not_eq_true', decide_eq_true_eq, decide_eq_false_iff_not, List.all_eq_true, List.mem_range] at k
  obtain ⟨⟨⟨⟨⟨⟨⟨a1, a2⟩, a3⟩, a4⟩, a5⟩, ⟨⟨⟨⟨⟨b1, b2⟩, b3⟩, b4⟩, b5⟩, b6⟩⟩, c⟩, ⟨⟨⟨e1, e2⟩, e3⟩, e4⟩, e5⟩ := k
  have i0 := sqOk_is a3
  have p6 : (2 : Nat) ^ 6 = 64 := by decide
  have p8 : (2 : Nat) ^ 8 = 256 := by decide
  refine ⟨⟨isq d.toNat, i0.nn, ?_, i0.hi⟩, by unfold Sz; omega, b1, b2, b3, by unfold Sz; omega, by unfold Sz; omega, b6, ?_, ?_, ?_, ?_⟩
  · have := i0.lo; omega
  · intro i hi r hr
    obtain ⟨⟨⟨⟨⟨⟨c1, c2⟩, c3⟩, c4⟩, c5⟩, c6⟩, c7⟩ := c i (by omega)
    rw [hr.eq (sqOk_is c1)]
    exact ⟨c4, c5⟩
  · intro i hi a b ha hb
    obtain ⟨⟨⟨⟨⟨⟨c1, c2⟩, c3⟩, c4⟩, c5⟩, c6⟩, c7⟩ := c i (by omega)
    rw [ha.eq (sqOk_is c2), hb.eq (sqOk_is c3)]
    exact ⟨c6, c7⟩
  · intro a b ha hb
    rw [ha.eq (sqOk_is e2), hb.eq (sqOk_is e3)]
    rcases e4 with ⟨x, y⟩ | ⟨⟨x, y⟩, z⟩
    · exact .inl ⟨x, y⟩
    · exact .inr ⟨x, y, z⟩
  · intro r hr
    rw [hr.eq (sqOk_is e1)]
    rcases e5 with ⟨⟨x, y⟩, z⟩ | ⟨⟨x, y⟩, z⟩
    · exact .inl ⟨x, y, z⟩
    · exact .inr ⟨x, y, z⟩
/-! powers -/
def pwN (d : Int) (u : Ln) : Nat → Ln
  | 0 => ⟨1, 0, 1⟩
  | n + 1 => mulL d (pwN d u n) u
def zpw (d : Int) (u : Ln) (e : Int) : Ln := if e < 0 then pwN d (invL d u) e.natAbs else pwN d u e.natAbs
theorem pwN_nf {d : Int} {u : Ln} (h : Nf u) : ∀ n, Nf (pwN d u n)
  | 0 => nf_whl 1
  | n + 1 => nf_mul (pwN_nf h n) h
theorem pwN_gd {d : Int} (sd : Sz 6 d) {m : Nat} {u : Ln} (h : Gd m u) : ∀ n, Gd (1 + (m + 7) * n) (pwN d u n)
  | 0 => Gd.mono (n := 1) (gd_whl (by unfold Sz; decide) (by decide)) (by omega)
  | n + 1 => (gd_mul sd (pwN_gd sd h n) h).mono (by rw [Nat.mul_succ]; omega)
section
variable {d : Int} {u : Ln} (h : Nf u) (k : Nf (invL d u)) (e : mulL d u (invL d u) = ⟨1, 0, 1⟩)
include h k e
theorem zpw_nf (x : Int) : Nf (zpw d u x) := by
  unfold zpw
  split
  · exact pwN_nf k _
  · exact pwN_nf h _
theorem zpw_succ (x : Int) : zpw d u (x + 1) = mulL d (zpw d u x) u := by
  unfold zpw
  by_cases c : x < 0
  · rw [if_pos c]
    obtain ⟨n, hn⟩ : ∃ n : Nat, x.natAbs = n + 1 := ⟨x.natAbs - 1, by omega⟩
    rw [hn]
    show _ = mulL d (mulL d (pwN d (invL d u) n) (invL d u)) u
    rw [mul_assoc' (pwN_nf k n) k h, mul_comm' d (invL d u) u, e, mul_one' (pwN_nf k n)]
    by_cases c2 : x + 1 < 0
    · rw [if_pos c2, show (x + 1).natAbs = n by omega]
    · rw [if_neg c2, show (x + 1).natAbs = 0 by omega, show n = 0 by omega]
      rfl
  · rw [if_neg c, if_neg (by omega), show (x + 1).natAbs = x.natAbs + 1 by omega]
    rfl
theorem zpw_pred (x : Int) : zpw d u (x - 1) = mulL d (zpw d u x) (invL d u) := by
  have := zpw_succ h k e (x - 1)
  rw [show x - 1 + 1 = x by omega] at this
  rw [this, mul_assoc' (zpw_nf h k e (x - 1)) h k, e, mul_one' (zpw_nf h k e (x - 1))]
theorem zpw_add (x y : Int) : zpw d u (x + y) = mulL d (zpw d u x) (zpw d u y) := by
  have up : ∀ n : Nat, zpw d u (x + n) = mulL d (zpw d u x) (zpw d u n) := by
    intro n
    induction n with
    | zero =>
      rw [show x + ((0 : Nat) : Int) = x by omega]
      exact (mul_one' (zpw_nf h k e x)).symm
    | succ n ih =>
      rw [show x + ((n + 1 : Nat) : Int) = x + n + 1 by omega, zpw_succ h k e, ih, mul_assoc' (zpw_nf h k e x) (zpw_nf h k e n) h, ← zpw_succ h k e]
      rfl
  have dn : ∀ n : Nat, zpw d u (x + -(n : Int)) = mulL d (zpw d u x) (zpw d u (-(n : Int))) := by
    intro n
    induction n with
    | zero =>
      rw [show x + -((0 : Nat) : Int) = x by omega]
      exact (mul_one' (zpw_nf h k e x)).symm
    | succ n ih =>
      rw [show x + -((n + 1 : Nat) : Int) = x + -(n : Int) - 1 by omega, zpw_pred h k e, ih, mul_assoc' (zpw_nf h k e x) (zpw_nf h k e _) k, ← zpw_pred h k e, show -(n : Int) - 1 = -((n + 1 : Nat) : Int) by omega]
  rcases Int.le_total 0 y with c | c
  · rw [show y = (y.toNat : Int) by omega]; exact up _
  · rw [show y = -((-y).toNat : Int) by omega]; exact dn _
end
end PL
namespace PL
open PySem PySem.Spec PyProof.Rows L2
/-! ### a longer and a shorter side -/
theorem mul_neg' {d : Int} {a b : Ln} (h : Nf a) (k : Nf b) : mulL d a (negL b) = negL (mulL d a b) := by
  unfold mulL
  have hs : a.s * b.s ≠ 0 := ne_mul (by have := h.pos; omega) (by have := k.pos; omega)
  rw [negL_nrm hs]
  show nrm (a.p * -b.p + d * a.q * -b.q) (a.p * -b.q + a.q * -b.p) (a.s * b.s) = _
  exact nrm_eq hs hs (by grind) (by grind)
theorem mul_sub' {d : Int} {a b c : Ln} (h : Nf a) (k : Nf b) (l : Nf c) : mulL d a (subL b c) = subL (mulL d a b) (mulL d a c) := by
  unfold subL
  rw [mul_add' h k l.neg, mul_neg' h l]
/-- integer combinations of two lengths -/
def lin (a b : Ln) (u v : Int) : Ln := nrm (u * a.p * b.s + v * b.p * a.s) (u * a.q * b.s + v * b.q * a.s) (a.s * b.s)
theorem lin_sub {d : Int} {a b : Ln} (h : Nf a) (k : Nf b) (u v u' v' f : Int) : subL (lin a b u v) (mulL d (lin a b u' v') ⟨f, 0, 1⟩) = lin a b (u - f * u') (v - f * v') := by
  have hs : a.s * b.s ≠ 0 := ne_mul (by have := h.pos; omega) (by have := k.pos; omega)
  unfold lin
  rw [whl_nrm, mulL_nrm hs (by decide), subL_nrm hs (ne_mul hs (by decide))]
  refine nrm_eq (ne_mul hs (ne_mul hs (by decide))) hs ?_ ?_
  · grind
  · grind
theorem lin_gd {n m : Nat} {a b : Ln} (h : Gd n a) (k : Gd n b) {u v : Int} (hu : Sz m u) (hv : Sz m v) : Gd (m + n + n + 1) (lin a b u v) := by
  refine gd_nrm (ne_mul h.ne k.ne) ?_ ?_ ((h.s.mul k.s).mono (by omega))
  · exact Sz.add (n := m + n + n) ((hu.mul h.p).mul k.s) ((hv.mul k.p).mul h.s)
  · exact Sz.add (n := m + n + n) ((hu.mul h.q).mul k.s) ((hv.mul k.q).mul h.s)
theorem lin_10 {a b : Ln} (h : Nf a) (k : Nf b) : lin a b 1 0 = a := by
  have h1 : a.s ≠ 0 := by have := h.pos; omega
  have h2 : b.s ≠ 0 := by have := k.pos; omega
  unfold lin
  refine (nrm_eq (ne_mul h1 h2) h1 ?_ ?_).trans (nrm_id h)
  · grind
  · grind
theorem lin_01 {a b : Ln} (h : Nf a) (k : Nf b) : lin a b 0 1 = b := by
  have h1 : a.s ≠ 0 := by have := h.pos; omega
  have h2 : b.s ≠ 0 := by have := k.pos; omega
  unfold lin
  refine (nrm_eq (ne_mul h1 h2) h2 ?_ ?_).trans (nrm_id k)
  · grind
  · grind
theorem inv_mul {d : Int} {r : Ln} (h : Nf r) (hn : r.p * r.p - d * r.q * r.q ≠ 0) : mulL d (invL d r) r = ⟨1, 0, 1⟩ := by
  rw [mul_comm']
  exact div_self' h hn
section
variable {d : Int} (hd : NS d) (sd : d ≤ 64)
include hd sd
/-- one square more -/
theorem row_step {X S : Ln} (hX : Nf X) (hS : Nf S) (pS : 0 < sgL d S) :
    subL (mulL d X S) (mulL d S ⟨flr d X, 0, 1⟩) = mulL d S (subL X ⟨flr d X, 0, 1⟩) ∧ sgL d (subL (mulL d S (subL X ⟨flr d X, 0, 1⟩)) S) = -1 ∧
    (subL X ⟨flr d X, 0, 1⟩ ≠ ⟨0, 0, 1⟩ → 0 < sgL d (mulL d S (subL X ⟨flr d X, 0, 1⟩)) ∧ S = mulL d (nxt d X) (mulL d S (subL X ⟨flr d X, 0, 1⟩))) := by
  have nw : Nf (⟨flr d X, 0, 1⟩ : Ln) := nf_whl _
  have n1 : Nf (⟨1, 0, 1⟩ : Ln) := nf_whl 1
  have fl := flr_is hd sd hX
  have nr : Nf (subL X ⟨flr d X, 0, 1⟩) := nf_sub hX nw
  refine ⟨?_, ?_, fun hz => ?_⟩
  · rw [mul_sub' hS hX nw, mul_comm' d S X]
  · have r1 := rest_one hX fl
    have p := sgL_mul hd hS (nf_sub n1 nr) pS r1
    rw [mul_sub' hS n1 nr, mul_one' hS] at p
    rw [sub_swap hS (nf_mul hS nr), sgL_neg]
    have : sgL d (subL S (mulL d S (subL X ⟨flr d X, 0, 1⟩))) = 1 := by
      rcases (show sgL d (subL S (mulL d S (subL X ⟨flr d X, 0, 1⟩))) = 1 ∨ sgL d (subL S (mulL d S (subL X ⟨flr d X, 0, 1⟩))) ≤ 0 by unfold sgL sgI; split <;> split <;> omega) with z | z
      · exact z
      · omega
    omega
  · have r0 := rest_pos hd hX fl hz
    have hn := norm_of_pos hd nr r0
    refine ⟨sgL_mul hd hS nr pS r0, ?_⟩
    unfold nxt
    have nv : Nf (invL d (subL X ⟨flr d X, 0, 1⟩)) := nrm_nf hn
    rw [mul_comm' d S, ← mul_assoc' nv nr hS, inv_mul nr hn, mul_comm', mul_one' hS]
theorem ratio_flr {L S : Ln} (hL : Nf L) (hS : Nf S) (pS : 0 < sgL d S) (hge : 0 ≤ sgL d (subL L S)) : 1 ≤ flr d (divL d L S) := by
  have hn := norm_of_pos hd hS pS
  have nv : Nf (invL d S) := nrm_nf hn
  have n1 : Nf (⟨1, 0, 1⟩ : Ln) := nf_whl 1
  have nq : Nf (divL d L S) := nf_mul hL nv
  have fl := flr_is hd sd nq
  refine fl.le hd.pos nq.pos ((nbL_sg nq 1).mpr ?_)
  have e : subL (divL d L S) ⟨1, 0, 1⟩ = mulL d (invL d S) (subL L S) := by
    rw [mul_sub' nv hL hS, inv_mul hS hn, mul_comm']
    rfl
  rw [e]
  by_cases c : subL L S = ⟨0, 0, 1⟩
  · rw [c, mul_zero' nv]
    simp [sgL, twoS, sgI]
  · have p : 0 < sgL d (subL L S) := by
      have : sgL d (subL L S) ≠ 0 := fun z => by
        unfold sgL at z
        rw [sgI_zero, twoS_zero hd (nf_sub hL hS)] at z
        exact c z
      omega
    have := sgL_mul hd nv (nf_sub hL hS) (sgL_inv hd hS pS) p
    omega
end
theorem div_mul_same {d : Int} {a b k : Ln} (h : Nf a) (hb : Nf b) (hk : Nf k) (hn : b.p * b.p - d * b.q * b.q ≠ 0) (kn : k.p * k.p - d * k.q * k.q ≠ 0) : divL d (mulL d a k) (mulL d b k) = divL d a b := by
  have e := div_div' (d := d) hk hb (nf_mul (d := d) h hk) kn hn
  rw [mul_comm' d k b] at e
  rw [← e, show divL d (mulL d a k) k = a from by
    have nv : Nf (invL d k) := nrm_nf kn
    show mulL d (mulL d a k) (invL d k) = a
    rw [mul_assoc' h hk nv, show mulL d k (invL d k) = ⟨1, 0, 1⟩ from div_self' hk kn, mul_one' h]]
end PL
namespace PL
open PySem PySem.Spec PyProof.Rows L2
/-! ### two rows -/
theorem sg3 (d : Int) (a : Ln) : sgL d a = 1 ∨ sgL d a = 0 ∨ sgL d a = -1 := by
  unfold sgL sgI
  split <;> split <;> omega
theorem sg_scale {d : Int} (hd : NS d) {k x : Ln} (hk : Nf k) (hx : Nf x) (pk : 0 < sgL d k) : sgL d (mulL d k x) = sgL d x := by
  have up : ∀ y : Ln, Nf y → 0 < sgL d y → sgL d (mulL d k y) = 1 := fun y hy py => by
    have := sgL_mul hd hk hy pk py
    have := sg3 d (mulL d k y)
    omega
  rcases sg3 d x with c | c | c
  · rw [c]; exact up x hx (by omega)
  · have z := c
    unfold sgL at z
    rw [sgI_zero, twoS_zero hd hx] at z
    rw [z, mul_zero' hk]
  · have := up (negL x) hx.neg (by rw [sgL_neg, c]; decide)
    rw [mul_neg' hk hx, sgL_neg] at this
    omega
/-- a length above 0 that is no fraction -/
structure Irr (d : Int) (r : Ln) : Prop where
  nf : Nf r
  p : 0 < sgL d r
  q : r.q ≠ 0
noncomputable def aF (d : Int) (r : Ln) (m : Int) : Int := flr d (mulL d ⟨m, 0, 1⟩ (invL d r))
theorem irr_ne {d : Int} (hd : NS d) {a : Ln} (h : Nf a) (hq : a.q ≠ 0) (k : Int) : sgL d (subL a ⟨k, 0, 1⟩) ≠ 0 := fun z => by
  have nw : Nf (⟨k, 0, 1⟩ : Ln) := nf_whl k
  unfold sgL at z
  rw [sgI_zero, twoS_zero hd (nf_sub h nw)] at z
  rw [(sub_zero_iff h nw).mp z] at hq
  exact hq rfl
section
variable {d : Int} (hd : NS d) (sd : d ≤ 64)
include hd sd
theorem Irr.inv {r : Ln} (R : Irr d r) : Irr d (invL d r) := by
  have hn := norm_of_pos hd R.nf R.p
  exact ⟨nrm_nf hn, sgL_inv hd R.nf R.p, inv_q R.nf hn R.q⟩
theorem irr_times {a : Ln} (R : Irr d a) {m : Int} (hm : 1 ≤ m) : Nf (mulL d ⟨m, 0, 1⟩ a) ∧ 0 < sgL d (mulL d ⟨m, 0, 1⟩ a) ∧ (mulL d ⟨m, 0, 1⟩ a).q ≠ 0 := by
  have nw : Nf (⟨m, 0, 1⟩ : Ln) := nf_whl m
  have hs := R.nf.pos
  have pm : 0 < sgL d ⟨m, 0, 1⟩ := by
    rw [sgL_gt]
    exact vS_pos_pp hd.pos (by show 0 ≤ m; omega) (Int.le_refl 0) (by show 0 < m + 0; omega)
  refine ⟨nf_mul nw R.nf, sgL_mul hd nw R.nf pm R.p, fun z => ?_⟩
  unfold mulL at z
  rw [nrm_q0 (ne_mul (show (1 : Int) ≠ 0 by decide) (by omega))] at z
  have z' : m * a.q = 0 := by
    have : m * a.q + 0 * a.p = 0 := z
    grind
  rcases Int.mul_eq_zero.mp z' with c | c
  · omega
  · exact R.q c
theorem fl_irr {M : Ln} (h : Nf M) (hq : M.q ≠ 0) (k : Int) : 0 ≤ sgL d (subL ⟨k, 0, 1⟩ M) ↔ flr d M < k := by
  have nw : Nf (⟨k, 0, 1⟩ : Ln) := nf_whl k
  have fl := flr_is hd sd h
  have ne := irr_ne hd h hq k
  have i := fl.iff hd.pos h.pos k
  rw [nbL_sg h] at i
  rw [sub_swap h nw, sgL_neg]
  constructor
  · intro z
    refine Int.not_le.mp fun c => ?_
    have := i.mpr c
    omega
  · intro z
    have : ¬ 0 ≤ sgL d (subL M ⟨k, 0, 1⟩) := fun c => by have := i.mp c; omega
    omega
theorem at_iff {r : Ln} (R : Irr d r) {m : Int} (hm : 1 ≤ m) (k : Int) : nbL d (mulL d r ⟨k, 0, 1⟩) m ↔ aF d r m < k := by
  have nk : Nf (⟨k, 0, 1⟩ : Ln) := nf_whl k
  have nm : Nf (⟨m, 0, 1⟩ : Ln) := nf_whl m
  have n1 : Nf (⟨1, 0, 1⟩ : Ln) := nf_whl 1
  have I := R.inv hd sd
  have hn := norm_of_pos hd R.nf R.p
  obtain ⟨t1, t2, t3⟩ := irr_times hd sd I hm
  rw [nbL_sg (nf_mul R.nf nk), ← sg_scale hd I.nf (nf_sub (nf_mul R.nf nk) nm) I.p, mul_sub' I.nf (nf_mul R.nf nk) nm, ← mul_assoc' I.nf R.nf nk, inv_mul R.nf hn,
    show mulL d ⟨1, 0, 1⟩ ⟨k, 0, 1⟩ = ⟨k, 0, 1⟩ by rw [mul_comm', mul_one' nk], mul_comm' d (invL d r)]
  exact fl_irr hd sd t1 t3 k
theorem flr_at {r : Ln} (R : Irr d r) {n : Int} (hn : 1 ≤ n) (k : Int) : flr d (mulL d r ⟨k, 0, 1⟩) = n ↔ aF d r n < k ∧ k ≤ aF d r (n + 1) := by
  have nk : Nf (⟨k, 0, 1⟩ : Ln) := nf_whl k
  have nrk : Nf (mulL d r ⟨k, 0, 1⟩) := nf_mul R.nf nk
  have h1 := at_iff hd sd R hn k
  have h2 := at_iff hd sd R (by omega : 1 ≤ n + 1) k
  constructor
  · intro e
    have fl := flr_is hd sd nrk
    rw [e] at fl
    exact ⟨h1.mp fl.lo, Int.not_lt.mp fun z => fl.hi (h2.mpr z)⟩
  · rintro ⟨a, b⟩
    exact flr_eq hd.pos nrk.pos ⟨h1.mpr a, fun z => by have := h2.mp z; omega⟩
theorem aF_mono {r : Ln} (R : Irr d r) {m : Int} (hm : 1 ≤ m) : aF d r m ≤ aF d r (m + 1) := by
  have nrk : Nf (mulL d r ⟨aF d r (m + 1) + 1, 0, 1⟩) := nf_mul R.nf (nf_whl _)
  have h2 := (at_iff hd sd R (by omega : 1 ≤ m + 1) (aF d r (m + 1) + 1)).mpr (by omega)
  have := (at_iff hd sd R hm (aF d r (m + 1) + 1)).mp (nbL_mono hd.pos nrk.pos (by omega) h2)
  omega
theorem aF_nn {r : Ln} (R : Irr d r) {m : Int} (hm : 1 ≤ m) : 0 ≤ aF d r m := by
  obtain ⟨t1, t2, _⟩ := irr_times hd sd (R.inv hd sd) hm
  exact flr_nn hd sd t1 (by omega)
theorem aF_add {r o : Ln} (R : Irr d r) (O : Irr d o) (hs : addL (invL d r) (invL d o) = ⟨1, 0, 1⟩) {m : Int} (hm : 1 ≤ m) : aF d r m + aF d o m = m - 1 := by
  have IR := R.inv hd sd
  have IO := O.inv hd sd
  have nm : Nf (⟨m, 0, 1⟩ : Ln) := nf_whl m
  obtain ⟨t1, t2, t3⟩ := irr_times hd sd IR hm
  obtain ⟨w1, w2, w3⟩ := irr_times hd sd IO hm
  obtain ⟨M, hM⟩ : ∃ M, M = mulL d ⟨m, 0, 1⟩ (invL d r) := ⟨_, rfl⟩
  obtain ⟨W, hW⟩ : ∃ W, W = mulL d ⟨m, 0, 1⟩ (invL d o) := ⟨_, rfl⟩
  have eA : aF d r m = flr d M := by rw [hM]; rfl
  have eB : aF d o m = flr d W := by rw [hW]; rfl
  rw [← hM] at t1 t2 t3
  rw [← hW] at w1 w2 w3
  have sum : addL M W = ⟨m, 0, 1⟩ := by
    rw [hM, hW, ← mul_add' nm IR.nf IO.nf, hs, mul_one' nm]
  have key : ∀ j : Int, subL W ⟨j, 0, 1⟩ = subL ⟨m - j, 0, 1⟩ M := by
    intro j
    obtain ⟨p, q, s, h0, e, -, -⟩ := t1.rep
    obtain ⟨p', q', s', h0', e', -, -⟩ := w1.rep
    rw [e, e', addL_nrm h0 h0', whl_nrm] at sum
    obtain ⟨z1, z2⟩ := nrm_inj (ne_mul h0 h0') (by decide) sum
    rw [e, e', whl_nrm, whl_nrm, subL_nrm h0' (by decide), subL_nrm (by decide) h0]
    have y1 : p' * s = m * (s * s') - p * s' := by omega
    have y2 : q' * s = -(q * s') := by omega
    refine nrm_eq (ne_mul h0' (by decide)) (ne_mul (by decide) h0) ?_ ?_
    · have l1 : (p' * 1 + -j * s') * (1 * s) = p' * s - j * s' * s := by
        rw [Int.mul_one, Int.one_mul, Int.add_mul, Int.neg_mul, Int.neg_mul]; omega
      have l2 : ((m - j) * s + -p * 1) * (s' * 1) = m * (s * s') - j * s' * s - p * s' := by
        rw [Int.mul_one, Int.mul_one, Int.add_mul, Int.sub_mul, Int.sub_mul, Int.neg_mul, Int.mul_assoc m, Int.mul_assoc j, Int.mul_assoc j, Int.mul_comm s' s]; omega
      rw [l1, l2, y1]; omega
    · have l1 : (q' * 1 + -0 * s') * (1 * s) = q' * s := by simp
      rw [l1, y2]
      simp [Int.neg_mul]
  have fl := flr_is hd sd w1
  have all : ∀ j : Int, j ≤ flr d W ↔ flr d M < m - j := by
    intro j
    rw [← fl.iff hd.pos w1.pos j, nbL_sg w1, key j]
    exact fl_irr hd sd t1 t3 (m - j)
  have h1 := (all (flr d W)).mp (Int.le_refl _)
  have h2 := (all (m - 1 - flr d M)).mpr (by omega)
  rw [eA, eB]
  omega
/-- each number is in one row -/
theorem two_rows {r o : Ln} (R : Irr d r) (O : Irr d o) (hs : addL (invL d r) (invL d o) = ⟨1, 0, 1⟩) {n : Int} (hn : 1 ≤ n) :
    (aF d r (n + 1) = aF d r n + 1 ∧ aF d o (n + 1) = aF d o n) ∨ (aF d r (n + 1) = aF d r n ∧ aF d o (n + 1) = aF d o n + 1) := by
  have a1 := aF_add hd sd R O hs hn
  have a2 := aF_add hd sd R O hs (by omega : 1 ≤ n + 1)
  have m1 := aF_mono hd sd R hn
  have m2 := aF_mono hd sd O hn
  omega
end
end PL
namespace PL
open PySem PySem.Spec PyProof.Rows L2
/-! ### no nearer fraction -/
theorem nn_scale {d k p q : Int} (hk : 0 ≤ k) (h : 0 ≤ vS d p q) : 0 ≤ vS d (k * p) (k * q) := by
  rw [vS_scale hk]
  exact Int.mul_nonneg (Int.mul_nonneg hk hk) h
/-- a pair's value is greater than another one's -/
def gtP (d : Int) (x y : Int × Int) : Prop := 0 < vS d (x.1 - y.1) (x.2 - y.2)
theorem u1_lin (a : Ln) (x y : Int × Int) (u v : Int) : u1 a (u * x.1 + v * y.1, u * x.2 + v * y.2) = u * u1 a x + v * u1 a y := by
  unfold u1; grind
theorem u2_lin (a : Ln) (x y : Int × Int) (u v : Int) : u2 a (u * x.1 + v * y.1, u * x.2 + v * y.2) = u * u2 a x + v * u2 a y := by
  unfold u2; grind
section
variable {d : Int} (hd : NS d) (sd : d ≤ 64)
include hd sd
/-- the step makes it less -/
theorem NbI.less {a X : Ln} {b h : Int × Int} {j : Nat} (I : NbI d a X b h j) : 0 < vS d (sgJ j * u1 a h + sgJ j * u1 a (flr d X * h.1 + b.1, flr d X * h.2 + b.2)) (sgJ j * u2 a h + sgJ j * u2 a (flr d X * h.1 + b.1, flr d X * h.2 + b.2)) := by
  obtain ⟨f, hf⟩ : ∃ f, f = flr d X := ⟨_, rfl⟩
  have fl := flr_is hd sd I.nf
  rw [← hf] at fl ⊢
  have hS := I.nf.pos
  have e := @sub_flr X.p X.q X.s f (by omega)
  rw [nrm_id I.nf] at e
  obtain ⟨p1, s1⟩ := h
  obtain ⟨p2, s2⟩ := b
  obtain ⟨r, hr⟩ : ∃ r, r = X.p - f * X.s := ⟨_, rfl⟩
  rw [← hr] at e
  have i1 := I.r1
  have i2 := I.r2
  have isg := I.sg
  simp only [u1, u2] at i1 i2 isg ⊢
  have one := rest_one I.nf fl
  rw [e] at one
  have e2 : subL ⟨1, 0, 1⟩ (nrm r X.q X.s) = nrm (X.s - r) (-X.q) X.s := by
    rw [one_nrm, subL_nrm (by decide) (by omega)]
    exact nrm_eq (by simpa using (show X.s ≠ 0 by omega)) (by omega) (by grind) (by grind)
  rw [e2, sg_pos hS] at one
  have := pos_mul hd one isg
  have k1 : X.s * ((f * s1 + s2) * a.p - (f * p1 + p2) * a.s) = -(r * (s1 * a.p - p1 * a.s) + d * X.q * (s1 * a.q)) := by grind
  have k2 : X.s * ((f * s1 + s2) * a.q) = -(r * (s1 * a.q) + X.q * (s1 * a.p - p1 * a.s)) := by grind
  rw [← vS_scale_pos hS]
  have g1 : X.s * (sgJ j * (s1 * a.p - p1 * a.s) + sgJ j * ((f * s1 + s2) * a.p - (f * p1 + p2) * a.s)) = (X.s - r) * (sgJ j * (s1 * a.p - p1 * a.s)) + d * -X.q * (sgJ j * (s1 * a.q)) := by
    have l1 : X.s * (sgJ j * (s1 * a.p - p1 * a.s) + sgJ j * ((f * s1 + s2) * a.p - (f * p1 + p2) * a.s)) = sgJ j * (X.s * (s1 * a.p - p1 * a.s)) + sgJ j * (X.s * ((f * s1 + s2) * a.p - (f * p1 + p2) * a.s)) := by grind
    rw [l1, k1]; grind
  have g2 : X.s * (sgJ j * (s1 * a.q) + sgJ j * ((f * s1 + s2) * a.q)) = (X.s - r) * (sgJ j * (s1 * a.q)) + -X.q * (sgJ j * (s1 * a.p - p1 * a.s)) := by
    have l1 : X.s * (sgJ j * (s1 * a.q) + sgJ j * ((f * s1 + s2) * a.q)) = sgJ j * (X.s * (s1 * a.q)) + sgJ j * (X.s * ((f * s1 + s2) * a.q)) := by grind
    rw [l1, k2]; grind
  rw [g1, g2]
  exact this
/-- two next ones: x behind y -/
structure Nx (a : Ln) (σ : Int) (x y : Int × Int) : Prop where
  σ1 : σ = 1 ∨ σ = -1
  dt : (x.1 * y.2 - x.2 * y.1).natAbs = 1
  s1 : 1 ≤ x.2
  t1 : 1 ≤ y.2
  le : y.2 ≤ x.2
  X : 0 ≤ vS d (σ * u1 a x) (σ * u2 a x)
  Y : 0 < vS d (-σ * u1 a y) (-σ * u2 a y)
  lt : 0 < vS d (-σ * u1 a y - σ * u1 a x) (-σ * u2 a y - σ * u2 a x)
theorem nb_nx {a : Ln} : ∀ (n : Nat) (X : Ln) (b h : Int × Int) (j : Nat), NbI d a X b h j → ∀ i x y, (nbs b h (cfl d n X))[i + 1]? = some x → (nbs b h (cfl d n X))[i]? = some y → Nx (d := d) a (sgJ (i + 1 + j + 1)) x y
  | 0, X, b, h, j, I, i, x, y, hx, _ => by simp [cfl, cq, nbs] at hx
  | n + 1, X, b, h, j, I, i, x, y, hx, hy => by
    obtain ⟨F, dt, nx⟩ := I.fact hd sd
    rw [cfl_succ, nbs] at hx hy
    rw [List.getElem?_cons_succ] at hx
    by_cases hz : subL X ⟨flr d X, 0, 1⟩ = ⟨0, 0, 1⟩
    · rw [if_pos hz] at hx
      simp [nbs] at hx
    · rw [if_neg hz] at hx hy
      obtain ⟨J, hp⟩ := nx hz
      cases i with
      | succ i =>
        rw [List.getElem?_cons_succ] at hy
        have := nb_nx n _ _ _ _ J i x y hx hy
        rwa [show i + 1 + (j + 1) + 1 = i + 1 + 1 + j + 1 by omega] at this
      | zero =>
        rw [List.getElem?_cons_zero] at hy
        cases hy
        cases n with
        | zero => simp [cfl, cq, nbs] at hx
        | succ n =>
          obtain ⟨F2, dt2, nx2⟩ := J.fact hd sd
          have ls := J.less hd sd
          rw [cfl_succ, nbs] at hx
          rw [List.getElem?_cons_zero] at hx
          cases hx
          have e1 : sgJ (0 + 1 + j + 1) = -sgJ (j + 1) := by rw [show 0 + 1 + j + 1 = (j + 1) + 1 by omega]; exact sgJ_succ (j + 1)
          have g1 := gt1_ge hd sd J.nf (J.gt (by omega))
          have s1 := F.s1
          rw [e1]
          have X2 : 0 ≤ vS d (-sgJ (j + 1) * u1 a (flr d (nxt d X) * (flr d X * h.1 + b.1) + h.1, flr d (nxt d X) * (flr d X * h.2 + b.2) + h.2)) (-sgJ (j + 1) * u2 a (flr d (nxt d X) * (flr d X * h.1 + b.1) + h.1, flr d (nxt d X) * (flr d X * h.2 + b.2) + h.2)) := by
            rcases F2.sg with k | ⟨k1, k2⟩
            · have k' := k
              rw [sgJ_succ] at k'
              exact Int.le_of_lt k'
            · rw [k1, k2]; simp [vS]
          refine ⟨?_, dt2, F2.s1, s1, ?_, X2, ?_, ?_⟩
          · unfold sgJ; split <;> simp
          · show flr d X * h.2 + b.2 ≤ flr d (nxt d X) * (flr d X * h.2 + b.2) + h.2
            have h2 : 0 ≤ h.2 := by
              rcases I.z with ⟨_, z1, _⟩ | ⟨_, z2⟩
              · rw [z1]; decide
              · omega
            have := Int.mul_le_mul_of_nonneg_right g1 (show 0 ≤ flr d X * h.2 + b.2 by have := s1; simp only at this; omega)
            omega
          · rw [show - -sgJ (j + 1) = sgJ (j + 1) by omega]
            exact hp
          · rw [show - -sgJ (j + 1) * u1 a (flr d X * h.1 + b.1, flr d X * h.2 + b.2) - -sgJ (j + 1) * u1 a (flr d (nxt d X) * (flr d X * h.1 + b.1) + h.1, flr d (nxt d X) * (flr d X * h.2 + b.2) + h.2) = sgJ (j + 1) * u1 a (flr d X * h.1 + b.1, flr d X * h.2 + b.2) + sgJ (j + 1) * u1 a (flr d (nxt d X) * (flr d X * h.1 + b.1) + h.1, flr d (nxt d X) * (flr d X * h.2 + b.2) + h.2) by grind,
              show - -sgJ (j + 1) * u2 a (flr d X * h.1 + b.1, flr d X * h.2 + b.2) - -sgJ (j + 1) * u2 a (flr d (nxt d X) * (flr d X * h.1 + b.1) + h.1, flr d (nxt d X) * (flr d X * h.2 + b.2) + h.2) = sgJ (j + 1) * u2 a (flr d X * h.1 + b.1, flr d X * h.2 + b.2) + sgJ (j + 1) * u2 a (flr d (nxt d X) * (flr d X * h.1 + b.1) + h.1, flr d (nxt d X) * (flr d X * h.2 + b.2) + h.2) by grind]
            exact ls
end
end PL
namespace PL
open PySem PySem.Spec PyProof.Rows L2
theorem pos_comb {d : Int} (hd : NS d) {x1 x2 y1 y2 α β : Int} (hx : 0 ≤ vS d x1 x2) (hy : 0 < vS d y1 y2) (hα : 0 ≤ α) (hβ : 0 < β) : 0 < vS d (α * x1 + β * y1) (α * x2 + β * y2) := by
  have h1 := nn_scale (d := d) hα hx
  have h2 : 0 < vS d (β * y1) (β * y2) := (vS_scale_pos hβ).mpr hy
  have := pos_add hd h2 h1
  rwa [show β * y1 + α * x1 = α * x1 + β * y1 by omega, show β * y2 + α * x2 = α * x2 + β * y2 by omega] at this
section
variable {d : Int} (hd : NS d)
include hd
/-- a fraction with a lower part not greater lies farther -/
theorem Nx.best {a : Ln} {σ : Int} {x y : Int × Int} (N : Nx (d := d) a σ x y) {A B : Int} (hB1 : 1 ≤ B) (hB : B ≤ x.2) (hne : A * x.2 ≠ B * x.1) :
    ∃ τ, (τ = 1 ∨ τ = -1) ∧ 0 < vS d (τ * u1 a (A, B)) (τ * u2 a (A, B)) ∧ 0 < vS d (x.2 * (τ * u1 a (A, B)) - B * (σ * u1 a x)) (x.2 * (τ * u2 a (A, B)) - B * (σ * u2 a x)) := by
  obtain ⟨p, s⟩ := x
  obtain ⟨p', t⟩ := y
  have hσ := N.σ1
  have hdt := N.dt
  have hs := N.s1
  have ht := N.t1
  have hle := N.le
  have hX := N.X
  have hY := N.Y
  have hlt := N.lt
  simp only at hdt hs ht hle hB hne ⊢
  obtain ⟨δ, hδ⟩ : ∃ δ, δ = p * t - s * p' := ⟨_, rfl⟩
  have hδ1 : δ = 1 ∨ δ = -1 := by rw [hδ]; omega
  have hδδ : δ * δ = 1 := by rcases hδ1 with c | c <;> rw [c] <;> rfl
  obtain ⟨u, hu⟩ : ∃ u, u = δ * (A * t - B * p') := ⟨_, rfl⟩
  obtain ⟨v, hv⟩ : ∃ v, v = δ * (p * B - s * A) := ⟨_, rfl⟩
  have eA : u * p + v * p' = A := by
    have : u * p + v * p' = δ * δ * A := by rw [hu, hv]; grind
    rw [this, hδδ]; omega
  have eB : u * s + v * t = B := by
    have : u * s + v * t = δ * δ * B := by rw [hu, hv]; grind
    rw [this, hδδ]; omega
  have hv0 : v ≠ 0 := by
    intro z
    rw [hv] at z
    rcases Int.mul_eq_zero.mp z with c | c
    · omega
    · have c1 : p * B = B * p := Int.mul_comm _ _
      have c2 : s * A = A * s := Int.mul_comm _ _
      omega
  have l1 := u1_lin a (p, s) (p', t) u v
  have l2 := u2_lin a (p, s) (p', t) u v
  simp only at l1 l2
  rw [eA, eB] at l1 l2
  obtain ⟨X1, hX1⟩ : ∃ X1, X1 = σ * u1 a (p, s) := ⟨_, rfl⟩
  obtain ⟨X2, hX2⟩ : ∃ X2, X2 = σ * u2 a (p, s) := ⟨_, rfl⟩
  obtain ⟨Y1, hY1⟩ : ∃ Y1, Y1 = -σ * u1 a (p', t) := ⟨_, rfl⟩
  obtain ⟨Y2, hY2⟩ : ∃ Y2, Y2 = -σ * u2 a (p', t) := ⟨_, rfl⟩
  rw [← hX1, ← hX2] at hX
  rw [← hY1, ← hY2] at hY
  rw [← hX1, ← hX2, ← hY1, ← hY2] at hlt
  have s1 : σ * u1 a (A, B) = u * X1 - v * Y1 := by rw [l1, hX1, hY1]; grind
  have s2 : σ * u2 a (A, B) = u * X2 - v * Y2 := by rw [l2, hX2, hY2]; grind
  have n1 : -σ * u1 a (A, B) = -u * X1 + v * Y1 := by rw [l1, hX1, hY1]; grind
  have n2 : -σ * u2 a (A, B) = -u * X2 + v * Y2 := by rw [l2, hX2, hY2]; grind
  rw [← hX1, ← hX2]
  rcases Int.lt_or_gt_of_ne hv0 with c | c
  · -- v < 0
    have hu1 : 1 ≤ u := by
      refine Int.not_lt.mp fun z => ?_
      have h1 : u * s ≤ 0 := Int.mul_nonpos_of_nonpos_of_nonneg (by omega) (by omega)
      have h2 : v * t ≤ 0 := Int.mul_nonpos_of_nonpos_of_nonneg (by omega) (by omega)
      omega
    refine ⟨σ, hσ, ?_, ?_⟩
    · rw [s1, s2, show u * X1 - v * Y1 = u * X1 + -v * Y1 by grind, show u * X2 - v * Y2 = u * X2 + -v * Y2 by grind]
      exact pos_comb hd hX hY (by omega) (by omega)
    · rw [s1, s2]
      have hc : 0 ≤ -v * t := Int.mul_nonneg (by omega) (by omega)
      have hc2 : 0 < s * -v := Int.mul_pos (by omega) (by omega)
      rw [show s * (u * X1 - v * Y1) - B * X1 = (-v * t) * X1 + (s * -v) * Y1 by rw [← eB]; grind, show s * (u * X2 - v * Y2) - B * X2 = (-v * t) * X2 + (s * -v) * Y2 by rw [← eB]; grind]
      exact pos_comb hd hX hY hc hc2
  · -- 0 < v
    have hvt : t ≤ v * t := by
      have := Int.mul_le_mul_of_nonneg_right (show 1 ≤ v by omega) (show 0 ≤ t by omega)
      omega
    have hu0 : u ≤ 0 := by
      refine Int.not_lt.mp fun z => ?_
      have := Int.mul_le_mul_of_nonneg_right (show 1 ≤ u by omega) (show 0 ≤ s by omega)
      omega
    refine ⟨-σ, by omega, ?_, ?_⟩
    · rw [n1, n2]
      exact pos_comb hd hX hY (by omega) c
    · rw [n1, n2]
      by_cases cu : u = 0
      · subst cu
        have eB' : v * t = B := by omega
        have g : 0 < vS d (v * (t * (Y1 - X1) + (s - t) * Y1)) (v * (t * (Y2 - X2) + (s - t) * Y2)) := by
          rw [vS_scale_pos c]
          have := pos_comb hd (Int.le_of_lt hY) hlt (show 0 ≤ s - t by omega) (show 0 < t by omega)
          rwa [show (s - t) * Y1 + t * (Y1 - X1) = t * (Y1 - X1) + (s - t) * Y1 by omega, show (s - t) * Y2 + t * (Y2 - X2) = t * (Y2 - X2) + (s - t) * Y2 by omega] at this
        rwa [show v * (t * (Y1 - X1) + (s - t) * Y1) = s * (-0 * X1 + v * Y1) - B * X1 by rw [← eB']; grind, show v * (t * (Y2 - X2) + (s - t) * Y2) = s * (-0 * X2 + v * Y2) - B * X2 by rw [← eB']; grind] at g
      · have hsu : s ≤ -u * s := by
          have := Int.mul_le_mul_of_nonneg_right (show 1 ≤ -u by omega) (show 0 ≤ s by omega)
          omega
        have hc2 : 0 < s * v := Int.mul_pos (by omega) c
        rw [show s * (-u * X1 + v * Y1) - B * X1 = (-u * s - B) * X1 + (s * v) * Y1 by grind, show s * (-u * X2 + v * Y2) - B * X2 = (-u * s - B) * X2 + (s * v) * Y2 by grind]
        exact pos_comb hd hX hY (by omega) hc2
/-- the distance of one is less than 1 by both lower parts -/
theorem Nx.near {a : Ln} {σ : Int} {x y : Int × Int} (N : Nx (d := d) a σ x y) (ha : 0 < a.s) : 0 ≤ vS d (a.s - x.2 * (-σ * u1 a y)) (-(x.2 * (-σ * u2 a y))) := by
  obtain ⟨p, s⟩ := x
  obtain ⟨p', t⟩ := y
  have hσ := N.σ1
  have hdt := N.dt
  have hX := N.X
  have hY := N.Y
  have hs := N.s1
  have ht := N.t1
  simp only at hdt hs ht ⊢
  obtain ⟨δ, hδ⟩ : ∃ δ, δ = p * t - s * p' := ⟨_, rfl⟩
  have hδ1 : δ = 1 ∨ δ = -1 := by rw [hδ]; omega
  -- t e(x) - s e(y) = -δ a.s
  have i1 : t * u1 a (p, s) - s * u1 a (p', t) = -(δ * a.s) := by rw [hδ]; unfold u1; grind
  have i2 : t * u2 a (p, s) - s * u2 a (p', t) = 0 := by unfold u2; grind
  have j1 : t * (σ * u1 a (p, s)) + s * (-σ * u1 a (p', t)) = -(σ * δ * a.s) := by
    have : t * (σ * u1 a (p, s)) + s * (-σ * u1 a (p', t)) = σ * (t * u1 a (p, s) - s * u1 a (p', t)) := by grind
    rw [this, i1]; grind
  have j2 : t * (σ * u2 a (p, s)) + s * (-σ * u2 a (p', t)) = 0 := by
    have : t * (σ * u2 a (p, s)) + s * (-σ * u2 a (p', t)) = σ * (t * u2 a (p, s) - s * u2 a (p', t)) := by grind
    rw [this, i2]; grind
  have pos := pos_comb hd hX hY (show 0 ≤ t by omega) (show 0 < s by omega)
  rw [j1, j2] at pos
  have hσδ : σ * δ = -1 := by
    rcases hσ with c | c <;> rcases hδ1 with e | e <;> subst c <;> rw [e] at pos ⊢
    · exfalso
      rw [vS_nn (by omega) (Int.le_refl 0)] at pos
      have := sq_nn (-(1 * 1 * a.s))
      simp at pos this
      omega
    · rfl
    · rfl
    · exfalso
      rw [vS_nn (by omega) (Int.le_refl 0)] at pos
      have := sq_nn (-(-1 * -1 * a.s))
      simp at pos this
      omega
  rw [hσδ] at j1
  have k1 : a.s - s * (-σ * u1 a (p', t)) = t * (σ * u1 a (p, s)) := by omega
  have k2 : -(s * (-σ * u2 a (p', t))) = t * (σ * u2 a (p, s)) := by omega
  rw [k1, k2]
  exact nn_scale (by omega) hX
end
end PL
namespace PL
open PySem PySem.Spec PyProof.Rows L2
theorem int_pos {d z : Int} (h : 0 < vS d z 0) : 0 < z := by
  refine Int.not_le.mp fun c => ?_
  rw [vS_nn c (Int.le_refl 0)] at h
  have := sq_nn z
  simp at h
  omega
theorem pos_not {d : Int} {p q σ τ : Int} (hσ : σ = 1 ∨ σ = -1) (hτ : τ = 1 ∨ τ = -1) (h : 0 < vS d (σ * p) (σ * q)) (k : 0 ≤ vS d (τ * p) (τ * q)) : τ = σ := by
  rcases hσ with c | c <;> rcases hτ with e | e <;> subst c <;> subst e
  · rfl
  · exfalso
    rw [show -1 * p = -(1 * p) by omega, show -1 * q = -(1 * q) by omega, vS_neg] at k
    omega
  · exfalso
    rw [show -1 * p = -(1 * p) by omega, show -1 * q = -(1 * q) by omega, vS_neg] at h
    omega
  · rfl
section
variable {d : Int} (hd : NS d)
include hd
/-- a fraction nearer than a half by the square of its lower part -/
theorem Nx.legendre {a : Ln} {σ : Int} {x y : Int × Int} (N : Nx (d := d) a σ x y) (ha : 0 < a.s) {A B τ : Int} (hB1 : 1 ≤ B) (hB : y.2 ≤ B) (hB2 : B < x.2) (hτ : τ = 1 ∨ τ = -1)
    (hW : 0 ≤ vS d (τ * u1 a (A, B)) (τ * u2 a (A, B))) (G : 0 < vS d (a.s - 2 * B * (τ * u1 a (A, B))) (-(2 * B * (τ * u2 a (A, B))))) : B * y.1 = A * y.2 := by
  obtain ⟨p, s⟩ := x
  obtain ⟨p', t⟩ := y
  have hσ := N.σ1
  have hdt := N.dt
  have ht := N.t1
  have hX := N.X
  have hY := N.Y
  simp only at hdt ht hB hB2 ⊢
  obtain ⟨δ, hδ⟩ : ∃ δ, δ = p * t - s * p' := ⟨_, rfl⟩
  have hδ1 : δ = 1 ∨ δ = -1 := by rw [hδ]; omega
  have hδδ : δ * δ = 1 := by rcases hδ1 with c | c <;> rw [c] <;> rfl
  obtain ⟨u, hu⟩ : ∃ u, u = δ * (A * t - B * p') := ⟨_, rfl⟩
  obtain ⟨v, hv⟩ : ∃ v, v = δ * (p * B - s * A) := ⟨_, rfl⟩
  have eA : u * p + v * p' = A := by
    have : u * p + v * p' = δ * δ * A := by rw [hu, hv]; grind
    rw [this, hδδ]; omega
  have eB : u * s + v * t = B := by
    have : u * s + v * t = δ * δ * B := by rw [hu, hv]; grind
    rw [this, hδδ]; omega
  by_cases hu0 : u = 0
  · rw [hu0] at eA eB
    rw [← eA, ← eB]; grind
  exfalso
  have l1 := u1_lin a (p, s) (p', t) u v
  have l2 := u2_lin a (p, s) (p', t) u v
  simp only at l1 l2
  rw [eA, eB] at l1 l2
  obtain ⟨X1, hX1⟩ : ∃ X1, X1 = σ * u1 a (p, s) := ⟨_, rfl⟩
  obtain ⟨X2, hX2⟩ : ∃ X2, X2 = σ * u2 a (p, s) := ⟨_, rfl⟩
  obtain ⟨Y1, hY1⟩ : ∃ Y1, Y1 = -σ * u1 a (p', t) := ⟨_, rfl⟩
  obtain ⟨Y2, hY2⟩ : ∃ Y2, Y2 = -σ * u2 a (p', t) := ⟨_, rfl⟩
  rw [← hX1, ← hX2] at hX
  rw [← hY1, ← hY2] at hY
  have s1 : σ * u1 a (A, B) = u * X1 - v * Y1 := by rw [l1, hX1, hY1]; grind
  have s2 : σ * u2 a (A, B) = u * X2 - v * Y2 := by rw [l2, hX2, hY2]; grind
  have n1 : -σ * u1 a (A, B) = -u * X1 + v * Y1 := by rw [l1, hX1, hY1]; grind
  have n2 : -σ * u2 a (A, B) = -u * X2 + v * Y2 := by rw [l2, hX2, hY2]; grind
  obtain ⟨W1, hW1⟩ : ∃ W1, W1 = τ * u1 a (A, B) := ⟨_, rfl⟩
  obtain ⟨W2, hW2⟩ : ∃ W2, W2 = τ * u2 a (A, B) := ⟨_, rfl⟩
  -- the first numbers, and that the second ones go
  have m1 : t * u1 a (A, B) - B * u1 a (p', t) = a.s * (B * p' - A * t) := by unfold u1; grind
  have m2 : t * u2 a (A, B) - B * u2 a (p', t) = 0 := by unfold u2; grind
  have hm0 : B * p' - A * t ≠ 0 := by
    intro z
    apply hu0
    rw [hu, show A * t - B * p' = -(B * p' - A * t) by omega, z]; simp
  rw [← hW1, ← hW2] at hW G
  have big : ∀ z : Int, z ≠ 0 → a.s ≤ a.s * z ∨ a.s * z ≤ -a.s := by
    intro z hz
    rcases Int.lt_or_gt_of_ne hz with c | c
    · right
      have := Int.mul_le_mul_of_nonneg_left (show z ≤ -1 by omega) (show 0 ≤ a.s by omega)
      omega
    · left
      have := Int.mul_le_mul_of_nonneg_left (show 1 ≤ z by omega) (show 0 ≤ a.s by omega)
      omega
  -- W is at least Y
  have fin : (W1 = u.natAbs * X1 + v.natAbs * Y1 ∧ W2 = u.natAbs * X2 + v.natAbs * Y2) → v ≠ 0 → ∀ z : Int, z ≠ 0 → (∃ ε : Int, (ε = 1 ∨ ε = -1) ∧ t * W1 + ε * (B * Y1) = a.s * z ∧ t * W2 + ε * (B * Y2) = 0) → False := by
    intro ⟨w1, w2⟩ hv0 z hz ⟨ε, hε, e1, e2⟩
    have hWY : 0 ≤ vS d (W1 - Y1) (W2 - Y2) := by
      rw [w1, w2, show (u.natAbs : Int) * X1 + v.natAbs * Y1 - Y1 = u.natAbs * X1 + ((v.natAbs : Int) - 1) * Y1 by grind, show (u.natAbs : Int) * X2 + v.natAbs * Y2 - Y2 = u.natAbs * X2 + ((v.natAbs : Int) - 1) * Y2 by grind]
      exact nn_add hd.pos (nn_scale (by omega) hX) (nn_scale (by omega) (Int.le_of_lt hY))
    have sum : ∀ c1 c2 c3 : Int, 0 ≤ c1 → 0 ≤ c2 → 0 ≤ c3 → 0 < vS d ((a.s - 2 * B * W1) + (c1 * W1 + (c2 * (W1 - Y1) + c3 * Y1))) (-(2 * B * W2) + (c1 * W2 + (c2 * (W2 - Y2) + c3 * Y2))) := fun c1 c2 c3 h1 h2 h3 =>
      pos_add hd G (nn_add hd.pos (nn_scale h1 hW) (nn_add hd.pos (nn_scale h2 hWY) (nn_scale h3 (Int.le_of_lt hY))))
    have up : a.s * z < a.s := by
      rcases hε with c | c <;> subst c
      · have := sum (B - t) B 0 (by omega) (by omega) (by omega)
        rw [show (a.s - 2 * B * W1) + ((B - t) * W1 + (B * (W1 - Y1) + 0 * Y1)) = a.s - (t * W1 + 1 * (B * Y1)) by grind, show -(2 * B * W2) + ((B - t) * W2 + (B * (W2 - Y2) + 0 * Y2)) = -(t * W2 + 1 * (B * Y2)) by grind, e1, e2] at this
        have := int_pos this
        omega
      · have := sum (2 * B - t) 0 B (by omega) (by omega) (by omega)
        rw [show (a.s - 2 * B * W1) + ((2 * B - t) * W1 + (0 * (W1 - Y1) + B * Y1)) = a.s - (t * W1 + -1 * (B * Y1)) by grind, show -(2 * B * W2) + ((2 * B - t) * W2 + (0 * (W2 - Y2) + B * Y2)) = -(t * W2 + -1 * (B * Y2)) by grind, e1, e2] at this
        have := int_pos this
        omega
    have lo : -a.s < a.s * z := by
      rcases hε with c | c <;> subst c
      · have := sum (2 * B + t) 0 B (by omega) (by omega) (by omega)
        rw [show (a.s - 2 * B * W1) + ((2 * B + t) * W1 + (0 * (W1 - Y1) + B * Y1)) = a.s + (t * W1 + 1 * (B * Y1)) by grind, show -(2 * B * W2) + ((2 * B + t) * W2 + (0 * (W2 - Y2) + B * Y2)) = (t * W2 + 1 * (B * Y2)) by grind, e1, e2] at this
        have := int_pos this
        omega
      · have := sum (B + t) B 0 (by omega) (by omega) (by omega)
        rw [show (a.s - 2 * B * W1) + ((B + t) * W1 + (B * (W1 - Y1) + 0 * Y1)) = a.s + (t * W1 + -1 * (B * Y1)) by grind, show -(2 * B * W2) + ((B + t) * W2 + (B * (W2 - Y2) + 0 * Y2)) = (t * W2 + -1 * (B * Y2)) by grind, e1, e2] at this
        have := int_pos this
        omega
    rcases big z hz with c | c <;> omega
  have hv0 : v ≠ 0 := by
    intro z
    rw [z] at eB
    have h1 : u * s = B := by omega
    rcases Int.lt_or_gt_of_ne hu0 with c | c
    · have := Int.mul_nonpos_of_nonpos_of_nonneg (show u ≤ 0 by omega) (show 0 ≤ s by omega)
      omega
    · have := Int.mul_le_mul_of_nonneg_right (show 1 ≤ u by omega) (show 0 ≤ s by omega)
      omega
  have hs0 : 0 < s := by omega
  rcases Int.lt_or_gt_of_ne hv0 with c | c
  · have hu1 : 1 ≤ u := by
      refine Int.not_lt.mp fun z => ?_
      have h1 : u * s ≤ 0 := Int.mul_nonpos_of_nonpos_of_nonneg (by omega) (by omega)
      have h2 : v * t ≤ 0 := Int.mul_nonpos_of_nonpos_of_nonneg (by omega) (by omega)
      omega
    have pos : 0 < vS d (σ * u1 a (A, B)) (σ * u2 a (A, B)) := by
      rw [s1, s2, show u * X1 - v * Y1 = u * X1 + -v * Y1 by grind, show u * X2 - v * Y2 = u * X2 + -v * Y2 by grind]
      exact pos_comb hd hX hY (by omega) (by omega)
    have eτ := pos_not hσ hτ pos (by rw [hW1, hW2] at hW; exact hW)
    refine fin ⟨?_, ?_⟩ hv0 (σ * (B * p' - A * t)) ?_ ⟨1, .inl rfl, ?_, ?_⟩
    · rw [hW1, eτ, s1, show (u.natAbs : Int) = u by omega, show (v.natAbs : Int) = -v by omega]; grind
    · rw [hW2, eτ, s2, show (u.natAbs : Int) = u by omega, show (v.natAbs : Int) = -v by omega]; grind
    · exact Int.mul_ne_zero (by omega) hm0
    · rw [hW1, eτ, hY1]
      have : t * (σ * u1 a (A, B)) + 1 * (B * (-σ * u1 a (p', t))) = σ * (t * u1 a (A, B) - B * u1 a (p', t)) := by grind
      rw [this, m1]; grind
    · rw [hW2, eτ, hY2]
      have : t * (σ * u2 a (A, B)) + 1 * (B * (-σ * u2 a (p', t))) = σ * (t * u2 a (A, B) - B * u2 a (p', t)) := by grind
      rw [this, m2]; simp
  · have hvt : t ≤ v * t := by
      have := Int.mul_le_mul_of_nonneg_right (show 1 ≤ v by omega) (show 0 ≤ t by omega)
      omega
    have hu1 : u ≤ -1 := by
      refine Int.not_lt.mp fun z => ?_
      have := Int.mul_le_mul_of_nonneg_right (show 1 ≤ u by omega) (show 0 ≤ s by omega)
      omega
    have pos : 0 < vS d (-σ * u1 a (A, B)) (-σ * u2 a (A, B)) := by
      rw [n1, n2]
      exact pos_comb hd hX hY (by omega) c
    have eτ := pos_not (σ := -σ) (by omega) hτ pos (by rw [hW1, hW2] at hW; exact hW)
    refine fin ⟨?_, ?_⟩ hv0 (-σ * (B * p' - A * t)) ?_ ⟨-1, .inr rfl, ?_, ?_⟩
    · rw [hW1, eτ, n1, show (u.natAbs : Int) = -u by omega, show (v.natAbs : Int) = v by omega]
    · rw [hW2, eτ, n2, show (u.natAbs : Int) = -u by omega, show (v.natAbs : Int) = v by omega]
    · exact Int.mul_ne_zero (by omega) hm0
    · rw [hW1, eτ, hY1]
      have : t * (-σ * u1 a (A, B)) + -1 * (B * (-σ * u1 a (p', t))) = -σ * (t * u1 a (A, B) - B * u1 a (p', t)) := by grind
      rw [this, m1]; grind
    · rw [hW2, eτ, hY2]
      have : t * (-σ * u2 a (A, B)) + -1 * (B * (-σ * u2 a (p', t))) = -σ * (t * u2 a (A, B) - B * u2 a (p', t)) := by grind
      rw [this, m2]; simp
end
/-! lower parts grow -/
theorem nbs_rec : ∀ (fs : List Int) (b h : Int × Int) (i : Nat) (x y z : Int × Int), (nbs b h fs)[i]? = some x → (nbs b h fs)[i + 1]? = some y → (nbs b h fs)[i + 2]? = some z → ∃ f, fs[i + 2]? = some f ∧ z.2 = f * y.2 + x.2
  | [], b, h, i, x, y, z, hx, _, _ => by simp [nbs] at hx
  | f :: fs, b, h, i + 1, x, y, z, hx, hy, hz => by
    rw [nbs, List.getElem?_cons_succ] at hx hy hz
    obtain ⟨g, e1, e2⟩ := nbs_rec fs _ _ i x y z hx hy hz
    exact ⟨g, by rw [show i + 1 + 2 = (i + 2) + 1 by omega, List.getElem?_cons_succ]; exact e1, e2⟩
  | [f], b, h, 0, x, y, z, hx, hy, hz => by simp [nbs] at hy
  | [f, g], b, h, 0, x, y, z, hx, hy, hz => by simp [nbs] at hz
  | f :: g :: k :: fs, b, h, 0, x, y, z, hx, hy, hz => by
    simp only [nbs, List.getElem?_cons_zero, List.getElem?_cons_succ, Option.some.injEq] at hx hy hz
    subst hx; subst hy; subst hz
    exact ⟨k, rfl, rfl⟩
theorem find_step (s : Nat → Int) (B : Int) (h0 : s 0 ≤ B) : ∀ n, B < s n → ∃ k, k < n ∧ s k ≤ B ∧ B < s (k + 1)
  | 0, h => absurd h (by omega)
  | n + 1, h => by
    by_cases c : B < s n
    · obtain ⟨k, h1, h2⟩ := find_step s B h0 n c
      exact ⟨k, by omega, h2⟩
    · exact ⟨n, by omega, by omega, h⟩
theorem frac_eq {A B p t : Int} (hB : 1 ≤ B) (ht : 1 ≤ t) (g1 : Nat.gcd A.natAbs B.natAbs = 1) (g2 : Nat.gcd p.natAbs t.natAbs = 1) (e : B * p = A * t) : A = p ∧ B = t := by
  have h1 : Nf ⟨A, 0, B⟩ := ⟨by show 0 < B; omega, by unfold g3; show Nat.gcd (Nat.gcd A.natAbs 0) B.natAbs = 1; rw [Nat.gcd_zero_right]; exact g1⟩
  have h2 : Nf ⟨p, 0, t⟩ := ⟨by show 0 < t; omega, by unfold g3; show Nat.gcd (Nat.gcd p.natAbs 0) t.natAbs = 1; rw [Nat.gcd_zero_right]; exact g2⟩
  have := nf_eq h1 h2 (show A * t = p * B by rw [← e]; exact Int.mul_comm _ _) (show (0 : Int) * t = 0 * B by simp)
  exact ⟨congrArg Ln.p this, congrArg Ln.s this⟩
end PL
namespace PL
open PySem PySem.Spec PyProof.Rows L2
/-! what `repr` tells of lists of truth values, and the comparing of texts -/
theorem shown_bool (a : Bool) : (PyData.bool a).shown = (if a then "True" else "False" : Str) := by simp only [PyData.shown]
theorem rp_b2 (a b : Bool) : rpOk (.list [.bool a, .bool b]) = true := by
  cases a <;> cases b <;> (unfold rpOk; rw [sizeLine_eq]; decide +kernel)
theorem rp_b3 (a b c : Bool) : rpOk (.list [.bool a, .bool b, .bool c]) = true := by
  cases a <;> cases b <;> cases c <;> (unfold rpOk; rw [sizeLine_eq]; decide +kernel)
theorem eqOk_str {x y : Str} (h : PyData.strOk x = true) (k : PyData.strOk y = true) : eqOk (.str x) (.str y) = true := by simp [eqOk, PyData.canLay0, PyData.depth, h, k]
@[simp] theorem eqv_str_self (x : Str) : PyData.eqv (.str x) (.str x) = true := by simp [PyData.eqv]
theorem sk_b2 (a b : Bool) : PyData.strOk (PyData.list [.bool a, .bool b]).shown = true := by
  cases a <;> cases b <;> decide +kernel
theorem sk_b3 (a b c : Bool) : PyData.strOk (PyData.list [.bool a, .bool b, .bool c]).shown = true := by
  cases a <;> cases b <;> cases c <;> decide +kernel
theorem eqOk_b2 (a b c d : Bool) : eqOk (.str (PyData.list [.bool a, .bool b]).shown) (.str (PyData.list [.bool c, .bool d]).shown) = true := eqOk_str (sk_b2 a b) (sk_b2 c d)
theorem eqOk_b3 (a b c d e f : Bool) : eqOk (.str (PyData.list [.bool a, .bool b, .bool c]).shown) (.str (PyData.list [.bool d, .bool e, .bool f]).shown) = true := eqOk_str (sk_b3 a b c) (sk_b3 d e f)
end PL
namespace PL
open PySem PySem.Spec PyProof.Rows L2
/-! the lengths of one root are an ordered field: so that `grind` reckons with them -/
structure Dt where
  d : Int
  ns : NS d
structure QL (D : Dt) where
  v : Ln
  nf : Nf v
namespace QL
variable {D : Dt}
theorem ext' {a b : QL D} (h : a.v = b.v) : a = b := by
  cases a; cases b; cases h; rfl
instance : Add (QL D) := ⟨fun a b => ⟨addL a.v b.v, nf_add a.nf b.nf⟩⟩
instance : Mul (QL D) := ⟨fun a b => ⟨mulL D.d a.v b.v, nf_mul a.nf b.nf⟩⟩
instance : Neg (QL D) := ⟨fun a => ⟨negL a.v, a.nf.neg⟩⟩
instance : Sub (QL D) := ⟨fun a b => ⟨subL a.v b.v, nf_sub a.nf b.nf⟩⟩
instance : NatCast (QL D) := ⟨fun n => ⟨whl n, nf_whl n⟩⟩
instance : IntCast (QL D) := ⟨fun n => ⟨whl n, nf_whl n⟩⟩
instance (n : Nat) : OfNat (QL D) n := ⟨⟨whl n, nf_whl n⟩⟩
instance : SMul Nat (QL D) := ⟨fun n a => ((n : Nat) : QL D) * a⟩
instance : SMul Int (QL D) := ⟨fun n a => ((n : Int) : QL D) * a⟩
def npow (a : QL D) : Nat → QL D
  | 0 => 1
  | n + 1 => npow a n * a
instance : HPow (QL D) Nat (QL D) := ⟨npow⟩
theorem v_add (a b : QL D) : (a + b).v = addL a.v b.v := rfl
theorem v_mul (a b : QL D) : (a * b).v = mulL D.d a.v b.v := rfl
theorem v_neg (a : QL D) : (-a).v = negL a.v := rfl
theorem v_sub (a b : QL D) : (a - b).v = subL a.v b.v := rfl
theorem v_0 : (0 : QL D).v = ⟨0, 0, 1⟩ := rfl
theorem v_1 : (1 : QL D).v = ⟨1, 0, 1⟩ := rfl
theorem v_nat (n : Nat) : (OfNat.ofNat n : QL D).v = ⟨(n : Int), 0, 1⟩ := rfl
theorem whl_add (i j : Int) : addL (whl i) (whl j) = whl (i + j) := by
  show nrm (i * 1 + j * 1) (0 * 1 + 0 * 1) (1 * 1) = whl (i + j)
  have := nrm_id (nf_whl (i + j))
  rw [← this]
  exact nrm_eq (by decide) (show (1 : Int) ≠ 0 by decide) (by show (i * 1 + j * 1) * 1 = (i + j) * (1 * 1); simp) (by show (0 * 1 + 0 * 1) * (1 : Int) = 0 * (1 * 1); simp)
theorem neg_mul' (a b : QL D) : -a * b = -(a * b) := by
  refine ext' ?_
  show mulL D.d (negL a.v) b.v = negL (mulL D.d a.v b.v)
  rw [mul_comm' D.d (negL a.v) b.v, mul_neg' b.nf a.nf, mul_comm']
instance : Lean.Grind.Semiring (QL D) where
  add_zero a := ext' (add_zero' a.nf)
  add_comm a b := ext' (add_comm' a.v b.v)
  add_assoc a b c := ext' (add_assoc' a.nf b.nf c.nf)
  mul_assoc a b c := ext' (mul_assoc' a.nf b.nf c.nf)
  mul_one a := ext' (mul_one' a.nf)
  one_mul a := ext' (by show mulL D.d ⟨1, 0, 1⟩ a.v = a.v; rw [mul_comm', mul_one' a.nf])
  left_distrib a b c := ext' (mul_add' a.nf b.nf c.nf)
  right_distrib a b c := ext' (by
    show mulL D.d (addL a.v b.v) c.v = addL (mulL D.d a.v c.v) (mulL D.d b.v c.v)
    rw [mul_comm', mul_add' c.nf a.nf b.nf, mul_comm' D.d c.v a.v, mul_comm' D.d c.v b.v])
  zero_mul a := ext' (by show mulL D.d ⟨0, 0, 1⟩ a.v = ⟨0, 0, 1⟩; rw [mul_comm', mul_zero' a.nf])
  mul_zero a := ext' (mul_zero' a.nf)
  pow_zero a := rfl
  pow_succ a n := rfl
  ofNat_succ n := ext' (by
    show whl ((n + 1 : Nat) : Int) = addL (whl (n : Int)) (whl ((1 : Nat) : Int))
    rw [whl_add]; rfl)
theorem neg_cancel (a : QL D) : -a + a = 0 := ext' (by
    show addL (negL a.v) a.v = ⟨0, 0, 1⟩
    rw [add_comm']
    exact sub_self' a.nf)
theorem neg_whl (i : Int) : negL (whl i) = whl (-i) := by
  unfold negL whl
  simp
instance : Lean.Grind.Ring (QL D) where
  neg_add_cancel := neg_cancel
  sub_eq_add_neg a b := rfl
  neg_zsmul i a := by
    show ((-i : Int) : QL D) * a = -(((i : Int) : QL D) * a)
    rw [← neg_mul']
    congr 1
  intCast_neg i := ext' (neg_whl i).symm
instance : Lean.Grind.CommRing (QL D) where
  mul_comm a b := ext' (mul_comm' D.d a.v b.v)
open Classical in
noncomputable def inv (a : QL D) : QL D := if h : a.v = ⟨0, 0, 1⟩ then 0 else ⟨invL D.d a.v, show Nf (invL D.d a.v) from nrm_nf (norm_ne D.ns a.nf h)⟩
noncomputable instance : Inv (QL D) := ⟨inv⟩
noncomputable instance : Div (QL D) := ⟨fun a b => a * b⁻¹⟩
theorem v_inv {a : QL D} (h : a.v ≠ ⟨0, 0, 1⟩) : (a⁻¹).v = invL D.d a.v := by
  show (inv a).v = _
  unfold inv
  rw [dif_neg h]
theorem v_div {a b : QL D} (h : b.v ≠ ⟨0, 0, 1⟩) : (a / b).v = divL D.d a.v b.v := by
  show mulL D.d a.v (b⁻¹).v = _
  rw [v_inv h]; rfl
noncomputable def zpow (a : QL D) : Int → QL D
  | .ofNat n => npow a n
  | .negSucc n => (npow a (n + 1))⁻¹
noncomputable instance : HPow (QL D) Int (QL D) := ⟨zpow⟩
theorem inv_zero' : (0 : QL D)⁻¹ = 0 := by
  show inv 0 = 0
  unfold inv
  exact dif_pos rfl
theorem ne_zero {a : QL D} : a ≠ 0 ↔ a.v ≠ ⟨0, 0, 1⟩ := ⟨fun h z => h (ext' z), fun h z => h (by rw [z]; rfl)⟩
theorem mul_inv {a : QL D} (h : a ≠ 0) : a * a⁻¹ = 1 := ext' (by
  show mulL D.d a.v (a⁻¹).v = ⟨1, 0, 1⟩
  rw [v_inv (ne_zero.mp h), mul_comm']
  exact inv_mul a.nf (norm_ne D.ns a.nf (ne_zero.mp h)))
theorem inv_one' : (1 : QL D)⁻¹ = 1 := by
  have h : (1 : QL D) ≠ 0 := fun z => by
    have := congrArg (fun x : QL D => x.v.p) z
    cases this
  have := mul_inv h
  grind
theorem inv_inv' (a : QL D) : a⁻¹⁻¹ = a := by
  by_cases h : a = 0
  · rw [h, inv_zero', inv_zero']
  · have h1 := mul_inv h
    have h2 : a⁻¹ ≠ 0 := fun z => by
      rw [z] at h1
      have : (1 : QL D).v.p = 0 := by rw [← h1, show a * 0 = 0 from ext' (mul_zero' a.nf)]; rfl
      cases this
    have h3 := mul_inv h2
    have : a * (a⁻¹ * a⁻¹⁻¹) = a := by rw [h3]; grind
    have : (a * a⁻¹) * a⁻¹⁻¹ = a := by grind
    rw [h1] at this
    grind
noncomputable instance : Lean.Grind.Field (QL D) where
  div_eq_mul_inv a b := rfl
  zero_ne_one := fun z => by
    have := congrArg (fun x : QL D => x.v.p) z
    cases this
  inv_zero := inv_zero'
  mul_inv_cancel := mul_inv
  zpow_zero a := rfl
  zpow_succ a n := rfl
  zpow_neg a n := by
    cases n with
    | ofNat n =>
      cases n with
      | zero => show npow a 0 = (npow a 0)⁻¹; show (1 : QL D) = 1⁻¹; rw [inv_one']
      | succ n => rfl
    | negSucc n => show npow a (n + 1) = ((npow a (n + 1))⁻¹)⁻¹; rw [inv_inv']
/-! order -/
instance : _root_.LE (QL D) := ⟨fun a b => 0 ≤ sgL D.d (subL b.v a.v)⟩
instance : _root_.LT (QL D) := ⟨fun a b => 0 < sgL D.d (subL b.v a.v)⟩
theorem sub_zero (a : QL D) : subL a.v ⟨0, 0, 1⟩ = a.v := by
  show addL a.v (negL ⟨0, 0, 1⟩) = a.v
  rw [show negL ⟨0, 0, 1⟩ = (⟨0, 0, 1⟩ : Ln) from rfl]
  exact add_zero' a.nf
theorem pos_iff {a : QL D} : 0 < a ↔ 0 < sgL D.d a.v := by
  show 0 < sgL D.d (subL a.v ⟨0, 0, 1⟩) ↔ _
  rw [sub_zero]
theorem nn_iff {a : QL D} : 0 ≤ a ↔ 0 ≤ sgL D.d a.v := by
  show 0 ≤ sgL D.d (subL a.v ⟨0, 0, 1⟩) ↔ _
  rw [sub_zero]
theorem le_sub {a b : QL D} : a ≤ b ↔ 0 ≤ b - a := by
  rw [nn_iff]; rfl
theorem lt_sub {a b : QL D} : a < b ↔ 0 < b - a := by
  rw [pos_iff]; rfl
theorem nn_add' {a b : QL D} (h : 0 ≤ a) (k : 0 ≤ b) : 0 ≤ a + b := by
  rw [nn_iff] at *
  unfold sgL at *
  rw [twoS_vS, sgI_ge] at *
  show 0 ≤ vS D.d (addL a.v b.v).p (addL a.v b.v).q
  have ha := a.nf.pos
  have hb := b.nf.pos
  have e := sg_nrm (d := D.d) (p := a.v.p * b.v.s + b.v.p * a.v.s) (q := a.v.q * b.v.s + b.v.q * a.v.s) (s := a.v.s * b.v.s) (Int.mul_pos ha hb)
  have k2 : 0 ≤ vS D.d (a.v.p * b.v.s + b.v.p * a.v.s) (a.v.q * b.v.s + b.v.q * a.v.s) := by
    refine nn_add D.ns.pos ?_ ?_
    · rw [Int.mul_comm a.v.p, Int.mul_comm a.v.q, vS_scale (by omega)]
      exact Int.mul_nonneg (sq_nn _) h
    · rw [Int.mul_comm b.v.p, Int.mul_comm b.v.q, vS_scale (by omega)]
      exact Int.mul_nonneg (sq_nn _) k
  exact sgI_ge.mp (by show 0 ≤ sgI (vS D.d (addL a.v b.v).p (addL a.v b.v).q); unfold addL; rw [e]; exact sgI_ge.mpr k2)
theorem sg_neg' (a : QL D) : sgL D.d (-a).v = -sgL D.d a.v := sgL_neg D.d a.v
theorem zero_of {a : QL D} (h : sgL D.d a.v = 0) : a = 0 := ext' ((twoS_zero D.ns a.nf).mp ((sgI_zero _).mp h))
instance : Std.IsLinearOrder (QL D) where
  le_refl a := by
    rw [le_sub, nn_iff, v_sub, sub_self' a.nf]
    simp [sgL, twoS, sgI]
  le_trans a b c h k := by
    rw [le_sub] at h k ⊢
    have := nn_add' h k
    rwa [show b - a + (c - b) = c - a by grind] at this
  le_antisymm a b h k := by
    rw [le_sub, nn_iff] at *
    have e := sg_neg' (b - a)
    rw [show -(b - a) = a - b by grind] at e
    have := zero_of (a := b - a) (by omega)
    grind
  le_total a b := by
    rw [le_sub (a := a) (b := b), le_sub (a := b) (b := a), nn_iff, nn_iff]
    have e := sg_neg' (b - a)
    rw [show -(b - a) = a - b by grind] at e
    omega
instance : Std.LawfulOrderLT (QL D) where
  lt_iff a b := by
    rw [le_sub (a := a) (b := b), lt_sub (a := a) (b := b), le_sub (a := b) (b := a), nn_iff, nn_iff, pos_iff]
    have e := sg_neg' (b - a)
    rw [show -(b - a) = a - b by grind] at e
    omega
theorem mul_pos' {a b : QL D} (h : 0 < a) (k : 0 < b) : 0 < a * b := by
  rw [pos_iff] at *
  exact sgL_mul D.ns a.nf b.nf h k
instance : Lean.Grind.OrderedRing (QL D) where
  add_le_left_iff {a b} c := by
    rw [le_sub (a := a) (b := b), le_sub (a := a + c) (b := b + c), show b + c - (a + c) = b - a by grind]
  zero_lt_one := by
    rw [pos_iff, v_1, sgL_gt]
    exact vS_pos_pp D.ns.pos (by decide) (by decide) (by decide)
  mul_lt_mul_of_pos_left {a b c} h k := by
    rw [lt_sub] at h ⊢
    have := mul_pos' k h
    rwa [show c * (b - a) = c * b - c * a by grind] at this
  mul_lt_mul_of_pos_right {a b c} h k := by
    rw [lt_sub] at h ⊢
    have := mul_pos' h k
    rwa [show (b - a) * c = b * c - a * c by grind] at this
theorem inv_pos' {a : QL D} (h : 0 < a) : 0 < a⁻¹ := by
  rw [pos_iff] at *
  rw [v_inv (fun z => by rw [z] at h; simp [sgL, twoS, sgI] at h)]
  exact sgL_inv D.ns a.nf h
theorem sq_pos' {a : QL D} (h : a ≠ 0) : 0 < a * a := by
  by_cases c : 0 < a
  · exact mul_pos' c c
  · have : 0 < -a := by grind
    have := mul_pos' this this
    grind
end QL
end PL
namespace PL
open PySem PySem.Spec PyProof.Rows L2
/-! twins and the root in the field of lengths -/
namespace QL
variable {D : Dt}
def cj (a : QL D) : QL D := ⟨twinL a.v, a.nf.twin⟩
def w : QL D := ⟨⟨0, 1, 1⟩, by constructor <;> decide⟩
theorem v_cj (a : QL D) : (cj a).v = twinL a.v := rfl
theorem v_int (i : Int) : ((i : Int) : QL D).v = ⟨i, 0, 1⟩ := rfl
theorem cj_cj (a : QL D) : cj (cj a) = a := ext' (by simp [cj, twinL])
theorem cj_add (a b : QL D) : cj (a + b) = cj a + cj b := ext' (twin_add a.nf b.nf)
theorem cj_mul (a b : QL D) : cj (a * b) = cj a * cj b := ext' (twin_mul a.nf b.nf)
theorem cj_neg (a : QL D) : cj (-a) = -cj a := ext' (by simp [cj, v_neg, twinL, negL])
theorem cj_sub (a b : QL D) : cj (a - b) = cj a - cj b := by
  rw [show a - b = a + -b by grind, cj_add, cj_neg]; grind
theorem cj_int (i : Int) : cj ((i : Int) : QL D) = (i : QL D) := ext' (by simp [cj, v_int, twinL])
theorem cj_one : cj (1 : QL D) = 1 := cj_int 1
theorem cj_w : cj (w : QL D) = -w := ext' (by simp [cj, w, v_neg, twinL, negL])
theorem cj_zero {a : QL D} : cj a = 0 ↔ a = 0 := by
  constructor
  · intro h
    have := cj_cj a
    rw [h] at this
    rw [← this]
    exact cj_int 0
  · rintro rfl
    exact cj_int 0
theorem cj_inv (a : QL D) : cj a⁻¹ = (cj a)⁻¹ := by
  by_cases h : a = 0
  · subst h
    rw [inv_zero', cj_zero.mpr rfl, inv_zero']
  · have h1 := mul_inv h
    have h2 : cj a ≠ 0 := fun z => h (cj_zero.mp z)
    have h3 := mul_inv h2
    have h4 : cj a * cj a⁻¹ = 1 := by rw [← cj_mul, h1, cj_one]
    have : cj a * (cj a⁻¹ - (cj a)⁻¹) = 0 := by grind
    grind
theorem cj_div (a b : QL D) : cj (a / b) = cj a / cj b := by
  rw [Lean.Grind.Field.div_eq_mul_inv, cj_mul, cj_inv, ← Lean.Grind.Field.div_eq_mul_inv]
theorem int_inj {i j : Int} : ((i : Int) : QL D) = (j : QL D) ↔ i = j := by
  constructor
  · intro h
    exact congrArg (fun x : QL D => x.v.p) h
  · intro h; rw [h]
theorem int_add (i j : Int) : ((i + j : Int) : QL D) = (i : QL D) + (j : QL D) := ext' (whl_add i j).symm
theorem int_neg (i : Int) : ((-i : Int) : QL D) = -(i : QL D) := ext' (neg_whl i).symm
theorem int_sub (i j : Int) : ((i - j : Int) : QL D) = (i : QL D) - (j : QL D) := by
  rw [show i - j = i + -j by omega, int_add, int_neg]; grind
theorem int_mul (i j : Int) : ((i * j : Int) : QL D) = (i : QL D) * (j : QL D) := ext' (by
  show whl (i * j) = nrm (i * j + D.d * 0 * 0) (i * 0 + 0 * j) (1 * 1)
  rw [← nrm_id (nf_whl (i * j))]
  exact nrm_eq (show (1 : Int) ≠ 0 by decide) (by decide) (by show i * j * (1 * 1) = (i * j + D.d * 0 * 0) * 1; simp) (by show (0 : Int) * (1 * 1) = (i * 0 + 0 * j) * 1; simp))
theorem int_0 : ((0 : Int) : QL D) = 0 := rfl
theorem int_1 : ((1 : Int) : QL D) = 1 := rfl
theorem int_2 : ((2 : Int) : QL D) = 2 := rfl
theorem int_ne {i : Int} (h : i ≠ 0) : ((i : Int) : QL D) ≠ 0 := fun z => h (int_inj.mp z)
theorem int_pos {i : Int} (h : 0 < i) : (0 : QL D) < ((i : Int) : QL D) := by
  rw [pos_iff, v_int]
  unfold sgL
  rw [twoS_vS, sgI_gt]
  exact vS_pos_pp D.ns.pos (by show (0 : Int) ≤ i; omega) (Int.le_refl 0) (by simp; omega)
theorem int_le {i j : Int} : ((i : Int) : QL D) ≤ (j : QL D) ↔ i ≤ j := by
  constructor
  · intro h
    refine Int.not_lt.mp fun c => ?_
    have := int_pos (D := D) (i := i - j) (by omega)
    rw [int_sub] at this
    grind
  · intro h
    by_cases c : i = j
    · rw [c]; grind
    · have := int_pos (D := D) (i := j - i) (by omega)
      rw [int_sub] at this
      grind
theorem int_lt {i j : Int} : ((i : Int) : QL D) < (j : QL D) ↔ i < j := by
  have := int_le (D := D) (i := j) (j := i)
  constructor
  · intro h
    have : ¬ ((j : Int) : QL D) ≤ (i : QL D) := by grind
    rw [int_le] at this; omega
  · intro h
    have : ¬ ((j : Int) : QL D) ≤ (i : QL D) := by rw [int_le]; omega
    grind
theorem w_sq : (w : QL D) * w = (D.d : QL D) := ext' (by
  show nrm (0 * 0 + D.d * 1 * 1) (0 * 1 + 1 * 0) (1 * 1) = whl D.d
  rw [← nrm_id (nf_whl D.d)]
  exact nrm_eq (by decide) (show (1 : Int) ≠ 0 by decide) (by show (0 * 0 + D.d * 1 * 1) * 1 = D.d * (1 * 1); simp) (by show ((0 : Int) * 1 + 1 * 0) * 1 = 0 * (1 * 1); simp))
theorem w_ne : (w : QL D) ≠ 0 := fun z => by
  have : (w : QL D).v.q = 0 := by rw [z]; rfl
  exact absurd this (by show ¬ (1 : Int) = 0; decide)
/-- the number that is told by any three numbers -/
theorem nrm_val {p q s : Int} (h : s ≠ 0) (x : QL D) (e : x.v = nrm p q s) : x * (s : QL D) = (p : QL D) + (q : QL D) * w := ext' (by
  show mulL D.d x.v (whl s) = addL (whl p) (mulL D.d (whl q) ⟨0, 1, 1⟩)
  rw [e]
  have n0 := nrm_nf (p := p) (q := q) h
  have ns := n0.pos
  obtain ⟨e1, e2⟩ := nrm_cross (p := p) (q := q) h
  unfold mulL addL whl
  have ha : nrm (q * 0 + D.d * 0 * 1) (q * 1 + 0 * 0) (1 * 1) = ⟨0, q, 1⟩ := by
    have nfq : Nf ⟨0, q, 1⟩ := ⟨Int.one_pos, by simp [g3]⟩
    rw [← nrm_id nfq]
    exact nrm_eq (by decide) (show (1 : Int) ≠ 0 by decide) (by simp) (by simp)
  rw [ha]
  refine nrm_eq (by simp; omega) (by show (1 : Int) * 1 ≠ 0; decide) ?_ ?_
  · simp; grind
  · simp; grind)
theorem val (a : QL D) : a * (a.v.s : QL D) = (a.v.p : QL D) + (a.v.q : QL D) * w := nrm_val (by have := a.nf.pos; omega) a (nrm_id a.nf).symm
theorem sNe (a : QL D) : ((a.v.s : Int) : QL D) ≠ 0 := int_ne (by have := a.nf.pos; omega)
theorem val_cj (a : QL D) : cj a * (a.v.s : QL D) = (a.v.p : QL D) - (a.v.q : QL D) * w := by
  have := congrArg cj (val a)
  rw [cj_mul, cj_add, cj_mul, cj_int, cj_int, cj_int, cj_w] at this
  grind
theorem mul_ne {a b : QL D} (h : a ≠ 0) (k : b ≠ 0) : a * b ≠ 0 := by
  have h1 := mul_inv h
  have h2 := mul_inv k
  have z1 : (0 : QL D) ≠ 1 := Lean.Grind.Field.zero_ne_one
  intro z
  have : (a * a⁻¹) * (b * b⁻¹) = a * b * (a⁻¹ * b⁻¹) := by grind
  rw [h1, h2, z] at this
  grind
theorem div_one (a : QL D) : a / 1 = a := by
  have := inv_one' (D := D)
  rw [Lean.Grind.Field.div_eq_mul_inv, this]; grind
theorem fld_one (r : QL D) : (1 : QL D) * r + 0 / r = r := by rw [Lean.Grind.Field.div_eq_mul_inv]; grind
end QL
end PL
namespace PL
open PySem PySem.Spec PyProof.Rows L2
/-! values of other kinds: `repr` tells them, and the texts may be compared -/
/-- a good text of at most so many signs -/
def GTx (n : Nat) (s : Str) : Prop := PyData.strOk s = true ∧ s.length ≤ n
theorem GTx.app {n m : Nat} {a b : Str} (h : GTx n a) (k : GTx m b) : GTx (n + m) (a ++ b) := by
  refine ⟨?_, by rw [Str.length_append]; exact Nat.add_le_add h.2 k.2⟩
  have h1 := h.1
  have k1 := k.1
  unfold PyData.strOk at *
  rw [Str.cps_append, Array.all_append, h1, k1]; rfl
theorem GTx.mono {n m : Nat} {a : Str} (h : GTx n a) (e : n ≤ m) : GTx m a := ⟨h.1, Nat.le_trans h.2 e⟩
theorem gt_join {n : Nat} : ∀ (k : Nat) (ts : List Str), ts.length ≤ k → (∀ t ∈ ts, GTx n t) → GTx (k * (n + 2)) (Str.join ", " ts)
  | _, [], _, _ => ⟨by decide +kernel, Nat.zero_le _⟩
  | 0, _ :: _, h, _ => by simp at h
  | k + 1, [t], _, h => by
    have e : Str.join ", " [t] = t := rfl
    rw [e]
    refine (h t List.mem_cons_self).mono ?_
    have : (k + 1) * (n + 2) = k * (n + 2) + (n + 2) := Nat.succ_mul _ _
    omega
  | k + 1, t :: u :: r, hl, h => by
    have e : Str.join ", " (t :: u :: r) = t ++ (", " : Str) ++ Str.join ", " (u :: r) := rfl
    rw [e]
    have c : GTx 2 (", " : Str) := ⟨by decide +kernel, by decide +kernel⟩
    have := ((h t List.mem_cons_self).app c).app (gt_join k (u :: r) (by simpa using hl) fun x hx => h x (List.mem_cons_of_mem _ hx))
    refine this.mono ?_
    have : (k + 1) * (n + 2) = k * (n + 2) + (n + 2) := Nat.succ_mul _ _
    omega
theorem gt_int {i : Int} (h : i.natAbs.log2 < 200) : GTx 201 ((toString i : String) : Str) := by
  refine ⟨?_, ?_⟩
  · unfold PyData.strOk
    rw [Array.all_eq_true_iff_forall_mem]
    intro c hc
    have : c ∈ (toString i).toList.map Char.toNat := by
      have e : (Str.ofString (toString i)).cps = ((toString i).toList.map Char.toNat).toArray := by rw [Str.ofString_eq_toList]
      have hc : c ∈ (Str.ofString (toString i)).cps := hc
      rw [e] at hc
      simpa using hc
    obtain ⟨ch, h1, h2⟩ := List.mem_map.mp this
    have := int_ascii i ch h1
    subst h2
    exact decide_eq_true (by omega)
  · have := int_text_length_le (a := i) (k := 200) (by decide) h
    show (Str.ofString (toString i)).length ≤ 201
    rw [PySem.ofString_length]
    omega
/-- plain values, lists and tuples of at most four of them, to a depth -/
inductive Wv : Nat → D → Prop where
  | none {n} : Wv n .none
  | bool {n} (b : Bool) : Wv n (.bool b)
  | int {n} (i : Int) (h : i.natAbs.log2 < 200) : Wv n (.int i)
  | str {n} (s : Str) (h : GTx 3 s) (k : GTx 5 (reprText s)) : Wv n (.str s)
  | list {n} (ds : List D) (hl : ds.length ≤ 4) (h : ∀ d ∈ ds, Wv n d) : Wv (n + 1) (.list ds)
  | tuple {n} (ds : List D) (hl : ds.length ≤ 4) (h : ∀ d ∈ ds, Wv n d) : Wv (n + 1) (.tuple ds)
theorem canLayAll_of : ∀ {ds : List D}, (∀ d ∈ ds, d.canLay0 = true) → PyData.canLayAll0 ds = true
  | [], _ => by simp [PyData.canLayAll0]
  | x :: xs, h => by
    simp only [PyData.canLayAll0, Bool.and_eq_true]
    exact ⟨h x List.mem_cons_self, canLayAll_of fun y hy => h y (List.mem_cons_of_mem _ hy)⟩
theorem depthAll_of {n : Nat} : ∀ {ds : List D}, (∀ d ∈ ds, d.depth ≤ n) → PyData.depthAll ds ≤ n
  | [], _ => by simp [PyData.depthAll]
  | x :: xs, h => by
    have h1 := h x List.mem_cons_self
    have h2 := depthAll_of (n := n) (ds := xs) fun y hy => h y (List.mem_cons_of_mem _ hy)
    simp only [PyData.depthAll]
    omega
theorem shownAll_mem : ∀ {ds : List D} {t : Str}, t ∈ PyData.shownAll ds → ∃ d ∈ ds, t = d.shown
  | [], t, h => by simp [PyData.shownAll] at h
  | x :: xs, t, h => by
    simp only [PyData.shownAll, List.mem_cons] at h
    rcases h with h | h
    · exact ⟨x, List.mem_cons_self, h⟩
    · obtain ⟨d, h1, h2⟩ := shownAll_mem h
      exact ⟨d, List.mem_cons_of_mem _ h1, h2⟩
theorem Wv.facts : ∀ {n : Nat} {d : D}, Wv n d → d.canLay0 = true ∧ d.showable = true ∧ d.depth ≤ n ∧ GTx (201 * 6 ^ n) d.shown := by
  intro n
  induction n with
  | zero =>
    intro d h
    cases h with
    | none => exact ⟨rfl, by simp [PyData.showable], by simp [PyData.depth], by rw [PyData.shown_none]; exact ⟨by decide +kernel, by decide +kernel⟩⟩
    | bool b => exact ⟨rfl, by simp [PyData.showable], by simp [PyData.depth], by rw [PyData.shown_bool]; cases b <;> exact ⟨by decide +kernel, by decide +kernel⟩⟩
    | int i h => exact ⟨rfl, by simp [PyData.showable]; omega, by simp [PyData.depth], by rw [PyData.shown_int]; exact (gt_int h).mono (by decide)⟩
    | str s h k => exact ⟨by simpa [PyData.canLay0] using h.1, by simp [PyData.showable], by simp [PyData.depth], by rw [PyData.shown_str]; exact k.mono (by decide)⟩
  | succ n ih =>
    intro d h
    have pw : 6 ^ (n + 1) = 6 ^ n * 6 := Nat.pow_succ 6 n
    have pp : 1 ≤ 6 ^ n := Nat.pow_pos (by decide)
    cases h with
    | none => exact ⟨rfl, by simp [PyData.showable], by simp [PyData.depth], by rw [PyData.shown_none]; exact GTx.mono (n := 4) ⟨by decide +kernel, by decide +kernel⟩ (by omega)⟩
    | bool b => exact ⟨rfl, by simp [PyData.showable], by simp [PyData.depth], by rw [PyData.shown_bool]; cases b <;> exact GTx.mono (n := 5) ⟨by decide +kernel, by decide +kernel⟩ (by omega)⟩
    | int i h => exact ⟨rfl, by simp [PyData.showable]; omega, by simp [PyData.depth], by rw [PyData.shown_int]; exact (gt_int h).mono (by omega)⟩
    | str s h k => exact ⟨by simpa [PyData.canLay0] using h.1, by simp [PyData.showable], by simp [PyData.depth], by rw [PyData.shown_str]; exact k.mono (by omega)⟩
    | list ds hl h =>
      have hj := gt_join (n := 201 * 6 ^ n) 4 (PyData.shownAll ds) (by rw [PyData.shownAll_length]; exact hl) (fun t ht => by
        obtain ⟨d, h1, rfl⟩ := shownAll_mem ht
        exact (ih (h d h1)).2.2.2)
      refine ⟨by simpa [PyData.canLay0] using canLayAll_of fun d hd => (ih (h d hd)).1, ?_, ?_, ?_⟩
      · simp only [PyData.showable]
        exact showableAll_of fun d hd => (ih (h d hd)).2.1
      · have := depthAll_of (n := n) fun d hd => (ih (h d hd)).2.2.1
        simp only [PyData.depth]
        omega
      · rw [PyData.shown_list]
        have a : GTx 1 ("[" : Str) := ⟨by decide +kernel, by decide +kernel⟩
        have b : GTx 1 ("]" : Str) := ⟨by decide +kernel, by decide +kernel⟩
        exact ((a.app hj).app b).mono (by omega)
    | tuple ds hl h =>
      have hj := gt_join (n := 201 * 6 ^ n) 4 (PyData.shownAll ds) (by rw [PyData.shownAll_length]; exact hl) (fun t ht => by
        obtain ⟨d, h1, rfl⟩ := shownAll_mem ht
        exact (ih (h d h1)).2.2.2)
      refine ⟨by simpa [PyData.canLay0] using canLayAll_of fun d hd => (ih (h d hd)).1, ?_, ?_, ?_⟩
      · simp only [PyData.showable]
        exact showableAll_of fun d hd => (ih (h d hd)).2.1
      · have := depthAll_of (n := n) fun d hd => (ih (h d hd)).2.2.1
        simp only [PyData.depth]
        omega
      · rw [PyData.shown_tuple]
        have a : GTx 1 ("(" : Str) := ⟨by decide +kernel, by decide +kernel⟩
        have b : GTx 2 ((if ds.length == 1 then ",)" else ")" : String) : Str) := by split <;> exact ⟨by decide +kernel, by decide +kernel⟩
        exact ((a.app hj).app b).mono (by omega)
theorem Wv.rp {d : D} (h : Wv 4 d) : rpOk d = true := by
  obtain ⟨a, b, c, e⟩ := h.facts
  have := e.2
  unfold rpOk
  rw [a, b, decide_eq_true (show d.depth ≤ 60 by omega), decide_eq_true (show d.shown.length ≤ sizeLine by rw [sizeLine_eq]; omega)]
  rfl
theorem Wv.sk {d e : D} (h : Wv 4 d) (k : Wv 4 e) : eqOk (.str d.shown) (.str e.shown) = true := eqOk_str h.facts.2.2.2.1 k.facts.2.2.2.1
end PL
namespace PL
open PySem PySem.Spec PyProof.Rows L2
/-! ### new lists and their changes, in a walk -/
section
variable {Γ : List Sem1} {G : List D} {st : Sto} {o : Option Out} {r : Sms} {i : Nat} {d : D}
theorem exs_mark (h : exs Γ G r (markA st) = o) : exs Γ G (.mark r) st = o := h
theorem ex_setN {n : NwE} (h : evN Γ G n st = some d) : ex Γ G (.setN i n) st = some (.next (put st i (.new d))) := by
  show (evN Γ G n st).map _ = _
  rw [h]; rfl
theorem exs_muts {ms : List Mt} (hd : get st i = .new d) (hok : (ms.all (mtOk Γ G st d) && decide (ms.length ≤ 100) && !(mtJ ms).contains i) = true) (h : exs Γ G r (wipeF (drpA st) (mtJ ms)) = o) : exs Γ G (.muts i ms r) st = o := by
  show (match get st i with | .new d => if ms.all (mtOk Γ G st d) && decide (ms.length ≤ 100) && !(mtJ ms).contains i then exs Γ G r (wipeF (drpA st) (mtJ ms)) else none | _ => none) = o
  rw [hd]
  show (if _ then _ else _) = o
  rw [if_pos hok]
  exact h
theorem evN_fx {f : Fx} {ds : List D} (h : evF Γ G f st = some ds) (n : noLs ds = true) (l : ds.length ≤ 1000000) : evN Γ G (.fx f) st = some (.list ds) := by
  simp only [evN, h, Option.bind_some, n, l, decide_true, Bool.and_self, if_true]
theorem evN_lst {ns : NwEs} {ds : List D} (h : evNs Γ G ns st = some ds) (n : noLs ds = false) (l : ds.length ≤ 1000) : evN Γ G (.lst ns) st = some (.list ds) := by
  simp only [evN, h, Option.bind_some, n, l, decide_true, Bool.not_false, Bool.and_self, if_true]
theorem evNs_cons {n : NwE} {ns : NwEs} {ds : List D} (h : evN Γ G n st = some d) (k : evNs Γ G ns st = some ds) : evNs Γ G (.cons n ns) st = some (d :: ds) := by
  simp only [evNs, h, k, Option.bind_some, Option.map_some]
theorem evN_call {j : Nat} {es : Exs} {as : List D} {f : Sem1} (h1 : evs Γ G es st = some as) (h2 : Γ[j]? = some f) (h3 : f as = some d) (h4 : lf1 d = true) (h5 : apart as d = true) : evN Γ G (.call j es) st = some d := by
  simp only [evN, h1, h2, h3, h4, h5, Option.bind_some, Bool.and_self, if_true]
end
end PL
namespace PL
open PySem PySem.Spec PyProof.Rows L2
def b__law_draws_1 : Sms := (.cons (.ite (.o2 .gt (.var 5) (.lit (.int 0))) (.cons (.app 2 (.o2 .mod (.var 5) (.lit (.int 1000003)))) (.cons (.set 5 (.o2 .fdiv (.var 5) (.lit (.int 1000003)))) .nil)) .nil) .nil)
def b__law_draws_2 : Sms := (.cons (.set 6 (.o2 .mod (.o2 .add (.o2 .add (.o2 .add (.o2 .mul (.var 6) (.lit (.int 69621))) (.o2 .fdiv (.var 6) (.lit (.int 65536)))) (.o2 .mul (.lit (.int 13)) (.var 4))) (.lit (.int 5))) (.lit (.int 2147483629)))) (.cons (.app 2 (.o2 .mod (.o2 .fdiv (.var 6) (.lit (.int 8))) (.lit (.int 1000003)))) .nil))
def b__law_draws_3 : Sms := (.cons (.set 5 (.o1 .abs (.o1 .int (.var 3)))) (.cons (.ite (.o2 .ge (.var 5) (.o2 .pow (.lit (.int 10)) (.lit (.int 18)))) (.cons (.forr (.name 4) (.rng1 (.lit (.int 60))) b__law_draws_1) .nil) (.cons (.set 6 (.o2 .mod (.o2 .add (.o2 .add (.o2 .mul (.var 5) (.lit (.int 48271))) (.o2 .mul (.lit (.int 7)) (.scal (.o1 .len (.var 2))))) (.lit (.int 11))) (.lit (.int 2147483647)))) (.cons (.forr (.name 4) (.rng1 (.lit (.int 4))) b__law_draws_2) .nil))) .nil))
def b__law_draws_4 : Sms := (.cons (.ite (.o2 .lt (.scal (.o1 .len (.var 2))) (.var 1)) (.cons (.set 7 (.lit (.int 0))) (.cons (.ite (.o2 .gt (.scal (.o1 .len (.var 2))) (.lit (.int 0))) (.cons (.set 7 (.ixv 2 (.o2 .mod (.var 4) (.scal (.o1 .len (.var 2)))))) .nil) .nil) (.cons (.app 2 (.o2 .mod (.o2 .add (.o2 .add (.o2 .mul (.var 7) (.lit (.int 16807))) (.o2 .mul (.lit (.int 31)) (.scal (.o1 .len (.var 2))))) (.lit (.int 17))) (.lit (.int 1000003)))) .nil))) .nil) .nil)
def b__law_draws : Sms := (.cons (.setF 2 (.lst .nil)) (.cons (.forr (.name 3) (.seq (.fr (.sl (.var 0) .no (.yes (.lit (.int 63)))))) b__law_draws_3) (.cons (.forr (.name 4) (.rng1 (.var 1)) b__law_draws_4) (.cons (.ret (.fr (.slv 2 .no (.yes (.var 1))))) .nil))))
def s__law_draws : Sem1 := run [] [] 2 8 b__law_draws
def b__law_root : Sms := (.cons (.ret (.ix (.fr (.lst (.cons (.lit (.int 2)) (.cons (.lit (.int 3)) (.cons (.lit (.int 5)) (.cons (.lit (.int 6)) (.cons (.lit (.int 7)) (.cons (.lit (.int 10)) (.cons (.lit (.int 13)) (.cons (.lit (.int 50)) .nil)))))))))) (.o2 .mod (.var 0) (.lit (.int 8))))) .nil)
def s__law_root : Sem1 := run [] [] 1 1 b__law_root
def b__law_gcd_1 : Sms := (.cons (.par2 0 1 (.var 1) (.o2 .mod (.var 0) (.var 1))) .nil)
def b__law_gcd : Sms := (.cons (.par2 0 1 (.o1 .abs (.var 0)) (.o1 .abs (.var 1))) (.cons (.whl (.o2 .gt (.var 1) (.lit (.int 0))) b__law_gcd_1) (.cons (.ret (.var 0)) .nil)))
def s__law_gcd : Sem1 := run [] [] 2 2 b__law_gcd
def b__law_norm : Sms := (.cons (.ite (.o2 .lt (.var 2) (.lit (.int 0))) (.cons (.par3 0 1 2 (.o1 .neg (.var 0)) (.o1 .neg (.var 1)) (.o1 .neg (.var 2))) .nil) .nil) (.cons (.set 3 (.call 0 (.cons (.call 0 (.cons (.o1 .abs (.var 0)) (.cons (.o1 .abs (.var 1)) .nil))) (.cons (.var 2) .nil)))) (.cons (.ret (.tup (.cons (.o2 .fdiv (.var 0) (.var 3)) (.cons (.o2 .fdiv (.var 1) (.var 3)) (.cons (.o2 .fdiv (.var 2) (.var 3)) .nil))))) .nil)))
def s__law_norm : Sem1 := run [s__law_gcd] [] 3 4 b__law_norm
def b__law_number : Sms := (.cons (.ret (.call 0 (.cons (.o2 .sub (.o2 .mod (.ix (.var 0) (.lit (.int 0))) (.lit (.int 13))) (.lit (.int 6))) (.cons (.o2 .mul (.o2 .sub (.o2 .mod (.ix (.var 0) (.lit (.int 1))) (.lit (.int 7))) (.lit (.int 3))) (.o1 .int (.o2 .gt (.o2 .mod (.ix (.var 0) (.lit (.int 0))) (.lit (.int 3))) (.lit (.int 0))))) (.cons (.o2 .add (.lit (.int 1)) (.o2 .mod (.ix (.var 0) (.lit (.int 2))) (.lit (.int 4)))) .nil))))) .nil)
def s__law_number : Sem1 := run [s__law_norm] [] 1 1 b__law_number
def b__law_sign : Sms := (.cons (.par2 2 3 (.ix (.var 1) (.lit (.int 0))) (.ix (.var 1) (.lit (.int 1)))) (.cons (.par2 4 5 (.o2 .sub (.o1 .int (.o2 .gt (.var 2) (.lit (.int 0)))) (.o1 .int (.o2 .lt (.var 2) (.lit (.int 0))))) (.o2 .sub (.o1 .int (.o2 .gt (.var 3) (.lit (.int 0)))) (.o1 .int (.o2 .lt (.var 3) (.lit (.int 0)))))) (.cons (.ite (.o2 .ge (.o2 .mul (.var 4) (.var 5)) (.lit (.int 0))) (.cons (.ret (.o2 .sub (.o1 .int (.o2 .gt (.o2 .add (.var 4) (.var 5)) (.lit (.int 0)))) (.o1 .int (.o2 .lt (.o2 .add (.var 4) (.var 5)) (.lit (.int 0)))))) .nil) .nil) (.cons (.ret (.ix (.fr (.lst (.cons (.var 5) (.cons (.var 4) .nil)))) (.o1 .int (.o2 .gt (.o2 .mul (.var 2) (.var 2)) (.o2 .mul (.o2 .mul (.var 0) (.var 3)) (.var 3)))))) .nil))))
def s__law_sign : Sem1 := run [] [] 2 6 b__law_sign
def b__law_above : Sms := (.cons (.set 2 (.call 0 (.cons (.var 1) .nil))) (.cons (.ite (.o2 .eq (.call 1 (.cons (.var 0) (.cons (.var 2) .nil))) (.lit (.int 0))) (.cons (.ret (.tup (.cons (.lit (.int 1)) (.cons (.lit (.int 0)) (.cons (.o2 .add (.lit (.int 1)) (.o2 .mod (.ix (.var 1) (.lit (.int 2))) (.lit (.int 3)))) .nil))))) .nil) .nil) (.cons (.ite (.o2 .lt (.call 1 (.cons (.var 0) (.cons (.var 2) .nil))) (.lit (.int 0))) (.cons (.ret (.tup (.cons (.o1 .neg (.ix (.var 2) (.lit (.int 0)))) (.cons (.o1 .neg (.ix (.var 2) (.lit (.int 1)))) (.cons (.ix (.var 2) (.lit (.int 2))) .nil))))) .nil) .nil) (.cons (.ret (.var 2)) .nil))))
def s__law_above : Sem1 := run [s__law_number, s__law_sign] [] 2 3 b__law_above
def b__law_sheet : Sms := (.cons (.ret (.tup (.cons (.call 0 (.cons (.var 0) (.cons (.fr (.sl (.var 1) (.yes (.lit (.int 0))) (.yes (.lit (.int 3))))) .nil))) (.cons (.call 0 (.cons (.var 0) (.cons (.fr (.sl (.var 1) (.yes (.lit (.int 3))) (.yes (.lit (.int 6))))) .nil))) .nil)))) .nil)
def s__law_sheet : Sem1 := run [s__law_above] [] 2 2 b__law_sheet
def b__law_times : Sms := (.cons (.set 3 (.o2 .add (.o2 .mul (.ix (.var 1) (.lit (.int 0))) (.ix (.var 2) (.lit (.int 0)))) (.o2 .mul (.o2 .mul (.var 0) (.ix (.var 1) (.lit (.int 1)))) (.ix (.var 2) (.lit (.int 1)))))) (.cons (.ret (.call 0 (.cons (.var 3) (.cons (.o2 .add (.o2 .mul (.ix (.var 1) (.lit (.int 0))) (.ix (.var 2) (.lit (.int 1)))) (.o2 .mul (.ix (.var 1) (.lit (.int 1))) (.ix (.var 2) (.lit (.int 0))))) (.cons (.o2 .mul (.ix (.var 1) (.lit (.int 2))) (.ix (.var 2) (.lit (.int 2)))) .nil))))) .nil))
def s__law_times : Sem1 := run [s__law_norm] [] 3 4 b__law_times
def b__law_by : Sms := (.cons (.set 3 (.o2 .sub (.o2 .mul (.ix (.var 2) (.lit (.int 0))) (.ix (.var 2) (.lit (.int 0)))) (.o2 .mul (.o2 .mul (.var 0) (.ix (.var 2) (.lit (.int 1)))) (.ix (.var 2) (.lit (.int 1)))))) (.cons (.ret (.call 0 (.cons (.var 0) (.cons (.var 1) (.cons (.call 1 (.cons (.o2 .mul (.ix (.var 2) (.lit (.int 0))) (.ix (.var 2) (.lit (.int 2)))) (.cons (.o2 .mul (.o1 .neg (.ix (.var 2) (.lit (.int 1)))) (.ix (.var 2) (.lit (.int 2)))) (.cons (.var 3) .nil)))) .nil))))) .nil))
def s__law_by : Sem1 := run [s__law_times, s__law_norm] [] 3 4 b__law_by
def b__law_add : Sms := (.cons (.ret (.call 0 (.cons (.o2 .add (.o2 .mul (.ix (.var 0) (.lit (.int 0))) (.ix (.var 1) (.lit (.int 2)))) (.o2 .mul (.ix (.var 1) (.lit (.int 0))) (.ix (.var 0) (.lit (.int 2))))) (.cons (.o2 .add (.o2 .mul (.ix (.var 0) (.lit (.int 1))) (.ix (.var 1) (.lit (.int 2)))) (.o2 .mul (.ix (.var 1) (.lit (.int 1))) (.ix (.var 0) (.lit (.int 2))))) (.cons (.o2 .mul (.ix (.var 0) (.lit (.int 2))) (.ix (.var 1) (.lit (.int 2)))) .nil))))) .nil)
def s__law_add : Sem1 := run [s__law_norm] [] 2 2 b__law_add
def b__law_minus : Sms := (.cons (.ret (.call 0 (.cons (.var 0) (.cons (.tup (.cons (.o1 .neg (.ix (.var 1) (.lit (.int 0)))) (.cons (.o1 .neg (.ix (.var 1) (.lit (.int 1)))) (.cons (.ix (.var 1) (.lit (.int 2))) .nil)))) .nil)))) .nil)
def s__law_minus : Sem1 := run [s__law_add] [] 2 2 b__law_minus
def b__law_halved : Sms := (.cons (.set 3 (.ix (.fr (.lst (.cons (.tup (.cons (.lit (.int 1)) (.cons (.lit (.int 0)) (.cons (.lit (.int 2)) .nil)))) (.cons (.tup (.cons (.lit (.int 1)) (.cons (.lit (.int 0)) (.cons (.lit (.int 3)) .nil)))) (.cons (.tup (.cons (.lit (.int 2)) (.cons (.lit (.int 0)) (.cons (.lit (.int 3)) .nil)))) (.cons (.tup (.cons (.lit (.int 3)) (.cons (.lit (.int 0)) (.cons (.lit (.int 4)) .nil)))) (.cons (.call 0 (.cons (.var 0) (.cons (.tup (.cons (.lit (.int 0)) (.cons (.lit (.int 1)) (.cons (.lit (.int 1)) .nil)))) (.cons (.tup (.cons (.var 0) (.cons (.lit (.int 0)) (.cons (.lit (.int 1)) .nil)))) .nil)))) (.cons (.tup (.cons (.lit (.int 2)) (.cons (.lit (.int 0)) (.cons (.lit (.int 5)) .nil)))) .nil)))))))) (.o2 .mod (.ix (.var 2) (.lit (.int 0))) (.lit (.int 6))))) (.cons (.unp [5, 6, 7, 8] (.var 1)) (.cons (.ite (.o2 .eq (.o2 .mod (.ix (.var 2) (.lit (.int 1))) (.lit (.int 2))) (.lit (.int 0))) (.cons (.set 4 (.call 1 (.cons (.var 0) (.cons (.var 7) (.cons (.var 3) .nil))))) (.cons (.ret (.fr (.lst (.cons (.tup (.cons (.var 5) (.cons (.var 6) (.cons (.var 4) (.cons (.var 8) .nil))))) (.cons (.tup (.cons (.call 3 (.cons (.var 5) (.cons (.var 4) .nil))) (.cons (.var 6) (.cons (.call 2 (.cons (.var 7) (.cons (.var 4) .nil))) (.cons (.var 8) .nil))))) .nil))))) .nil)) .nil) (.cons (.set 4 (.call 1 (.cons (.var 0) (.cons (.var 8) (.cons (.var 3) .nil))))) (.cons (.ret (.fr (.lst (.cons (.tup (.cons (.var 5) (.cons (.var 6) (.cons (.var 7) (.cons (.var 4) .nil))))) (.cons (.tup (.cons (.var 5) (.cons (.call 3 (.cons (.var 6) (.cons (.var 4) .nil))) (.cons (.var 7) (.cons (.call 2 (.cons (.var 8) (.cons (.var 4) .nil))) .nil))))) .nil))))) .nil)))))
def s__law_halved : Sem1 := run [s__law_by, s__law_times, s__law_minus, s__law_add] [] 3 9 b__law_halved
def b__law_wheel_1 : Sms := (.cons (.par2 12 13 (.call 0 (.cons (.var 0) (.cons (.ix (.var 2) (.lit (.int 0))) (.cons (.tup (.cons (.var 8) (.cons (.lit (.int 0)) (.cons (.lit (.int 1)) .nil)))) .nil)))) (.call 0 (.cons (.var 0) (.cons (.ix (.var 2) (.lit (.int 1))) (.cons (.tup (.cons (.var 9) (.cons (.lit (.int 0)) (.cons (.lit (.int 1)) .nil)))) .nil))))) (.cons (.app 3 (.tup (.cons (.call 1 (.cons (.var 4) (.cons (.var 12) .nil))) (.cons (.call 1 (.cons (.var 5) (.cons (.var 13) .nil))) (.cons (.call 0 (.cons (.var 0) (.cons (.ix (.var 2) (.lit (.int 0))) (.cons (.tup (.cons (.var 10) (.cons (.lit (.int 0)) (.cons (.lit (.int 1)) .nil)))) .nil)))) (.cons (.call 0 (.cons (.var 0) (.cons (.ix (.var 2) (.lit (.int 1))) (.cons (.tup (.cons (.var 11) (.cons (.lit (.int 0)) (.cons (.lit (.int 1)) .nil)))) .nil)))) .nil)))))) .nil))
def b__law_wheel : Sms := (.cons (.unp [4, 5, 6, 7] (.var 1)) (.cons (.set 2 (.fr (.lst (.cons (.call 0 (.cons (.var 0) (.cons (.var 6) (.cons (.tup (.cons (.lit (.int 1)) (.cons (.lit (.int 0)) (.cons (.lit (.int 3)) .nil)))) .nil)))) (.cons (.call 0 (.cons (.var 0) (.cons (.var 7) (.cons (.tup (.cons (.lit (.int 1)) (.cons (.lit (.int 0)) (.cons (.lit (.int 3)) .nil)))) .nil)))) .nil))))) (.cons (.setF 3 (.lst .nil)) (.cons (.forr (.tup [8, 9, 10, 11]) (.seq (.fr (.lst (.cons (.tup (.cons (.lit (.int 0)) (.cons (.lit (.int 0)) (.cons (.lit (.int 2)) (.cons (.lit (.int 1)) .nil))))) (.cons (.tup (.cons (.lit (.int 2)) (.cons (.lit (.int 0)) (.cons (.lit (.int 1)) (.cons (.lit (.int 2)) .nil))))) (.cons (.tup (.cons (.lit (.int 1)) (.cons (.lit (.int 2)) (.cons (.lit (.int 2)) (.cons (.lit (.int 1)) .nil))))) (.cons (.tup (.cons (.lit (.int 0)) (.cons (.lit (.int 1)) (.cons (.lit (.int 1)) (.cons (.lit (.int 2)) .nil))))) (.cons (.tup (.cons (.lit (.int 1)) (.cons (.lit (.int 1)) (.cons (.lit (.int 1)) (.cons (.lit (.int 1)) .nil))))) .nil)))))))) b__law_wheel_1) (.frz 3 (.cons (.ret (.var 3)) .nil))))))
def s__law_wheel : Sem1 := run [s__law_times, s__law_add] [] 2 14 b__law_wheel
def b__law_less : Sms := (.cons (.ret (.o2 .eq (.call 0 (.cons (.var 0) (.cons (.call 1 (.cons (.var 2) (.cons (.var 1) .nil))) .nil))) (.lit (.int 1)))) .nil)
def s__law_less : Sem1 := run [s__law_sign, s__law_minus] [] 3 3 b__law_less
def b__law_before : Sms := (.cons (.ite (.o2 .ne (.ix (.var 1) (.lit (.int 1))) (.ix (.var 2) (.lit (.int 1)))) (.cons (.ret (.call 0 (.cons (.var 0) (.cons (.ix (.var 1) (.lit (.int 1))) (.cons (.ix (.var 2) (.lit (.int 1))) .nil))))) .nil) .nil) (.cons (.ret (.call 0 (.cons (.var 0) (.cons (.ix (.var 1) (.lit (.int 0))) (.cons (.ix (.var 2) (.lit (.int 0))) .nil))))) .nil))
def s__law_before : Sem1 := run [s__law_less] [] 3 3 b__law_before
def b__law_in_order_1 : Sms := (.cons (.setF 4 (.comp (.var 5) (.name 5) (.seq (.var 2)) (.yes (.not (.call 0 (.cons (.var 0) (.cons (.var 3) (.cons (.var 5) .nil)))))) [5])) (.frz 4 (.cons (.set 2 (.o2 .add (.o2 .add (.var 4) (.fr (.lst (.cons (.var 3) .nil)))) (.fr (.sl (.var 2) (.yes (.o1 .len (.var 4))) .no)))) .nil)))
def b__law_in_order : Sms := (.cons (.set 2 (.fr (.lst .nil))) (.cons (.forr (.name 3) (.seq (.var 1)) b__law_in_order_1) (.cons (.ret (.var 2)) .nil)))
def s__law_in_order : Sem1 := run [s__law_before] [] 2 6 b__law_in_order
def b__law_tiles_1 : Sms := (.cons (.set 6 (.o2 .fdiv (.ix (.var 2) (.o2 .mod (.var 5) (.o1 .len (.var 2)))) (.o2 .add (.lit (.int 1)) (.o2 .fdiv (.var 5) (.o1 .len (.var 2)))))) (.cons (.set 7 (.o2 .mod (.var 6) (.o1 .len (.var 4)))) (.cons (.set 8 (.call 0 (.cons (.var 0) (.cons (.ix (.var 4) (.var 7)) (.cons (.fr (.lst (.cons (.o2 .fdiv (.var 6) (.lit (.int 7))) (.cons (.o2 .fdiv (.var 6) (.lit (.int 50))) .nil)))) .nil))))) (.cons (.ite (.and (.cons (.o2 .eq (.o2 .mod (.o2 .fdiv (.var 6) (.lit (.int 11))) (.lit (.int 5))) (.lit (.int 3))) (.cons (.o2 .lt (.o1 .len (.var 4)) (.lit (.int 9))) .nil))) (.cons (.set 8 (.call 1 (.cons (.var 0) (.cons (.ix (.var 4) (.var 7)) .nil)))) .nil) .nil) (.cons (.set 4 (.o2 .add (.o2 .add (.fr (.sl (.var 4) .no (.yes (.var 7)))) (.fr (.sl (.var 4) (.yes (.o2 .add (.var 7) (.lit (.int 1)))) .no))) (.var 8))) .nil)))))
def b__law_tiles : Sms := (.cons (.set 4 (.fr (.lst (.cons (.tup (.cons (.tup (.cons (.lit (.int 0)) (.cons (.lit (.int 0)) (.cons (.lit (.int 1)) .nil)))) (.cons (.tup (.cons (.lit (.int 0)) (.cons (.lit (.int 0)) (.cons (.lit (.int 1)) .nil)))) (.cons (.ix (.var 1) (.lit (.int 0))) (.cons (.ix (.var 1) (.lit (.int 1))) .nil))))) .nil)))) (.cons (.forr (.name 5) (.rng1 (.var 3)) b__law_tiles_1) (.cons (.ret (.call 2 (.cons (.var 0) (.cons (.var 4) .nil)))) .nil)))
def s__law_tiles : Sem1 := run [s__law_halved, s__law_wheel, s__law_in_order] [] 4 9 b__law_tiles
def b__law_sorted_1 : Sms := (.cons (.ite (.o2 .notin (.var 3) (.var 2)) (.cons (.setF 4 (.comp (.var 5) (.name 5) (.seq (.var 2)) (.yes (.call 0 (.cons (.var 0) (.cons (.var 5) (.cons (.var 3) .nil))))) [5])) (.frz 4 (.cons (.set 2 (.o2 .add (.o2 .add (.var 4) (.fr (.lst (.cons (.var 3) .nil)))) (.fr (.sl (.var 2) (.yes (.o1 .len (.var 4))) .no)))) .nil))) .nil) .nil)
def b__law_sorted : Sms := (.cons (.set 2 (.fr (.lst .nil))) (.cons (.forr (.name 3) (.seq (.var 1)) b__law_sorted_1) (.cons (.ret (.var 2)) .nil)))
def s__law_sorted : Sem1 := run [s__law_less] [] 2 6 b__law_sorted
def b__law_ends : Sms := (.cons (.ret (.tup (.cons (.call 0 (.cons (.ix (.var 0) (.lit (.int 0))) (.cons (.ix (.var 0) (.lit (.int 2))) .nil))) (.cons (.call 0 (.cons (.ix (.var 0) (.lit (.int 1))) (.cons (.ix (.var 0) (.lit (.int 3))) .nil))) .nil)))) .nil)
def s__law_ends : Sem1 := run [s__law_add] [] 1 1 b__law_ends
def b__law_lines_1 : Sms := (.cons (.setF 6 (.comp (.var 7) (.name 7) (.seq (.var 1)) (.yes (.and (.cons (.call 1 (.cons (.var 0) (.cons (.ix (.var 7) (.var 2)) (.cons (.var 5) .nil)))) (.cons (.call 1 (.cons (.var 0) (.cons (.var 5) (.cons (.ix (.call 2 (.cons (.var 7) .nil)) (.var 2)) .nil)))) .nil)))) [7])) (.frz 6 (.cons (.ite (.o2 .eq (.var 6) (.fr (.lst .nil))) (.cons (.app 4 (.var 5)) .nil) .nil) .nil)))
def b__law_lines : Sms := (.cons (.set 3 (.call 0 (.cons (.var 0) (.cons (.fr (.comp (.ix (.var 7) (.var 2)) (.name 7) (.seq (.var 1)) .no [7])) .nil)))) (.cons (.setF 4 (.lst .nil)) (.cons (.forr (.name 5) (.seq (.fr (.sl (.var 3) (.yes (.lit (.int 1))) .no))) b__law_lines_1) (.frz 4 (.cons (.ret (.var 4)) .nil)))))
def s__law_lines : Sem1 := run [s__law_sorted, s__law_less, s__law_ends] [] 3 8 b__law_lines
def b__law_copied : Sms := (.cons (.ret (.fr (.comp (.o1 .tuple (.var 1)) (.name 1) (.seq (.var 0)) .no [1]))) .nil)
def s__law_copied : Sem1 := run [] [] 1 2 b__law_copied
def b_side_at : Sms := (.cons (.ret (.o1 .int (.o2 .eq (.var 0) (.glb 0)))) .nil)
def s_side_at : Sem1 := run [] [(.str "y")] 1 1 b_side_at
def b_start_of : Sms := (.cons (.ret (.ix (.var 1) (.call 0 (.cons (.var 0) .nil)))) .nil)
def s_start_of : Sem1 := run [s_side_at] [] 2 2 b_start_of
def b_sign_of_number : Sms := (.cons (.ret (.o2 .sub (.o1 .int (.o2 .gt (.var 0) (.lit (.int 0)))) (.o1 .int (.o2 .lt (.var 0) (.lit (.int 0)))))) .nil)
def s_sign_of_number : Sem1 := run [] [] 1 1 b_sign_of_number
def b_sign_of : Sms := (.cons (.unp [2, 3, 4] (.var 1)) (.cons (.ite (.o2 .ge (.o2 .mul (.var 2) (.var 3)) (.lit (.int 0))) (.cons (.ret (.call 0 (.cons (.o2 .add (.var 2) (.var 3)) .nil))) .nil) .nil) (.cons (.ite (.o2 .gt (.o2 .mul (.var 2) (.var 2)) (.o2 .mul (.o2 .mul (.var 0) (.var 3)) (.var 3))) (.cons (.ret (.call 0 (.cons (.var 2) .nil))) .nil) .nil) (.cons (.ret (.call 0 (.cons (.var 3) .nil))) .nil))))
def s_sign_of : Sem1 := run [s_sign_of_number] [] 2 5 b_sign_of
def b_common_divisor_1 : Sms := (.cons (.par2 0 1 (.var 1) (.o2 .mod (.var 0) (.var 1))) .nil)
def b_common_divisor : Sms := (.cons (.whl (.o2 .gt (.var 1) (.lit (.int 0))) b_common_divisor_1) (.cons (.ret (.var 0)) .nil))
def s_common_divisor : Sem1 := run [] [] 2 2 b_common_divisor
def b_common_of_three : Sms := (.cons (.ret (.call 0 (.cons (.call 0 (.cons (.o1 .abs (.var 0)) (.cons (.o1 .abs (.var 1)) .nil))) (.cons (.o1 .abs (.var 2)) .nil)))) .nil)
def s_common_of_three : Sem1 := run [s_common_divisor] [] 3 3 b_common_of_three
def b_length : Sms := (.cons (.set 3 (.call 0 (.cons (.var 0) (.cons (.var 1) (.cons (.var 2) .nil))))) (.cons (.ite (.o2 .lt (.var 2) (.lit (.int 0))) (.cons (.set 3 (.o1 .neg (.var 3))) .nil) .nil) (.cons (.ret (.tup (.cons (.o2 .fdiv (.var 0) (.var 3)) (.cons (.o2 .fdiv (.var 1) (.var 3)) (.cons (.o2 .fdiv (.var 2) (.var 3)) .nil))))) .nil)))
def s_length : Sem1 := run [s_common_of_three] [] 3 4 b_length
def b_plus : Sms := (.cons (.unp [2, 3, 4] (.var 0)) (.cons (.unp [5, 6, 7] (.var 1)) (.cons (.ret (.call 0 (.cons (.o2 .add (.o2 .mul (.var 2) (.var 7)) (.o2 .mul (.var 5) (.var 4))) (.cons (.o2 .add (.o2 .mul (.var 3) (.var 7)) (.o2 .mul (.var 6) (.var 4))) (.cons (.o2 .mul (.var 4) (.var 7)) .nil))))) .nil)))
def s_plus : Sem1 := run [s_length] [] 2 8 b_plus
def b_negative : Sms := (.cons (.unp [1, 2, 3] (.var 0)) (.cons (.ret (.tup (.cons (.o1 .neg (.var 1)) (.cons (.o1 .neg (.var 2)) (.cons (.var 3) .nil))))) .nil))
def s_negative : Sem1 := run [] [] 1 4 b_negative
def b_minus : Sms := (.cons (.ret (.call 0 (.cons (.var 0) (.cons (.call 1 (.cons (.var 1) .nil)) .nil)))) .nil)
def s_minus : Sem1 := run [s_plus, s_negative] [] 2 2 b_minus
def b_compare : Sms := (.cons (.ret (.call 0 (.cons (.var 0) (.cons (.call 1 (.cons (.var 1) (.cons (.var 2) .nil))) .nil)))) .nil)
def s_compare : Sem1 := run [s_sign_of, s_minus] [] 3 3 b_compare
def b_least_start_1 : Sms := (.cons (.ite (.o2 .eq (.call 1 (.cons (.var 0) (.cons (.call 0 (.cons (.var 1) (.cons (.var 4) .nil))) (.cons (.var 3) .nil)))) (.o1 .neg (.lit (.int 1)))) (.cons (.set 3 (.call 0 (.cons (.var 1) (.cons (.var 4) .nil)))) .nil) .nil) .nil)
def b_least_start : Sms := (.cons (.set 3 (.call 0 (.cons (.var 1) (.cons (.ix (.var 2) (.lit (.int 0))) .nil)))) (.cons (.forr (.name 4) (.seq (.var 2)) b_least_start_1) (.cons (.ret (.var 3)) .nil)))
def s_least_start : Sem1 := run [s_start_of, s_compare] [] 3 5 b_least_start
def b_ascending_1 : Sms := (.cons (.setF 4 (.comp (.var 5) (.name 5) (.slot 2) (.yes (.o2 .eq (.call 0 (.cons (.var 0) (.cons (.var 5) (.cons (.var 3) .nil)))) (.o1 .neg (.lit (.int 1))))) [5])) (.frz 4 (.cons (.ite (.scal (.o2 .notin (.var 3) (.var 2))) (.cons (.ins 2 (.o1 .len (.var 4)) (.var 3)) .nil) .nil) .nil)))
def b_ascending : Sms := (.cons (.setF 2 (.lst .nil)) (.cons (.forr (.name 3) (.seq (.var 1)) b_ascending_1) (.frz 2 (.cons (.ret (.var 2)) .nil))))
def s_ascending : Sem1 := run [s_compare] [] 2 6 b_ascending
def b_end_of : Sms := (.cons (.ret (.call 0 (.cons (.ix (.var 1) (.call 1 (.cons (.var 0) .nil))) (.cons (.ix (.var 1) (.o2 .add (.call 1 (.cons (.var 0) .nil)) (.lit (.int 2)))) .nil)))) .nil)
def s_end_of : Sem1 := run [s_plus, s_side_at] [] 2 2 b_end_of
def b_crosses : Sms := (.cons (.ret (.and (.cons (.o2 .eq (.call 0 (.cons (.var 0) (.cons (.call 2 (.cons (.var 1) (.cons (.var 3) .nil))) (.cons (.var 2) .nil)))) (.o1 .neg (.lit (.int 1)))) (.cons (.o2 .eq (.call 0 (.cons (.var 0) (.cons (.var 2) (.cons (.call 1 (.cons (.var 1) (.cons (.var 3) .nil))) .nil)))) (.o1 .neg (.lit (.int 1)))) .nil)))) .nil)
def s_crosses : Sem1 := run [s_compare, s_end_of, s_start_of] [] 4 4 b_crosses
def b_is_line_1 : Sms := (.cons (.ite (.call 0 (.cons (.var 0) (.cons (.var 1) (.cons (.var 2) (.cons (.var 4) .nil))))) (.cons (.ret (.lit (.bool false))) .nil) .nil) .nil)
def b_is_line : Sms := (.cons (.forr (.name 4) (.seq (.var 3)) b_is_line_1) (.cons (.ret (.lit (.bool true))) .nil))
def s_is_line : Sem1 := run [s_crosses] [] 4 5 b_is_line
def b_lines_through : Sms := (.cons (.set 3 (.call 0 (.cons (.var 0) (.cons (.var 1) (.cons (.var 2) .nil))))) (.cons (.set 4 (.call 1 (.cons (.var 0) (.cons (.fr (.comp (.call 2 (.cons (.var 1) (.cons (.var 6) .nil))) (.name 6) (.seq (.var 2)) .no [6])) .nil)))) (.cons (.ret (.fr (.comp (.var 5) (.name 5) (.seq (.var 4)) (.yes (.and (.cons (.o2 .ne (.var 5) (.var 3)) (.cons (.call 3 (.cons (.var 0) (.cons (.var 1) (.cons (.var 5) (.cons (.var 2) .nil))))) .nil)))) [5]))) .nil)))
def s_lines_through : Sem1 := run [s_least_start, s_ascending, s_start_of, s_is_line] [] 3 7 b_lines_through
def b_lines_of : Sms := (.cons (.ret (.tup (.cons (.call 0 (.cons (.var 0) (.cons (.glb 1) (.cons (.var 2) .nil)))) (.cons (.call 0 (.cons (.var 0) (.cons (.glb 0) (.cons (.var 2) .nil)))) .nil)))) .nil)
def s_lines_of : Sem1 := run [s_lines_through] [(.str "y"), (.str "x")] 3 3 b_lines_of
def b__law_is_number : Sms := (.cons (.ret (.and (.cons (.o1 (.isI "int") (.var 0)) (.cons (.not (.o1 (.isI "bool") (.var 0))) .nil)))) .nil)
def s__law_is_number : Sem1 := run [] [] 1 1 b__law_is_number
def b__law_is_numbers_1 : Sms := (.cons (.ite (.not (.call 0 (.cons (.var 1) .nil))) (.cons (.ret (.lit (.bool false))) .nil) .nil) .nil)
def b__law_is_numbers : Sms := (.cons (.ite (.not (.o1 (.isI "list") (.var 0))) (.cons (.ret (.lit (.bool false))) .nil) .nil) (.cons (.forr (.name 1) (.seq (.var 0)) b__law_is_numbers_1) (.cons (.ret (.lit (.bool true))) .nil)))
def s__law_is_numbers : Sem1 := run [s__law_is_number] [] 1 2 b__law_is_numbers
def b__law_is_length : Sms := (.cons (.ite (.or (.cons (.not (.o1 (.isI "tuple") (.var 0))) (.cons (.o2 .ne (.o1 .len (.var 0)) (.lit (.int 3))) (.cons (.not (.call 0 (.cons (.fr (.listOf (.var 0))) .nil))) (.cons (.o2 .lt (.ix (.var 0) (.lit (.int 2))) (.lit (.int 1))) .nil))))) (.cons (.ret (.lit (.bool false))) .nil) .nil) (.cons (.ret (.o2 .eq (.call 1 (.cons (.call 1 (.cons (.o1 .abs (.ix (.var 0) (.lit (.int 0)))) (.cons (.o1 .abs (.ix (.var 0) (.lit (.int 1)))) .nil))) (.cons (.ix (.var 0) (.lit (.int 2))) .nil))) (.lit (.int 1)))) .nil))
def s__law_is_length : Sem1 := run [s__law_is_numbers, s__law_gcd] [] 1 1 b__law_is_length
def b__law_turned : Sms := (.cons (.ret (.fr (.comp (.tup (.cons (.ix (.var 1) (.lit (.int 1))) (.cons (.ix (.var 1) (.lit (.int 0))) (.cons (.ix (.var 1) (.lit (.int 3))) (.cons (.ix (.var 1) (.lit (.int 2))) .nil))))) (.name 1) (.seq (.var 0)) .no [1]))) .nil)
def s__law_turned : Sem1 := run [] [] 1 2 b__law_turned
def b__law_told_1 : Sms := (.cons (.ite (.or (.cons (.not (.o1 (.isI "list") (.var 6))) (.cons (.o2 .ne (.fr (.comp (.var 8) (.name 8) (.seq (.var 6)) (.yes (.not (.call 3 (.cons (.var 8) .nil)))) [8])) (.fr (.lst .nil))) .nil))) (.cons (.ret (.lit .none)) .nil) .nil) .nil)
def b__law_told : Sms := (.cons (.set 3 (.tup (.cons (.call 0 (.cons (.var 0) (.cons (.var 2) (.cons (.lit (.int 0)) .nil)))) (.cons (.call 0 (.cons (.var 0) (.cons (.var 2) (.cons (.lit (.int 1)) .nil)))) .nil)))) (.cons (.set 4 (.call 1 (.cons (.var 2) .nil))) (.mark (.cons (.setN 5 (.call 2 (.cons (.var 0) (.cons (.var 1) (.cons (.var 4) .nil))))) (.cons (.ite (.or (.cons (.o2 .ne (.var 4) (.var 2)) (.cons (.not (.o1 (.isI "tuple") (.var 5))) (.cons (.o2 .ne (.var 5) (.var 3)) .nil)))) (.cons (.ret (.lit .none)) .nil) .nil) (.cons (.forr (.name 6) (.seq (.var 5)) b__law_told_1) (.cons (.set 7 (.call 4 (.cons (.var 0) (.cons (.call 5 (.cons (.var 2) .nil)) .nil)))) (.cons (.ite (.o2 .ne (.call 2 (.cons (.var 0) (.cons (.revA (.var 1)) (.cons (.var 7) .nil)))) (.revA (.var 3))) (.cons (.ret (.lit .none)) .nil) .nil) (.muts 5 [(.app [0] (.lit .none)), (.app [1] (.lit .none))] (.cons (.ite (.o2 .ne (.call 2 (.cons (.var 0) (.cons (.var 1) (.cons (.var 4) .nil)))) (.var 3)) (.cons (.ret (.lit .none)) .nil) .nil) (.cons (.ret (.var 3)) .nil)))))))))))
def s__law_told : Sem1 := run [s__law_lines, s__law_copied, s_lines_of, s__law_is_length, s__law_in_order, s__law_turned] [] 3 9 b__law_told
def b__law_moved : Sms := (.cons (.ret (.fr (.comp (.tup (.cons (.call 0 (.cons (.ix (.var 4) (.lit (.int 0))) (.cons (.var 2) .nil))) (.cons (.call 0 (.cons (.ix (.var 4) (.lit (.int 1))) (.cons (.var 3) .nil))) (.cons (.ix (.var 4) (.lit (.int 2))) (.cons (.ix (.var 4) (.lit (.int 3))) .nil))))) (.name 4) (.seq (.var 1)) .no [4]))) .nil)
def s__law_moved : Sem1 := run [s__law_add] [] 4 5 b__law_moved
def b__law_grid_1 : Sms := (.cons (.set 4 (.o2 .add (.var 4) (.fr (.comp (.tup (.cons (.call 1 (.cons (.var 0) (.cons (.var 6) (.cons (.tup (.cons (.var 8) (.cons (.lit (.int 0)) (.cons (.lit (.int 1)) .nil)))) .nil)))) (.cons (.call 1 (.cons (.var 0) (.cons (.var 7) (.cons (.tup (.cons (.var 5) (.cons (.lit (.int 0)) (.cons (.lit (.int 1)) .nil)))) .nil)))) (.cons (.var 6) (.cons (.var 7) .nil))))) (.name 8) (.rng1 (.var 2)) .no [8])))) .nil)
def b__law_grid : Sms := (.cons (.unp [6, 7] (.tup (.cons (.call 0 (.cons (.var 0) (.cons (.ix (.var 1) (.lit (.int 0))) (.cons (.tup (.cons (.var 2) (.cons (.lit (.int 0)) (.cons (.lit (.int 1)) .nil)))) .nil)))) (.cons (.call 0 (.cons (.var 0) (.cons (.ix (.var 1) (.lit (.int 1))) (.cons (.tup (.cons (.var 3) (.cons (.lit (.int 0)) (.cons (.lit (.int 1)) .nil)))) .nil)))) .nil)))) (.cons (.set 4 (.fr (.lst .nil))) (.cons (.forr (.name 5) (.rng1 (.var 3)) b__law_grid_1) (.cons (.ret (.var 4)) .nil))))
def s__law_grid : Sem1 := run [s__law_by, s__law_times] [] 4 9 b__law_grid
def b_law : Sms := (.cons (.set 1 (.call 0 (.cons (.var 0) (.cons (.lit (.int 40)) .nil)))) (.cons (.set 2 (.call 1 (.cons (.ix (.var 1) (.lit (.int 0))) .nil))) (.cons (.set 3 (.call 2 (.cons (.var 2) (.cons (.fr (.sl (.var 1) (.yes (.lit (.int 1))) (.yes (.lit (.int 7))))) .nil)))) (.cons (.set 4 (.call 3 (.cons (.var 2) (.cons (.var 3) (.cons (.fr (.sl (.var 1) (.yes (.lit (.int 7))) (.yes (.lit (.int 13))))) (.cons (.o2 .add (.o2 .mod (.ix (.var 1) (.lit (.int 13))) (.lit (.int 5))) (.o2 .mul (.lit (.int 4)) (.o1 .int (.o2 .eq (.o2 .mod (.ix (.var 1) (.lit (.int 14))) (.lit (.int 8))) (.lit (.int 3)))))) .nil)))))) (.cons (.ite (.o2 .is (.call 4 (.cons (.var 2) (.cons (.var 3) (.cons (.var 4) .nil)))) (.lit .none)) (.cons (.ret (.lit (.bool false))) .nil) .nil) (.cons (.set 5 (.tup (.cons (.call 5 (.cons (.var 2) (.cons (.fr (.sl (.var 1) (.yes (.lit (.int 15))) (.yes (.lit (.int 18))))) .nil))) (.cons (.ix (.var 3) (.lit (.int 1))) .nil)))) (.cons (.set 6 (.call 3 (.cons (.var 2) (.cons (.var 5) (.cons (.fr (.sl (.var 1) (.yes (.lit (.int 18))) (.yes (.lit (.int 24))))) (.cons (.o2 .mod (.ix (.var 1) (.lit (.int 24))) (.lit (.int 4))) .nil)))))) (.cons (.set 7 (.tup (.cons (.call 6 (.cons (.ix (.var 3) (.lit (.int 0))) (.cons (.ix (.var 5) (.lit (.int 0))) .nil))) (.cons (.ix (.var 3) (.lit (.int 1))) .nil)))) (.cons (.set 8 (.call 7 (.cons (.var 2) (.cons (.o2 .add (.var 4) (.call 8 (.cons (.var 2) (.cons (.var 6) (.cons (.ix (.var 3) (.lit (.int 0))) (.cons (.tup (.cons (.lit (.int 0)) (.cons (.lit (.int 0)) (.cons (.lit (.int 1)) .nil)))) .nil)))))) .nil)))) (.cons (.set 9 (.call 4 (.cons (.var 2) (.cons (.var 7) (.cons (.var 8) .nil))))) (.cons (.ite (.or (.cons (.o2 .is (.var 9) (.lit .none)) (.cons (.o2 .notin (.ix (.var 3) (.lit (.int 0))) (.ix (.var 9) (.lit (.int 0)))) .nil))) (.cons (.ret (.lit (.bool false))) .nil) .nil) (.cons (.par2 11 12 (.o2 .add (.lit (.int 1)) (.o2 .mod (.ix (.var 1) (.lit (.int 25))) (.lit (.int 5)))) (.o2 .add (.lit (.int 1)) (.o2 .mod (.ix (.var 1) (.lit (.int 26))) (.lit (.int 4))))) (.cons (.ite (.o2 .eq (.o2 .mod (.ix (.var 1) (.lit (.int 27))) (.lit (.int 16))) (.lit (.int 3))) (.cons (.par2 11 12 (.o2 .add (.lit (.int 1)) (.o2 .mod (.ix (.var 1) (.lit (.int 25))) (.lit (.int 10)))) (.o2 .add (.lit (.int 1)) (.o2 .mod (.ix (.var 1) (.lit (.int 26))) (.lit (.int 6))))) .nil) .nil) (.cons (.set 9 (.call 4 (.cons (.var 2) (.cons (.var 3) (.cons (.call 9 (.cons (.var 2) (.cons (.var 3) (.cons (.var 11) (.cons (.var 12) .nil))))) .nil))))) (.cons (.ite (.or (.cons (.o2 .is (.var 9) (.lit .none)) (.cons (.o2 .ne (.fr (.lst (.cons (.o1 .len (.ix (.var 9) (.lit (.int 0)))) (.cons (.o1 .len (.ix (.var 9) (.lit (.int 1)))) .nil)))) (.fr (.lst (.cons (.o2 .sub (.var 11) (.lit (.int 1))) (.cons (.o2 .sub (.var 12) (.lit (.int 1))) .nil))))) .nil))) (.cons (.ret (.lit (.bool false))) .nil) .nil) (.cons (.set 10 (.call 7 (.cons (.var 2) (.cons (.call 10 (.cons (.var 2) (.cons (.tup (.cons (.tup (.cons (.lit (.int 0)) (.cons (.lit (.int 0)) (.cons (.lit (.int 1)) .nil)))) (.cons (.tup (.cons (.lit (.int 0)) (.cons (.lit (.int 0)) (.cons (.lit (.int 1)) .nil)))) (.cons (.ix (.var 3) (.lit (.int 0))) (.cons (.ix (.var 3) (.lit (.int 1))) .nil))))) .nil))) .nil)))) (.cons (.ite (.o2 .ne (.call 4 (.cons (.var 2) (.cons (.var 3) (.cons (.var 10) .nil)))) (.tup (.cons (.fr (.lst .nil)) (.cons (.fr (.lst .nil)) .nil)))) (.cons (.ret (.lit (.bool false))) .nil) .nil) (.cons (.unp [13, 14, 15] (.tup (.cons (.tup (.cons (.lit (.int 1)) (.cons (.lit (.int 0)) (.cons (.lit (.int 1)) .nil)))) (.cons (.tup (.cons (.lit (.int 0)) (.cons (.lit (.int 0)) (.cons (.lit (.int 1)) .nil)))) (.cons (.tup (.cons (.lit (.int 1)) (.cons (.lit (.int 0)) (.cons (.lit (.int 2)) .nil)))) .nil))))) (.cons (.ite (.o2 .ne (.call 11 (.cons (.lit (.int 2)) (.cons (.tup (.cons (.var 13) (.cons (.var 13) .nil))) (.cons (.fr (.lst (.cons (.tup (.cons (.var 14) (.cons (.var 14) (.cons (.var 15) (.cons (.var 13) .nil))))) (.cons (.tup (.cons (.var 15) (.cons (.var 14) (.cons (.var 15) (.cons (.var 15) .nil))))) (.cons (.tup (.cons (.var 15) (.cons (.var 15) (.cons (.var 15) (.cons (.var 15) .nil))))) .nil))))) .nil)))) (.tup (.cons (.fr (.lst (.cons (.var 15) .nil))) (.cons (.fr (.lst .nil)) .nil)))) (.cons (.ret (.lit (.bool false))) .nil) .nil) (.cons (.ret (.o2 .eq (.call 11 (.cons (.lit (.int 2)) (.cons (.tup (.cons (.var 13) (.cons (.var 13) .nil))) (.cons (.fr (.lst (.cons (.tup (.cons (.var 14) (.cons (.var 14) (.cons (.var 13) (.cons (.var 13) .nil))))) .nil))) .nil)))) (.tup (.cons (.fr (.lst .nil)) (.cons (.fr (.lst .nil)) .nil))))) .nil))))))))))))))))))))
def s_law : Sem1 := run [s__law_draws, s__law_root, s__law_sheet, s__law_tiles, s__law_told, s__law_above, s__law_add, s__law_in_order, s__law_moved, s__law_grid, s__law_wheel, s_lines_of] [] 1 16 b_law
end PL
namespace PL
open PySem PySem.Spec PyProof.Rows L2
/-! ### lengths.py -/
theorem gcd_loop (a b : Nat) : whB [] [] (.o2 .gt (.var 1) (.lit (.int 0))) b_common_divisor_1 [.val (.int a), .val (.int b)] = some (.next [.val (.int (Nat.gcd a b)), .val (.int 0)]) := by
  induction b using Nat.strongRecOn generalizing a with
  | ind b ih =>
    by_cases h : b = 0
    · subst h
      simpa using whB_false (by simp)
    · have hb : 0 < b := by omega
      have h2 : b ≠ 0 := by omega
      have hm : ((a : Int)).fmod b = ((a % b : Nat) : Int) := by
        rw [Int.fmod_eq_emod_of_nonneg _ (by omega)]; rfl
      refine whB_true (st' := [.val (.int b), .val (.int (a % b : Nat))]) (by simp [hb]) (by simp [b_common_divisor_1, hm, h2]) ?_
      rw [ih (a % b) (Nat.mod_lt _ hb) b, Nat.gcd_comm b, ← Nat.gcd_rec, Nat.gcd_comm]
theorem e_common_divisor (a b : Nat) : s_common_divisor [.int a, .int b] = some (.int (Nat.gcd a b)) :=
  run_ret rfl (exs_step (ex_whl (gcd_loop a b)) (exs_ret (ex_return rfl)))
theorem e_common_of_three (p q s : Int) : s_common_of_three [.int p, .int q, .int s] = some (.int (g3 p q s)) := by
  simp [s_common_of_three, b_common_of_three, abs_eq, e_common_divisor, g3]
theorem e_length {p q s : Int} {n : Nat} (h : s ≠ 0) (hs : Sz n s) (e : n < 9000) : s_length [.int p, .int q, .int s] = some (encL (nrm p q s)) := by
  have k := d3_ok (p := p) (q := q) h hs e
  by_cases c : s < 0
  · have hd : d3 p q s = -(g3 p q s : Int) := by unfold d3; rw [if_pos c]
    rw [hd] at k
    simp [s_length, b_length, e_common_of_three, c, encL, nrm, hd, sizeLine_eq, k]
  · have hd : d3 p q s = (g3 p q s : Int) := by unfold d3; rw [if_neg c]
    rw [hd] at k
    simp [s_length, b_length, e_common_of_three, c, encL, nrm, hd, sizeLine_eq, k]
theorem e_plus {n m : Nat} {a b : Ln} (h : Gd n a) (k : Gd m b) (e : n + m < 8999) : s_plus [encL a, encL b] = some (encL (addL a b)) := by
  have m1 := mulOk_of h.p k.s (by omega)
  have m2 := mulOk_of k.p h.s (by omega)
  have m3 := mulOk_of h.q k.s (by omega)
  have m4 := mulOk_of k.q h.s (by omega)
  have m5 := mulOk_of h.s k.s (by omega)
  have el := e_length (p := a.p * b.s + b.p * a.s) (q := a.q * b.s + b.q * a.s) (ne_mul h.ne k.ne) (h.s.mul k.s) (by omega)
  simp [s_plus, b_plus, encL, m1, m2, m3, m4, m5, el, addL]
theorem e_negative (a : Ln) : s_negative [encL a] = some (encL (negL a)) := by
  simp [s_negative, b_negative, encL, negL, sizeLine_eq]
theorem e_minus {n m : Nat} {a b : Ln} (h : Gd n a) (k : Gd m b) (e : n + m < 8999) : s_minus [encL a, encL b] = some (encL (subL a b)) := by
  simp [s_minus, b_minus, e_negative, e_plus h k.neg e, subL]
/-! ### the draws -/
abbrev scr (ns : List Int) : D := .dict [(.none, .list (ns.map PyData.int))]
def DrOk (l : List Int) : Prop := ∀ x ∈ l, 0 ≤ x ∧ x < 1000003
theorem DrOk.add {l : List Int} (h : DrOk l) {x : Int} (h0 : 0 ≤ x) (h1 : x < 1000003) : DrOk (l ++ [x]) := fun y hy => by
  rcases List.mem_append.mp hy with q | q
  · exact h y q
  · rw [List.mem_singleton.mp q]; exact ⟨h0, h1⟩
/- a turn over a great number -/
theorem draws_great (l : List Int) (n : Int) (hn : 0 ≤ n) (hl : DrOk l) (hz : l.length < 100000) (a b c x4 x6 x7 : Sl) :
    ∃ l' x4' n', forB [] [] (.name 4) b__law_draws_1 (rngL 0 60) [a, b, .own (l.map .int), c, x4, .val (.int n), x6, x7] = some (.next [a, b, .own (l'.map .int), c, x4', .val (.int n'), x6, x7]) ∧ DrOk l' ∧ l'.length ≤ l.length + 60 := by
  obtain ⟨s', e, l', x4', n', h1, h2, h3, h4⟩ := forB_inv (Γ := []) (G := []) (tg := .name 4) (b := b__law_draws_1) (ds := rngL 0 60)
    (fun i s => ∃ l' x4' n', s = [a, b, .own (l'.map .int), c, x4', .val (.int n'), x6, x7] ∧ DrOk l' ∧ l'.length ≤ l.length + i ∧ 0 ≤ n')
    ⟨l, x4, n, rfl, hl, Nat.le_refl _, hn⟩ fun i d s hd ⟨l1, y4, n1, e1, e2, e3, e4⟩ => by
      subst e1
      obtain ⟨rfl, hi⟩ := rngL_get hd
      by_cases c0 : 0 < n1
      · have hb := fmod_bd n1 (m := 1000003) (by decide)
        have hs : l1.length < sizeLine := by rw [sizeLine_eq]; omega
        have d1 : dvOk 1000003 = true := dv_of (by decide) (by decide) (by decide)
        refine ⟨_, _, rfl, by simp [b__law_draws_1, c0, hs, d1]; rfl, l1 ++ [n1.fmod 1000003], _, n1.fdiv 1000003, by simp; rfl, e2.add hb.1 hb.2, by simp; omega, ?_⟩
        exact Int.fdiv_nonneg (by omega) (by decide)
      · exact ⟨_, _, rfl, by simp [b__law_draws_1, c0]; rfl, l1, _, n1, rfl, e2, by omega, e4⟩
  subst h1
  rw [rngL_len] at h3
  exact ⟨l', x4', n', e, h2, h3⟩
/- a turn over a small number -/
theorem draws_small (l : List Int) (m : Int) (h0 : 0 ≤ m) (h1 : m < 2147483647) (hl : DrOk l) (hz : l.length < 100000) (a b c x4 x5 x7 : Sl) :
    ∃ l' x4' m', forB [] [] (.name 4) b__law_draws_2 (rngL 0 4) [a, b, .own (l.map .int), c, x4, x5, .val (.int m), x7] = some (.next [a, b, .own (l'.map .int), c, x4', x5, .val (.int m'), x7]) ∧ DrOk l' ∧ l'.length ≤ l.length + 60 := by
  obtain ⟨s', e, l', x4', n', g1, h2, h3, h4⟩ := forB_inv (Γ := []) (G := []) (tg := .name 4) (b := b__law_draws_2) (ds := rngL 0 4)
    (fun i s => ∃ l' x4' n', s = [a, b, .own (l'.map .int), c, x4', x5, .val (.int n'), x7] ∧ DrOk l' ∧ l'.length ≤ l.length + i ∧ 0 ≤ n' ∧ n' < 2147483647)
    ⟨l, x4, m, rfl, hl, Nat.le_refl _, h0, h1⟩ fun i d s hd ⟨l1, y4, n1, e1, e2, e3, e4, e5⟩ => by
      subst e1
      obtain ⟨rfl, hi⟩ := rngL_get hd
      have d1 : dvOk 65536 = true := dv_of (by decide) (by decide) (by decide)
      have d2 : dvOk 8 = true := dv_of (by decide) (by decide) (by decide)
      have m1 : mulOk n1 69621 = true := mulOk_bd (by omega) (by omega) (by decide) (by decide)
      have m2 : mulOk 13 (i : Int) = true := mulOk_bd (by decide) (by decide) (by omega) (by omega)
      have hs : l1.length < sizeLine := by rw [sizeLine_eq]; omega
      refine ⟨_, _, rfl, by simp [b__law_draws_2, m1, m2, hs, d1, d2]; rfl, l1 ++ [_], _, _, by rw [List.map_append]; rfl, e2.add (fmod_bd _ (by decide)).1 (fmod_bd _ (by decide)).2, by simp; omega, (fmod_bd _ (by decide)).1, ?_⟩
      have := (fmod_bd (n1 * 69621 + n1.fdiv 65536 + 13 * (i : Int) + 5) (m := 2147483629) (by decide)).2
      omega
  subst g1
  rw [rngL_len] at h3
  exact ⟨l', x4', n', e, h2, by omega⟩
theorem cut63 (ns : List Int) : (cutL (ns.map PyData.int) none (some 63)).length ≤ 63 := by
  unfold cutL
  rw [List.length_take, show HT.sIx (ns.map PyData.int).length (ns.map PyData.int).length (some 63) = min 63 (ns.map PyData.int).length from HT.sIx_nat _ _ 63, HT.sIx_none]
  omega
theorem draws_one (ns : List Int) (many : D) (l : List Int) (c : Int) (hl : DrOk l) (hz : l.length < 100000) (x4 x5 x6 x7 : Sl) :
    ∃ (l' : List Int) (y4 y5 y6 : Sl), exs [] [] b__law_draws_3 [.val (scr ns), .val many, .own (l.map .int), .val (.int c), x4, x5, x6, x7] = some (.next [.val (scr ns), .val many, .own (l'.map .int), .val (.int c), y4, y5, y6, x7]) ∧ DrOk l' ∧ l'.length ≤ l.length + 60 := by
  have hpow : powOk 10 18 = true := by decide
  have ha : ev [] [] (.o1 .abs (.o1 .int (.var 3))) [.val (scr ns), .val many, .own (l.map .int), .val (.int c), x4, x5, x6, x7] = some (.int c.natAbs) := by simp [abs_eq]
  by_cases hc : (1000000000000000000 : Int) ≤ (c.natAbs : Int)
  · obtain ⟨l', x4', n', k1, k2, k3⟩ := draws_great l c.natAbs (by omega) hl hz (.val (scr ns)) (.val many) (.val (.int c)) x4 x6 x7
    refine ⟨l', x4', .val (.int n'), x6, ?_, k2, k3⟩
    refine exs_step (ex_set ha) (exs_step (ex_then ?_ (exs_step (ex_for (ds := rngL 0 60) ?_ rfl k1) rfl)) rfl)
    · simp only [put, ev, get, vw, rdV, Option.bind_some, o2D, int2, hpow, if_true, ltD, show (10 : Int) ^ (18 : Int).toNat = 1000000000000000000 by decide, decide_eq_true hc]
    · simp only [evI, ev, Option.bind_some, rng_of (lo := 0) (hi := 60) (by decide) (by decide) (by decide) (by decide), if_true]
  · have m1 : mulOk (c.natAbs : Int) 48271 = true := mulOk_bd (by omega) (by omega) (by decide) (by decide)
    have m2 : mulOk 7 (l.length : Int) = true := mulOk_bd (by decide) (by decide) (by omega) (by omega)
    have hb := fmod_bd ((c.natAbs : Int) * 48271 + 7 * (l.length : Int) + 11) (m := 2147483647) (by decide)
    obtain ⟨l', x4', n', k1, k2, k3⟩ := draws_small l _ hb.1 hb.2 hl hz (.val (scr ns)) (.val many) (.val (.int c)) x4 (.val (.int c.natAbs)) x7
    refine ⟨l', x4', .val (.int c.natAbs), .val (.int n'), ?_, k2, k3⟩
    refine exs_step (ex_set ha) (exs_step (ex_else ?_ (exs_step (ex_set (d := .int (((c.natAbs : Int) * 48271 + 7 * (l.length : Int) + 11).fmod 2147483647)) ?_) (exs_step (ex_for (ds := rngL 0 4) ?_ rfl k1) rfl))) rfl)
    · simp only [put, ev, get, vw, rdV, Option.bind_some, o2D, int2, hpow, if_true, ltD, show (10 : Int) ^ (18 : Int).toNat = 1000000000000000000 by decide, decide_eq_false hc]
    · simp [m1, m2]
    · simp only [evI, ev, Option.bind_some, rng_of (lo := 0) (hi := 4) (by decide) (by decide) (by decide) (by decide), if_true]
theorem draws_fill (sc : D) (many : Nat) (hm : many ≤ 10000) (l : List Int) (i : Nat) (hi : i < many) (hl : DrOk l) (h1 : l.length ≤ 3780 + i) (h2 : min i many ≤ l.length) (x3 x5 x6 z7 : Sl) :
    ∃ (l' : List Int) (y7 : Sl), exs [] [] b__law_draws_4 [.val sc, .val (.int many), .own (l.map .int), x3, .val (.int (0 + (i : Int))), x5, x6, z7] = some (.next [.val sc, .val (.int many), .own (l'.map .int), x3, .val (.int (0 + (i : Int))), x5, x6, y7]) ∧ DrOk l' ∧ l'.length ≤ 3780 + (i + 1) ∧ min (i + 1) many ≤ l'.length := by
  by_cases hc : l.length < many
  · have hs : l.length < sizeLine := by rw [sizeLine_eq]; omega
    have m2 : mulOk 31 (l.length : Int) = true := mulOk_bd (by decide) (by decide) (by omega) (by omega)
    have t1 : ∀ z, ev [] [] (.o2 .lt (.scal (.o1 .len (.var 2))) (.var 1)) [.val sc, .val (.int many), .own (l.map .int), x3, .val (.int (0 + (i : Int))), x5, x6, z] = some (.bool true) := fun z => by simp [hc]
    by_cases h0 : l.length = 0
    · have e0 : l = [] := List.eq_nil_of_length_eq_zero h0
      subst e0
      have m1 : mulOk 0 16807 = true := mulOk_bd (by decide) (by decide) (by decide) (by decide)
      refine ⟨[(17 : Int)], .val (.int 0), exs_step (ex_then (t1 _) (exs_step (ex_set rfl) (exs_step (ex_else (by simp) rfl) ?_))) rfl, fun y hy => ?_, by simp; omega, by simp at h2 ⊢; omega⟩
      · have m3 : mulOk 31 0 = true := mulOk_bd (by decide) (by decide) (by decide) (by decide)
        simp [m1, m3, sizeLine_eq]
      · rw [List.mem_singleton.mp hy]; decide
    · have hp : 0 < l.length := by omega
      have hm : (0 + (i : Int)).fmod (l.length : Int) = ((i % l.length : Nat) : Int) := by
        rw [Int.fmod_eq_emod_of_nonneg _ (by omega), Int.zero_add]; rfl
      have hlt := Nat.mod_lt i hp
      have ha : atI l ((i % l.length : Nat) : Int) = some (l[i % l.length]) := atI_nat (List.getElem?_eq_getElem hlt)
      have hx := hl _ (List.getElem_mem hlt)
      have m1 : mulOk (l[i % l.length]) 16807 = true := mulOk_bd (by omega) (by omega) (by decide) (by decide)
      have hne : (l.length : Int) ≠ 0 := by omega
      refine ⟨l ++ [(l[i % l.length] * 16807 + 31 * (l.length : Int) + 17).fmod 1000003], .val (.int (l[i % l.length])), ?_, hl.add (fmod_bd _ (by decide)).1 (fmod_bd _ (by decide)).2, by simp; omega, by simp; omega⟩
      refine exs_step (ex_then (t1 _) (exs_step (ex_set rfl) (exs_step (ex_then (by simp [hp]) (exs_step (ex_set (d := .int (l[i % l.length])) ?_) rfl)) ?_))) rfl
      · simp only [ev, get, vw, rdV, Option.bind_some, o2D, int2, frzAll, List.map_cons, List.map_nil, fz, o1D, isScalar, if_true, List.length_map, hne, ne_eq, not_false_eq_true, hm, ixD, atI_map, ha, Option.map_some, put]
      · simp [m1, m2, hs]
  · refine ⟨l, z7, exs_step (ex_else (by simp [hc]) rfl) rfl, hl, by omega, by omega⟩
theorem e_draws (ns : List Int) (many : Nat) (hm : many ≤ 10000) : ∃ l : List Int, l.length = many ∧ DrOk l ∧ s__law_draws [scr ns, .int many] = some (.list (l.map .int)) := by
  obtain ⟨s1, f1, l1, x3, x4, x5, x6, x7, g1, g2, g3⟩ := forB_inv (Γ := []) (G := []) (tg := .name 3) (b := b__law_draws_3) (ds := cutL (ns.map PyData.int) none (some 63))
    (fun i s => ∃ (l : List Int) (x3 x4 x5 x6 x7 : Sl), s = [.val (scr ns), .val (.int many), .own (l.map .int), x3, x4, x5, x6, x7] ∧ DrOk l ∧ l.length ≤ 60 * i)
    ⟨[], .no, .no, .no, .no, .no, rfl, (fun _ h => nomatch h), Nat.le_refl _⟩ fun i d s hd ⟨l, x3, x4, x5, x6, x7, e1, e2, e3⟩ => by
      subst e1
      have hi : i < 63 := Nat.lt_of_lt_of_le (List.getElem?_eq_some_iff.mp hd).1 (cut63 ns)
      obtain ⟨c, rfl⟩ : ∃ c : Int, d = .int c := by
        obtain ⟨c, _, e⟩ := List.mem_map.mp (List.mem_of_mem_drop (List.mem_of_mem_take (List.mem_of_getElem? hd)))
        exact ⟨c, e.symm⟩
      obtain ⟨l', y4, y5, y6, k1, k2, k3⟩ := draws_one ns (.int many) l c e2 (by omega) x4 x5 x6 x7
      exact ⟨_, _, rfl, k1, l', _, y4, y5, y6, x7, rfl, k2, by omega⟩
  subst g1
  have hl1 := cut63 ns
  obtain ⟨s2, f2, l2, y4, y7, g4, g5, g6, g7⟩ := forB_inv (Γ := []) (G := []) (tg := .name 4) (b := b__law_draws_4) (ds := rngL 0 many)
    (fun i s => ∃ (l : List Int) (x4 x7 : Sl), s = [.val (scr ns), .val (.int many), .own (l.map .int), x3, x4, x5, x6, x7] ∧ DrOk l ∧ l.length ≤ 3780 + i ∧ min i many ≤ l.length)
    ⟨l1, x4, x7, rfl, g2, by omega, by omega⟩ fun i d s hd ⟨l, z4, z7, e1, e2, e3, e4⟩ => by
      subst e1
      obtain ⟨rfl, hi⟩ := rngL_get hd
      obtain ⟨l', y7, k1, k2, k3, k4⟩ := draws_fill (scr ns) many hm l i (by omega) e2 e3 e4 x3 x5 x6 z7
      exact ⟨_, _, rfl, k1, l', _, y7, rfl, k2, k3, k4⟩
  subst g4
  have hlen : (rngL 0 (many : Int)).length = many := by rw [rngL_len]; omega
  rw [hlen] at g6 g7
  refine ⟨l2.take many, by rw [List.length_take]; omega, fun x hx => g5 x (List.mem_of_mem_take hx), run_ret rfl ?_⟩
  refine exs_step (ex_setF (ds := []) (by simp)) ?_
  refine exs_step (ex_for (ds := cutL (ns.map PyData.int) none (some 63)) (by simp) rfl f1) ?_
  refine exs_step (ex_for (ds := rngL 0 many) ?_ rfl f2) ?_
  · simp only [evI, ev, get, vw, rdV, Option.bind_some, rng_of (lo := 0) (hi := (many : Int)) (by decide) (by decide) (by omega) (by omega), if_true]
  refine exs_ret (ex_return ?_)
  have hcut : cutL (l2.map PyData.int) none (some (many : Int)) = (l2.take many).map PyData.int := by
    unfold cutL
    rw [show HT.sIx (l2.map PyData.int).length (l2.map PyData.int).length (some (many : Int)) = min many (l2.map PyData.int).length from HT.sIx_nat _ _ many, HT.sIx_none, List.drop_zero, List.length_map, ← List.map_take]
    have : min many l2.length - 0 = many := by omega
    rw [this]
  simp only [ev, evF, evO, get, vw, rdV, Option.bind_some, Option.map_some, hcut]
theorem DrOk.get {l : List Int} (h : DrOk l) {i : Nat} (hi : i < l.length) : 0 ≤ l[i] ∧ l[i] < 1000003 := h _ (List.getElem_mem hi)
theorem ne_nil_of {α : Type} {l : List α} (h : 0 < l.length) : l ≠ [] := by
  intro c; subst c; exact absurd h (by simp)
theorem at_draw {l : List Int} (h : DrOk l) (hn : 0 < l.length) {x : Int} (hx : 0 ≤ x) : ∃ v, 0 ≤ v ∧ v < 1000003 ∧ atI l (x.fmod (l.length : Int)) = some v ∧ atI l (x % (l.length : Int)) = some v := by
  obtain ⟨k, rfl⟩ : ∃ k : Nat, x = k := ⟨x.toNat, by omega⟩
  have hlt := Nat.mod_lt k hn
  have hx := h.get hlt
  have ha : atI l ((k % l.length : Nat) : Int) = some (l[k % l.length]) := atI_nat (List.getElem?_eq_getElem hlt)
  exact ⟨_, hx.1, hx.2, by rw [fmod_nat]; exact ha, ha⟩
theorem at_nat {l : List Int} (h : DrOk l) {i : Nat} (hi : i < l.length) : ∃ v, 0 ≤ v ∧ v < 1000003 ∧ atI l (i : Int) = some v :=
  ⟨l[i], (h.get hi).1, (h.get hi).2, atI_nat (List.getElem?_eq_getElem hi)⟩
/-! ### the laws of tiles: reckoning -/
theorem tgcd_loop (a b : Nat) : whB [] [] (.o2 .gt (.var 1) (.lit (.int 0))) b__law_gcd_1 [.val (.int a), .val (.int b)] = some (.next [.val (.int (Nat.gcd a b)), .val (.int 0)]) := by
  induction b using Nat.strongRecOn generalizing a with
  | ind b ih =>
    by_cases h : b = 0
    · subst h
      simpa using whB_false (by simp)
    · have hb : 0 < b := by omega
      have hm : ((a : Int)).fmod b = ((a % b : Nat) : Int) := fmod_nat a b
      refine whB_true (st' := [.val (.int b), .val (.int (a % b : Nat))]) (by simp [hb]) (by simp [b__law_gcd_1, hm, h]) ?_
      rw [ih (a % b) (Nat.mod_lt _ hb) b, Nat.gcd_comm b, ← Nat.gcd_rec, Nat.gcd_comm]
theorem e_law_gcd (a b : Int) : s__law_gcd [.int a, .int b] = some (.int (Nat.gcd a.natAbs b.natAbs)) :=
  run_ret rfl (exs_step (ex_par2 (x := .int a.natAbs) (y := .int b.natAbs) (by simp [abs_eq]) (by simp [abs_eq])) (exs_step (ex_whl (tgcd_loop _ _)) (exs_ret (ex_return rfl))))
theorem nrm_neg {p q s : Int} (h : s ≠ 0) : nrm (-p) (-q) (-s) = nrm p q s := nrm_eq (by omega) h (by grind) (by grind)
def tailS : Sms → Sms
  | .cons _ r => r
  | r => r
theorem norm_tail {n : Nat} {p q s : Int} (h0 : 0 < s) (hs : Sz n s) (e : n < 8000) : exs [s__law_gcd] [] (tailS b__law_norm) [.val (.int p), .val (.int q), .val (.int s), .no] = some (.ret (encL (nrm p q s))) := by
  have hd : d3 p q s = (g3 p q s : Int) := by unfold d3; rw [if_neg (by omega)]
  have k1 := d3_ok (p := p) (q := q) (by omega : s ≠ 0) hs (by omega)
  rw [hd] at k1
  have hg : Nat.gcd (Nat.gcd p.natAbs q.natAbs) s.natAbs = g3 p q s := rfl
  have hb1 : ev [s__law_gcd] [] (.call 0 (.cons (.call 0 (.cons (.o1 .abs (.var 0)) (.cons (.o1 .abs (.var 1)) .nil))) (.cons (.var 2) .nil))) [.val (.int p), .val (.int q), .val (.int s), .no] = some (.int (g3 p q s)) := by
    simp [e_law_gcd, abs_eq, hg]
  refine exs_step (ex_set hb1) (exs_ret (ex_return ?_))
  simp [k1, sizeLine_eq, encL, nrm, hd]
theorem e_law_norm {n : Nat} {p q s : Int} (h : s ≠ 0) (hs : Sz n s) (e : n < 8000) : s__law_norm [.int p, .int q, .int s] = some (encL (nrm p q s)) := by
  by_cases c : s < 0
  · rw [← nrm_neg h]
    exact run_ret rfl (exs_step (st' := [.val (.int (-p)), .val (.int (-q)), .val (.int (-s)), .no]) (ex_then (by simp [c]) (by simp)) (norm_tail (by omega) hs.neg e))
  · exact run_ret rfl (exs_step (st' := [.val (.int p), .val (.int q), .val (.int s), .no]) (ex_else (b := .nil) (by simp [c]) rfl) (norm_tail (by omega) hs e))
theorem e_law_add {n m : Nat} {a b : Ln} (h : Gd n a) (k : Gd m b) (e : n + m < 7999) : s__law_add [encL a, encL b] = some (encL (addL a b)) := by
  have m1 := mulOk_of h.p k.s (by omega)
  have m2 := mulOk_of k.p h.s (by omega)
  have m3 := mulOk_of h.q k.s (by omega)
  have m4 := mulOk_of k.q h.s (by omega)
  have m5 := mulOk_of h.s k.s (by omega)
  have el := e_law_norm (p := a.p * b.s + b.p * a.s) (q := a.q * b.s + b.q * a.s) (ne_mul h.ne k.ne) (h.s.mul k.s) (by omega)
  rw [encL_tu a, encL_tu b]
  simp [s__law_add, b__law_add, m1, m2, m3, m4, m5, el, addL]
theorem e_law_minus {n m : Nat} {a b : Ln} (h : Gd n a) (k : Gd m b) (e : n + m < 7999) : s__law_minus [encL a, encL b] = some (encL (subL a b)) := by
  have e2 := e_law_add h k.neg e
  have e3 : (.tuple [.int (-b.p), .int (-b.q), .int b.s] : D) = encL (negL b) := rfl
  rw [encL_tu b]
  simp [s__law_minus, b__law_minus, sizeLine_eq, e3, e2, subL]
theorem e_law_times {n m : Nat} {d : Int} {a b : Ln} (hd : Sz 6 d) (h : Gd n a) (k : Gd m b) (e : n + m < 7990) : s__law_times [.int d, encL a, encL b] = some (encL (mulL d a b)) := by
  have m1 := mulOk_of h.p k.p (by omega)
  have m2 := mulOk_of hd h.q (by omega)
  have m3 := mulOk_of (hd.mul h.q) k.q (by omega)
  have m4 := mulOk_of h.p k.q (by omega)
  have m5 := mulOk_of h.q k.p (by omega)
  have m6 := mulOk_of h.s k.s (by omega)
  have el := e_law_norm (p := a.p * b.p + d * a.q * b.q) (q := a.p * b.q + a.q * b.p) (ne_mul h.ne k.ne) (h.s.mul k.s) (by omega)
  rw [encL_tu a, encL_tu b]
  simp [s__law_times, b__law_times, m1, m2, m3, m4, m5, m6, el, mulL]
theorem e_law_by {n m : Nat} {d : Int} {a b : Ln} (hd : Sz 6 d) (h : Gd n a) (k : Gd m b) (hn : b.p * b.p - d * b.q * b.q ≠ 0) (e : n + m + m < 7900) : s__law_by [.int d, encL a, encL b] = some (encL (divL d a b)) := by
  have m1 := mulOk_of k.p k.p (by omega)
  have m2 := mulOk_of hd k.q (by omega)
  have m3 := mulOk_of (hd.mul k.q) k.q (by omega)
  have m4 := mulOk_of k.p k.s (by omega)
  have m5 := mulOk_of k.q.neg k.s (by omega)
  have el := e_law_norm (p := b.p * b.s) (q := -b.q * b.s) hn (Sz.sub (n := m + m + 6) ((k.p.mul k.p).mono (by omega)) (((hd.mul k.q).mul k.q).mono (by omega))) (by omega)
  have e4 : nrm (b.p * b.s) (-b.q * b.s) (b.p * b.p - d * b.q * b.q) = invL d b := by
    unfold invL
    rw [show b.p * b.s = b.s * b.p by grind, show -b.q * b.s = -b.s * b.q by grind]
  rw [e4] at el
  have ep := e_law_times hd h (gd_inv hd k hn) (by omega)
  rw [encL_tu b]
  simp [s__law_by, b__law_by, m1, m2, m3, m4, m5, el, ep, divL]
theorem sgI_sq {p q : Int} : 0 ≤ sgI p * sgI q ↔ 0 ≤ p * q := by
  rcases Int.lt_trichotomy p 0 with h | h | h
  · rcases Int.lt_trichotomy q 0 with k | k | k
    · have := Int.mul_pos (show 0 < -p by omega) (show 0 < -q by omega)
      rw [sgI_neg' h, sgI_neg' k]
      constructor
      · intro _; grind
      · intro _; decide
    · subst k; simp [sgI_0]
    · have := Int.mul_pos (show 0 < -p by omega) k
      rw [sgI_neg' h, sgI_pos k]
      constructor
      · intro z; exact absurd z (by decide)
      · intro z; grind
  · subst h; simp [sgI_0]
  · rcases Int.lt_trichotomy q 0 with k | k | k
    · have := Int.mul_pos h (show 0 < -q by omega)
      rw [sgI_pos h, sgI_neg' k]
      constructor
      · intro z; exact absurd z (by decide)
      · intro z; grind
    · subst k; simp [sgI_0]
    · have := Int.mul_pos h k
      rw [sgI_pos h, sgI_pos k]
      constructor
      · intro _; omega
      · intro _; decide
theorem sgI_sum {p q : Int} (h : 0 ≤ p * q) : sgI (sgI p + sgI q) = sgI (p + q) := by
  rcases Int.lt_trichotomy p 0 with hp | hp | hp
  · have hq : q ≤ 0 := by
      refine Int.not_lt.mp fun k => ?_
      have := Int.mul_pos (show 0 < -p by omega) k
      grind
    rw [sgI_neg' (show p + q < 0 by omega), sgI_neg' hp]
    rcases Int.lt_trichotomy q 0 with k | k | k
    · rw [sgI_neg' k]; decide
    · subst k; decide
    · omega
  · subst hp
    rw [sgI_0, Int.zero_add, Int.zero_add]
    rcases Int.lt_trichotomy q 0 with k | k | k
    · rw [sgI_neg' k]; decide
    · subst k; decide
    · rw [sgI_pos k]; decide
  · have hq : 0 ≤ q := by
      refine Int.not_lt.mp fun k => ?_
      have := Int.mul_pos hp (show 0 < -q by omega)
      grind
    rw [sgI_pos (show 0 < p + q by omega), sgI_pos hp]
    rcases Int.lt_trichotomy q 0 with k | k | k
    · omega
    · subst k; decide
    · rw [sgI_pos k]; decide
theorem ev_sg {Γ : List Sem1} {G : List D} {e : Ex} {st : Sto} {x : Int} (h : ev Γ G e st = some (.int x)) : ev Γ G (.o2 .sub (.o1 .int (.o2 .gt e (.lit (.int 0)))) (.o1 .int (.o2 .lt e (.lit (.int 0))))) st = some (.int (sgI x)) := by
  by_cases c1 : 0 < x
  all_goals by_cases c2 : x < 0
  all_goals simp [h, sgI, c1, c2]
theorem e_law_sign {n : Nat} {d : Int} {a : Ln} (hd : NS d) (sd : Sz 6 d) (h : Gd n a) (e : n < 3000) : s__law_sign [.int d, encL a] = some (.int (sgL d a)) := by
  have m2 := mulOk_of h.p h.p (by omega)
  have m3 := mulOk_of sd h.q (by omega)
  have m4 := mulOk_of (sd.mul h.q) h.q (by omega)
  have szs : ∀ x : Int, Sz 6 (sgI x) := by
    intro x
    have : -1 ≤ sgI x ∧ sgI x ≤ 1 := by unfold sgI; split <;> split <;> omega
    have : (2 : Nat) ^ 6 = 64 := by decide
    unfold Sz; omega
  have m5 := mulOk_of (szs a.p) (szs a.q) (by decide)
  have e1 : sgL d a = sgI (vS d a.p a.q) := rfl
  let st : Sto := [.val (.int d), .val (encL a), .val (.int a.p), .val (.int a.q), .val (.int (sgI a.p)), .val (.int (sgI a.q))]
  refine run_ret rfl ?_
  refine exs_step (st' := [.val (.int d), .val (encL a), .val (.int a.p), .val (.int a.q), .no, .no]) (ex_par2 (x := .int a.p) (y := .int a.q) (by simp [encL]) (by simp [encL])) ?_
  refine exs_step (st' := st) (ex_par2 (ev_sg rfl) (ev_sg rfl)) ?_
  by_cases c : 0 ≤ a.p * a.q
  · have c' := sgI_sq.mpr c
    refine exs_ite_ret (by simp [st, m5, c']) (exs_ret (ex_return ?_))
    rw [e1, sg_same hd.pos c, ← sgI_sum c]
    exact ev_sg rfl
  · have c' : ¬ 0 ≤ sgI a.p * sgI a.q := fun z => c (sgI_sq.mp z)
    refine exs_step (st' := st) (ex_else (b := .nil) (by simp [st, m5, c']) rfl) (exs_ret (ex_return ?_))
    by_cases c2 : d * a.q * a.q < a.p * a.p
    · rw [e1, sg_first c c2]
      simp [st, m2, m3, m4, c2, sizeLine_eq]
    · rw [e1, sg_second hd c c2]
      simp [st, m2, m3, m4, c2, sizeLine_eq]
theorem e_law_less {n m : Nat} {d : Int} {a b : Ln} (hd : NS d) (sd : Sz 6 d) (h : Gd n a) (k : Gd m b) (e : n + m < 2900) : s__law_less [.int d, encL a, encL b] = some (.bool (decide (sgL d (subL b a) = 1))) := by
  have t1 := e_law_minus k h (by omega)
  have t2 := e_law_sign hd sd (gd_sub k h) (by omega)
  simp [s__law_less, b__law_less, t1, t2]
def rootsT : List Int := [2, 3, 5, 6, 7, 10, 13, 50]
theorem e_law_root (x : Int) : ∃ d, d ∈ rootsT ∧ s__law_root [.int x] = some (.int d) := by
  have hb := fmod_bd x (m := 8) (by decide)
  obtain ⟨j, hj⟩ : ∃ j : Nat, x.fmod 8 = (j : Int) := ⟨(x.fmod 8).toNat, by omega⟩
  have hjl : j < rootsT.length := by show j < 8; omega
  refine ⟨rootsT[j], List.getElem_mem hjl, ?_⟩
  have hat : atI rootsT (j : Int) = some rootsT[j] := atI_nat (List.getElem?_eq_getElem hjl)
  have hm : atI [PyData.int 2, PyData.int 3, PyData.int 5, PyData.int 6, PyData.int 7, PyData.int 10, PyData.int 13, PyData.int 50] (j : Int) = (atI rootsT (j : Int)).map PyData.int := atI_map PyData.int rootsT (j : Int)
  simp [s__law_root, b__law_root, hj, hm, hat, sizeLine_eq]
theorem rootT_ns {d : Int} (h : d ∈ rootsT) : NS d ∧ Sz 6 d := by
  have : ∀ d ∈ rootsT, (∃ a ∈ [(0 : Int), 1, 2, 3, 4, 5, 6, 7], 0 ≤ a ∧ a * a < d ∧ d < (a + 1) * (a + 1)) ∧ d.natAbs < 2 ^ 6 := by decide
  obtain ⟨⟨a, _, q⟩, z⟩ := this d h
  exact ⟨⟨a, q⟩, z⟩
theorem e_is_number_int (x : Int) : s__law_is_number [.int x] = some (.bool true) := by
  simp [s__law_is_number, b__law_is_number]
theorem e_is_numbers (xs : List Int) : s__law_is_numbers [.list (xs.map .int)] = some (.bool true) := by
  obtain ⟨s1, f1, x, e1⟩ := forB_all (Γ := [s__law_is_number]) (G := []) (tg := .name 1) (b := b__law_is_numbers_1) (ds := xs.map .int) (st := [.val (.list (xs.map .int)), .no])
    (fun s => ∃ x, s = [.val (.list (xs.map .int)), x]) ⟨_, rfl⟩ (by
      rintro v s hv ⟨x, rfl⟩
      obtain ⟨c, hc, rfl⟩ := List.mem_map.mp hv
      refine ⟨_, [.val (.list (xs.map .int)), .val (.int c)], rfl, ?_, ⟨_, rfl⟩⟩
      simp [b__law_is_numbers_1, e_is_number_int])
  subst e1
  refine run_ret rfl (exs_step (ex_else (b := .nil) (by simp) rfl) (exs_step (ex_for rfl rfl f1) (exs_ret (ex_return rfl))))
theorem e_is_length {a : Ln} (h : Nf a) : s__law_is_length [encL a] = some (.bool true) := by
  have t := e_is_numbers [a.p, a.q, a.s]
  simp only [List.map_cons, List.map_nil] at t
  have hg : Nat.gcd (Nat.gcd a.p.natAbs a.q.natAbs) a.s.natAbs = 1 := h.one
  have hs := h.pos
  have hs' : ¬ a.s < 1 := by omega
  rw [encL_tu]
  refine run_ret rfl (exs_step (ex_else (b := .nil) ?_ rfl) (exs_ret (ex_return ?_)))
  · simp [t, hs', sizeLine_eq]
  · have t2 := e_law_gcd (if a.p < 0 then -a.p else a.p) (if a.q < 0 then -a.q else a.q)
    have t3 := e_law_gcd (Nat.gcd a.p.natAbs a.q.natAbs) a.s
    rw [abs_eq, abs_eq] at t2
    simp only [Int.natAbs_natCast] at t2 t3
    rw [hg] at t3
    simp [t2, t3, abs_eq]
theorem cut_ints (xs : List Int) (i j : Nat) (hi : i ≤ j) (hj : j ≤ xs.length) : cutL (xs.map PyData.int) (some (i : Int)) (some (j : Int)) = ((xs.drop i).take (j - i)).map .int := by
  unfold cutL
  rw [List.length_map, HT.sIx_nat, HT.sIx_nat, Nat.min_eq_left (by omega), Nat.min_eq_left (by omega), List.map_take, List.map_drop]
/- three digits of the draws -/
theorem dig3 (xs : List Int) (i : Nat) (hi : i + 3 ≤ xs.length) : ∃ a b c : Int, a ∈ xs ∧ b ∈ xs ∧ c ∈ xs ∧ cutL (xs.map PyData.int) (some (i : Int)) (some ((i : Int) + 3)) = [.int a, .int b, .int c] := by
  have h0 : i < xs.length := by omega
  have h1 : i + 1 < xs.length := by omega
  have h2 : i + 2 < xs.length := by omega
  refine ⟨xs[i], xs[i+1], xs[i+2], List.getElem_mem h0, List.getElem_mem h1, List.getElem_mem h2, ?_⟩
  have := cut_ints xs i (i + 3) (by omega) hi
  rw [show (((i + 3 : Nat)) : Int) = (i : Int) + 3 by omega] at this
  rw [this, List.drop_eq_getElem_cons h0, List.drop_eq_getElem_cons h1, List.drop_eq_getElem_cons h2, show i + 3 - i = 3 by omega]
  rfl
theorem e_law_number (a b c : Int) (r : List D) : ∃ x : Ln, Gd 6 x ∧ s__law_number [.list (.int a :: .int b :: .int c :: r)] = some (encL x) := by
  have h1 := fmod_bd a (m := 13) (by decide)
  have h2 := fmod_bd b (m := 7) (by decide)
  have h3 := fmod_bd c (m := 4) (by decide)
  have e6 : (2 : Nat) ^ 6 = 64 := by decide
  have sp : Sz 6 (a.fmod 13 - 6) := by unfold Sz; omega
  have ss : Sz 6 (1 + c.fmod 4) := by unfold Sz; omega
  by_cases z : 0 < a.fmod 3
  · have m1 : mulOk (b.fmod 7 - 3) 1 = true := mulOk_bd (by omega) (by omega) (by decide) (by decide)
    have sq : Sz 6 ((b.fmod 7 - 3) * 1) := by unfold Sz; omega
    exact ⟨_, gd_nrm (by omega) sp sq ss, by
      have el := e_law_norm (p := a.fmod 13 - 6) (q := (b.fmod 7 - 3) * 1) (s := 1 + c.fmod 4) (by omega) ss (by decide)
      rw [Int.mul_one] at el ⊢
      simp [s__law_number, b__law_number, z, m1, el]⟩
  · have m1 : mulOk (b.fmod 7 - 3) 0 = true := mulOk_bd (by omega) (by omega) (by decide) (by decide)
    have sq : Sz 6 ((b.fmod 7 - 3) * 0) := by unfold Sz; omega
    exact ⟨_, gd_nrm (by omega) sp sq ss, by
      have el := e_law_norm (p := a.fmod 13 - 6) (q := (b.fmod 7 - 3) * 0) (s := 1 + c.fmod 4) (by omega) ss (by decide)
      rw [Int.mul_zero] at el ⊢
      simp [s__law_number, b__law_number, z, m1, el]⟩
theorem e_law_above {d : Int} (hd : NS d) (sd : Sz 6 d) (a b c : Int) (r : List D) : ∃ x : Ln, Gd 6 x ∧ 0 < sgL d x ∧ s__law_above [.int d, .list (.int a :: .int b :: .int c :: r)] = some (encL x) := by
  obtain ⟨x, gx, ex⟩ := e_law_number a b c r
  have t := e_law_sign hd sd gx (by decide)
  have h3 := fmod_bd c (m := 3) (by decide)
  have e6 : (2 : Nat) ^ 6 = 64 := by decide
  have i1 (x : Ln) (i : Int) : ixD (encL x) (.int i) = atI [.int x.p, .int x.q, .int x.s] i := rfl
  by_cases c1 : sgL d x = 0
  · refine ⟨⟨1, 0, 1 + c.fmod 3⟩, ⟨⟨by show (0 : Int) < 1 + c.fmod 3; omega, by simp [g3]⟩, by unfold Sz; show (1 : Int).natAbs < _; decide, by unfold Sz; show (0 : Int).natAbs < _; decide, by unfold Sz; show (1 + c.fmod 3).natAbs < _; omega⟩, ?_, ?_⟩
    · unfold sgL
      rw [twoS_vS, sgI_gt]
      show 0 < vS d 1 0
      simp [vS]
    · simp [-ixD, s__law_above, b__law_above, ex, t, c1, sizeLine_eq]
      simp [encL]
  · by_cases c2 : sgL d x < 0
    · refine ⟨negL x, gx.neg, by rw [sgL_neg]; omega, ?_⟩
      simp [-ixD, s__law_above, b__law_above, ex, t, c1, c2, i1, sizeLine_eq]
      simp [encL, negL]
    · exact ⟨x, gx, by omega, by simp [-ixD, s__law_above, b__law_above, ex, t, c1, c2]⟩
/-! ### the law's tiles -/
theorem e_law_before {n m : Nat} {d : Int} {a b : Tl} (hd : NS d) (sd : Sz 6 d) (h : TOk n m a) (k : TOk n m b) (e : m + m < 2900) : s__law_before [.int d, encT a, encT b] = some (.bool (bef d a b)) := by
  have t1 := e_law_less hd sd h.y k.y e
  have t2 := e_law_less hd sd h.x k.x e
  have q : PyData.eqv (encL a.y) (encL b.y) = decide (a.y = b.y) := eqv_encL _ _
  have i1 (t : Tl) (i : Int) : ixD (encT t) (.int i) = atI [encL t.x, encL t.y, encL t.w, encL t.h] i := rfl
  by_cases c : a.y = b.y
  · have cb : bef d a b = decide (sgL d (subL b.x a.x) = 1) := by unfold bef; rw [if_pos c]
    have cd : decide (a.y = b.y) = true := decide_eq_true c
    simp [-ixD, s__law_before, b__law_before, i1, t2, q, eqOk_encL, cb, cd]
  · have cb : bef d a b = decide (sgL d (subL b.y a.y) = 1) := by unfold bef; rw [if_neg c]
    have cd : decide (a.y = b.y) = false := decide_eq_false c
    simp [-ixD, s__law_before, b__law_before, i1, t1, q, eqOk_encL, cb, cd]
theorem e_in_order {n m : Nat} {d : Int} (hd : NS d) (sd : Sz 6 d) {ts : List Tl} (ht : ∀ t ∈ ts, TOk n m t) (e : m + m < 2900) (hl : ts.length ≤ 100000) : s__law_in_order [.int d, .list (ts.map encT)] = some (.list ((ordO d ts).map encT)) := by
  have step : ∀ (found : List Tl) (t : Tl) (x4 x5 : Sl), (∀ u ∈ found, TOk n m u) → TOk n m t → found.length ≤ 100000 → ∃ y4, exs [s__law_before] [] b__law_in_order_1 [.val (.int d), .val (.list (ts.map encT)), .val (.list (found.map encT)), .val (encT t), x4, x5] = some (.next [.val (.int d), .val (.list (ts.map encT)), .val (.list ((insO d found t).map encT)), .val (encT t), y4, x5]) := by
    intro found t x4 x5 hf hk hlen
    obtain ⟨less, hless⟩ : ∃ less, less = found.filter fun o => !bef d t o := ⟨_, rfl⟩
    have hll : less.length ≤ found.length := by rw [hless]; exact List.length_filter_le _ _
    have hc : evF [s__law_before] [] (fxAt 0 b__law_in_order_1) [.val (.int d), .val (.list (ts.map encT)), .val (.list (found.map encT)), .val (encT t), x4, x5] = some (less.map encT) := by
      refine comp_of (ds := found.map encT) rfl ?_
      rw [hless]
      refine compL_filter_map _ fun o ho => ?_
      have tb := e_law_before hd sd hk (hf o ho) e
      cases cb : bef d t o <;> rw [cb] at tb <;> simp [tb]
    have h1 : o2D .add (.list (less.map encT)) (.list [encT t]) = some (.list (less.map encT ++ [encT t])) := add_list (by simp; omega)
    have h2 : o2D .add (.list (less.map encT ++ [encT t])) (.list ((found.drop less.length).map encT)) = some (.list ((insO d found t).map encT)) := by
      rw [add_list (by simp; omega)]
      unfold insO
      simp only [← hless, List.map_append, List.map_cons, List.map_nil]
    refine ⟨.val (.list (less.map encT)), ?_⟩
    refine exs_step (ex_setF hc) (exs_frz (exs_step (ex_set (ev_o2 (ev_o2 rfl (y := .list [encT t]) (by simp [sizeLine_eq]) h1) (y := .list ((found.drop less.length).map encT)) ?_ h2)) rfl))
    rw [← cut_from encT found less.length hll]
    simp
  obtain ⟨s1, f1, x3, x4, x5, e1⟩ := forB_inv (Γ := [s__law_before]) (G := []) (tg := .name 3) (b := b__law_in_order_1) (ds := ts.map encT) (st := [.val (.int d), .val (.list (ts.map encT)), .val (.list []), .no, .no, .no])
    (fun i s => ∃ x3 x4 x5, s = [.val (.int d), .val (.list (ts.map encT)), .val (.list ((ordO d (ts.take i)).map encT)), x3, x4, x5]) ⟨_, _, _, rfl⟩ (by
      rintro i v s hv ⟨x3, x4, x5, rfl⟩
      rw [List.getElem?_map] at hv
      obtain ⟨t, ht1, rfl⟩ := Option.map_eq_some_iff.mp hv
      obtain ⟨hi, ht2⟩ := List.getElem?_eq_some_iff.mp ht1
      have hmem : t ∈ ts := ht2 ▸ List.getElem_mem hi
      obtain ⟨y4, k⟩ := step (ordO d (ts.take i)) t x4 x5 (fun u hu => ht u (List.mem_of_mem_take (ordO_mem hu))) (ht t hmem) (by rw [ordO_len, List.length_take]; omega)
      refine ⟨_, _, rfl, k, .val (encT t), y4, x5, ?_⟩
      have : ordO d (ts.take (i + 1)) = insO d (ordO d (ts.take i)) t := by
        unfold ordO
        rw [List.take_succ, ht1, List.foldl_append]; rfl
      rw [this])
  subst e1
  rw [List.length_map, List.take_length] at f1
  refine run_ret rfl (exs_step (ex_set (d := .list []) (by simp)) (exs_step (ex_for rfl rfl f1) (exs_ret (ex_return rfl))))
theorem by_root {d : Int} (h : d ∈ rootsT) : divL d ⟨0, 1, 1⟩ ⟨d, 0, 1⟩ = ⟨0, 1, d⟩ := by
  have : ∀ d ∈ rootsT, divL d ⟨0, 1, 1⟩ ⟨d, 0, 1⟩ = ⟨0, 1, d⟩ := by decide +kernel
  exact this d h
def sharesT (d : Int) : List Ln := [⟨1, 0, 2⟩, ⟨1, 0, 3⟩, ⟨2, 0, 3⟩, ⟨3, 0, 4⟩, ⟨0, 1, d⟩, ⟨2, 0, 5⟩]
theorem shares_ok {d : Int} (h : d ∈ rootsT) : ∀ s ∈ sharesT d, Gd 6 s ∧ Gd 6 (subL ⟨1, 0, 1⟩ s) ∧ 0 < sgL d s ∧ 0 < sgL d (subL ⟨1, 0, 1⟩ s) := by
  have key : ∀ d ∈ rootsT, ∀ s ∈ sharesT d, ((0 < s.s ∧ g3 s.p s.q s.s = 1) ∧ s.p.natAbs < 2 ^ 6 ∧ s.q.natAbs < 2 ^ 6 ∧ s.s.natAbs < 2 ^ 6) ∧
      ((0 < (subL ⟨1, 0, 1⟩ s).s ∧ g3 (subL ⟨1, 0, 1⟩ s).p (subL ⟨1, 0, 1⟩ s).q (subL ⟨1, 0, 1⟩ s).s = 1) ∧ (subL ⟨1, 0, 1⟩ s).p.natAbs < 2 ^ 6 ∧ (subL ⟨1, 0, 1⟩ s).q.natAbs < 2 ^ 6 ∧ (subL ⟨1, 0, 1⟩ s).s.natAbs < 2 ^ 6) ∧
      0 < sgL d s ∧ 0 < sgL d (subL ⟨1, 0, 1⟩ s) := by decide +kernel
  intro s hs
  obtain ⟨⟨⟨a1, a2⟩, a3, a4, a5⟩, ⟨⟨b1, b2⟩, b3, b4, b5⟩, c1, c2⟩ := key d h s hs
  exact ⟨⟨⟨a1, a2⟩, a3, a4, a5⟩, ⟨⟨b1, b2⟩, b3, b4, b5⟩, c1, c2⟩
theorem shares_small {d : Int} (h : d ∈ rootsT) : ∀ s ∈ sharesT d, Small d 7 s ∧ Small d 7 (subL ⟨1, 0, 1⟩ s) := by
  have key : ∀ d ∈ rootsT, ∀ s ∈ sharesT d, ((s.p.natAbs : Int) + d * (s.q.natAbs : Int) ≤ 2 ^ 7 ∧ s.s.natAbs ≤ 2 ^ 7) ∧
      (((subL ⟨1, 0, 1⟩ s).p.natAbs : Int) + d * ((subL ⟨1, 0, 1⟩ s).q.natAbs : Int) ≤ 2 ^ 7 ∧ (subL ⟨1, 0, 1⟩ s).s.natAbs ≤ 2 ^ 7) := by decide +kernel
  intro s hs
  obtain ⟨g1, g2, -, -⟩ := shares_ok h s hs
  obtain ⟨⟨a1, a2⟩, b1, b2⟩ := key d h s hs
  exact ⟨⟨g1.nf, a1, a2⟩, ⟨g2.nf, b1, b2⟩⟩
theorem e_halved {n m : Nat} {d : Int} (hr : d ∈ rootsT) {t : Tl} (h : TOk n m t) (u v : Int) (e : m + n < 2000) : ∃ s, s ∈ sharesT d ∧ ∃ ps, (ps = halfX d t s ∨ ps = halfY d t s) ∧ s__law_halved [.int d, encT t, .list [.int u, .int v]] = some (.list (ps.map encT)) := by
  obtain ⟨hd, sd⟩ := rootT_ns hr
  have gd1 : Gd 6 ⟨d, 0, 1⟩ := gd_whl sd (by decide)
  have g01 : Gd 6 ⟨0, 1, 1⟩ := (gd2 (by decide +kernel)).mono (by decide)
  have hp := hd.pos
  have nb : (⟨d, 0, 1⟩ : Ln).p * (⟨d, 0, 1⟩ : Ln).p - d * (⟨d, 0, 1⟩ : Ln).q * (⟨d, 0, 1⟩ : Ln).q ≠ 0 := by
    have := Int.mul_pos hp hp
    show d * d - d * 0 * 0 ≠ 0
    grind
  have tb := e_law_by sd g01 gd1 nb (by decide)
  rw [by_root hr] at tb
  have hb := fmod_bd u (m := 6) (by decide)
  obtain ⟨j, hj⟩ : ∃ j : Nat, u.fmod 6 = (j : Int) := ⟨(u.fmod 6).toNat, by omega⟩
  have hjl : j < (sharesT d).length := by show j < 6; omega
  obtain ⟨s, hs⟩ : ∃ s, s = (sharesT d)[j] := ⟨_, rfl⟩
  have hmem : s ∈ sharesT d := hs ▸ List.getElem_mem hjl
  obtain ⟨gs, g1, -, -⟩ := shares_ok hr s hmem
  have hat : atI (sharesT d) (j : Int) = some s := atI_nat (by rw [List.getElem?_eq_getElem hjl, hs])
  have hm : atI [encL ⟨1, 0, 2⟩, encL ⟨1, 0, 3⟩, encL ⟨2, 0, 3⟩, encL ⟨3, 0, 4⟩, encL ⟨0, 1, d⟩, encL ⟨2, 0, 5⟩] (j : Int) = (atI (sharesT d) (j : Int)).map encL := atI_map encL (sharesT d) (j : Int)
  rw [hat] at hm
  let st : Sto := [.val (.int d), .val (encT t), .val (.list [.int u, .int v]), .val (encL s), .no, .val (encL t.x), .val (encL t.y), .val (encL t.w), .val (encL t.h)]
  refine ⟨s, hmem, ?_⟩
  have tw := e_law_times sd h.w gs (by omega)
  have th := e_law_times sd h.h gs (by omega)
  have hw1 := gd_mul sd h.w gs
  have hh1 := gd_mul sd h.h gs
  have aw := e_law_add h.x hw1 (by omega)
  have ah := e_law_add h.y hh1 (by omega)
  have mw := e_law_minus h.w hw1 (by omega)
  have mh := e_law_minus h.h hh1 (by omega)
  have start : ∀ o, exs [s__law_by, s__law_times, s__law_minus, s__law_add] [] (tailS (tailS b__law_halved)) st = o → exs [s__law_by, s__law_times, s__law_minus, s__law_add] [] b__law_halved [.val (.int d), .val (encT t), .val (.list [.int u, .int v]), .no, .no, .no, .no, .no, .no] = o := by
    intro o ho
    refine exs_step (ex_set (d := encL s) ?_) (exs_step (st' := st) ?_ ho)
    · simp only [encL] at tb hm
      simp [tb, hj, hm, sizeLine_eq, encL]
    · simp [st, encT]
  by_cases c : v.fmod 2 = 0
  · refine ⟨halfX d t s, Or.inl rfl, run_ret rfl (start _ (exs_ite_ret ?_ (exs_step (ex_set (ev_call (f := s__law_times) rfl rfl tw)) (exs_ret (ex_return ?_)))))⟩
    · simp [st, c]
    · simp [st, aw, mw, halfX, encT, sizeLine_eq]
  · refine ⟨halfY d t s, Or.inr rfl, run_ret rfl (start _ (exs_step (st' := st) (ex_else (b := .nil) ?_ rfl) (exs_step (ex_set (ev_call (f := s__law_times) rfl rfl th)) (exs_ret (ex_return ?_)))))⟩
    · simp [st, c]
    · simp [st, ah, mh, halfY, encT, sizeLine_eq]
theorem e_wheel {n m : Nat} {d : Int} (sd : Sz 6 d) {t : Tl} (h : TOk n m t) (e : m + n < 2000) : s__law_wheel [.int d, encT t] = some (.list ((wheelT d t).map encT)) := by
  have g13 : Gd 2 ⟨1, 0, 3⟩ := gd2 (by decide +kernel)
  have g0 : Gd 2 ⟨0, 0, 1⟩ := gd2 (by decide +kernel)
  have g1 : Gd 2 ⟨1, 0, 1⟩ := gd2 (by decide +kernel)
  have g2 : Gd 2 ⟨2, 0, 1⟩ := gd2 (by decide +kernel)
  have tw := e_law_times sd h.w g13 (by omega)
  have th := e_law_times sd h.h g13 (by omega)
  have w3 := gd_mul sd h.w g13
  have h3 := gd_mul sd h.h g13
  let W := mulL d t.w ⟨1, 0, 3⟩
  let H := mulL d t.h ⟨1, 0, 3⟩
  let TH : Sl := .val (.list [encL W, encL H])
  have one : ∀ (a b c k : Int), Gd 2 ⟨a, 0, 1⟩ → Gd 2 ⟨b, 0, 1⟩ → Gd 2 ⟨c, 0, 1⟩ → Gd 2 ⟨k, 0, 1⟩ → ∀ (found : List D) (x12 x13 : Sl), found.length < 1000 →
      exs [s__law_times, s__law_add] [] b__law_wheel_1 [.val (.int d), .val (encT t), TH, .own found, .val (encL t.x), .val (encL t.y), .val (encL t.w), .val (encL t.h), .val (.int a), .val (.int b), .val (.int c), .val (.int k), x12, x13] =
      some (.next [.val (.int d), .val (encT t), TH, .own (found ++ [encT (wheelAt d t a b c k)]), .val (encL t.x), .val (encL t.y), .val (encL t.w), .val (encL t.h), .val (.int a), .val (.int b), .val (.int c), .val (.int k), .val (encL (mulL d W ⟨a, 0, 1⟩)), .val (encL (mulL d H ⟨b, 0, 1⟩))]) := by
    intro a b c k ga gb gc gk found x12 x13 hf
    have hlt : found.length < 16777216 := by omega
    have q1 := e_law_times sd w3 ga (by omega)
    have q2 := e_law_times sd h3 gb (by omega)
    have q3 := e_law_times sd w3 gc (by omega)
    have q4 := e_law_times sd h3 gk (by omega)
    have q5 := e_law_add h.x (gd_mul sd w3 ga) (by omega)
    have q6 := e_law_add h.y (gd_mul sd h3 gb) (by omega)
    have ew (x : Int) : (.tuple [.int x, .int 0, .int 1] : D) = encL ⟨x, 0, 1⟩ := rfl
    refine exs_step (ex_par2 (x := encL (mulL d W ⟨a, 0, 1⟩)) (y := encL (mulL d H ⟨b, 0, 1⟩)) (by simp [TH, ew, W, q1, sizeLine_eq]) (by simp [TH, ew, H, q2, sizeLine_eq])) ?_
    simp [TH, ew, W, H, q3, q4, q5, q6, wheelAt, encT, sizeLine_eq, hlt]
  have fin : forB [s__law_times, s__law_add] [] (.tup [8, 9, 10, 11]) b__law_wheel_1 [.tuple [.int 0, .int 0, .int 2, .int 1], .tuple [.int 2, .int 0, .int 1, .int 2], .tuple [.int 1, .int 2, .int 2, .int 1], .tuple [.int 0, .int 1, .int 1, .int 2], .tuple [.int 1, .int 1, .int 1, .int 1]]
      [.val (.int d), .val (encT t), TH, .own [], .val (encL t.x), .val (encL t.y), .val (encL t.w), .val (encL t.h), .no, .no, .no, .no, .no, .no] =
      some (.next [.val (.int d), .val (encT t), TH, .own ((wheelT d t).map encT), .val (encL t.x), .val (encL t.y), .val (encL t.w), .val (encL t.h), .val (.int 1), .val (.int 1), .val (.int 1), .val (.int 1), .val (encL (mulL d W ⟨1, 0, 1⟩)), .val (encL (mulL d H ⟨1, 0, 1⟩))]) :=
    forB_cons rfl (one 0 0 2 1 g0 g0 g2 g1 _ _ _ (by simp)) (forB_cons rfl (one 2 0 1 2 g2 g0 g1 g2 _ _ _ (by simp)) (forB_cons rfl (one 1 2 2 1 g1 g2 g2 g1 _ _ _ (by simp)) (forB_cons rfl (one 0 1 1 2 g0 g1 g1 g2 _ _ _ (by simp)) (forB_cons rfl (one 1 1 1 1 g1 g1 g1 g1 _ _ _ (by simp)) rfl))))
  refine run_ret rfl ?_
  refine exs_step (st' := [.val (.int d), .val (encT t), .no, .no, .val (encL t.x), .val (encL t.y), .val (encL t.w), .val (encL t.h), .no, .no, .no, .no, .no, .no]) (by simp [encT]) ?_
  refine exs_step (st' := [.val (.int d), .val (encT t), TH, .no, .val (encL t.x), .val (encL t.y), .val (encL t.w), .val (encL t.h), .no, .no, .no, .no, .no, .no]) ?_ ?_
  · have e13 : (.tuple [.int 1, .int 0, .int 3] : D) = encL ⟨1, 0, 3⟩ := rfl
    simp [TH, e13, tw, th, W, H, sizeLine_eq]
  refine exs_step (ex_setF (ds := []) (by simp)) ?_
  exact exs_step (ex_for (by simp [sizeLine_eq]) rfl fin) (exs_frz (exs_ret (ex_return rfl)))
theorem e_sheet {d : Int} (hd : NS d) (sd : Sz 6 d) (xs : List Int) (hl : 6 ≤ xs.length) : ∃ w h : Ln, Gd 6 w ∧ Gd 6 h ∧ 0 < sgL d w ∧ 0 < sgL d h ∧ s__law_sheet [.int d, .list (xs.map .int)] = some (.tuple [encL w, encL h]) := by
  obtain ⟨a, b, c, -, -, -, k1⟩ := dig3 xs 0 (by omega)
  obtain ⟨a', b', c', -, -, -, k2⟩ := dig3 xs 3 (by omega)
  obtain ⟨w, gw, sw, ew⟩ := e_law_above hd sd a b c []
  obtain ⟨h, gh, sh, eh⟩ := e_law_above hd sd a' b' c' []
  have k1' : cutL (xs.map PyData.int) (some 0) (some 3) = [.int a, .int b, .int c] := k1
  have k2' : cutL (xs.map PyData.int) (some 3) (some 6) = [.int a', .int b', .int c'] := k2
  exact ⟨w, h, gw, gh, sw, sh, by simp [s__law_sheet, b__law_sheet, k1', k2', ew, eh, sizeLine_eq]⟩
theorem e_copied (ts : List Tl) : s__law_copied [.list (ts.map encT)] = some (.list (ts.map encT)) := by
  have hc : evF [] [] (.comp (.o1 .tuple (.var 1)) (.name 1) (.seq (.var 0)) .no [1]) [.val (.list (ts.map encT)), .no] = some (ts.map encT) := by
    refine comp_of (ds := ts.map encT) rfl ?_
    have := compL_map_map (f := fun d => (bindTg (.name 1) d (wipeS [.val (.list (ts.map encT)), .no] [1])).bind fun st1 => (evC [] [] .no st1).bind fun b => if b then (ev [] [] (.o1 .tuple (.var 1)) st1).map some else some none) (enc := encT) (enc2 := encT) (xs := ts) id (fun t _ => by simp [encT])
    rw [this, List.map_id]
  exact run_ret rfl (exs_ret (ex_return (ev_fr hc)))
theorem e_tiles {d : Int} (hr : d ∈ rootsT) {w h : Ln} (gw : Gd 6 w) (gh : Gd 6 h) (xs : List Int) (hx : ∀ x ∈ xs, 0 ≤ x ∧ x < 1000003) (hn : xs.length = 6) (many : Nat) (hm : many ≤ 9) :
    ∃ ts, CutT (sharesT d) d w h many ts ∧ s__law_tiles [.int d, .tuple [encL w, encL h], .list (xs.map .int), .int many] = some (.list ((ordO d ts).map encT)) := by
  obtain ⟨hd, sd⟩ := rootT_ns hr
  have hS := shares_small hr
  let TLn : List Sem1 := [s__law_halved, s__law_wheel, s__law_in_order]
  let A : Sto := [.val (.int d), .val (.tuple [encL w, encL h]), .val (.list (xs.map .int)), .val (.int many)]
  have hlen : (xs.map PyData.int).length = 6 := by rw [List.length_map, hn]
  obtain ⟨s1, f1, ts, x5, x6, x7, x8, ct, e1⟩ := forB_inv (Γ := TLn) (G := []) (tg := .name 5) (b := b__law_tiles_1) (ds := rngL 0 many) (st := A ++ [.val (.list ([(⟨⟨0, 0, 1⟩, ⟨0, 0, 1⟩, w, h⟩ : Tl)].map encT)), .no, .no, .no, .no])
    (fun i s => ∃ (ts : List Tl) (x5 x6 x7 x8 : Sl), CutT (sharesT d) d w h i ts ∧ s = A ++ [.val (.list (ts.map encT)), x5, x6, x7, x8]) ⟨_, _, _, _, _, .start, rfl⟩ (by
      rintro i v s hv ⟨ts, x5, x6, x7, x8, ct, rfl⟩
      obtain ⟨hv1, hi⟩ := rngL_get hv
      obtain rfl : v = .int i := by rw [hv1]; congr 1; omega
      obtain ⟨l1, l2⟩ := ct.len
      have tok := ct.ok hd.pos hS gw gh
      have hi9 : i ≤ 9 := by omega
      have hii : i * i ≤ 81 := Nat.mul_le_mul hi9 hi9
      -- the digit
      have hj := Nat.mod_lt i (show 0 < xs.length by omega)
      obtain ⟨u, hu⟩ : ∃ u, u = xs[i % xs.length] := ⟨_, rfl⟩
      have ub := hx u (hu ▸ List.getElem_mem hj)
      have ha : atI xs ((i : Int).fmod 6) = some u := by
        have := fmod_nat i xs.length
        rw [hn] at this
        rw [show ((i : Int).fmod 6) = ((i % xs.length : Nat) : Int) by rw [hn]; exact this, hu]
        exact atI_nat (List.getElem?_eq_getElem hj)
      have d6 : dvOk 6 = true := by decide
      have q6 : (i : Int).fdiv 6 = (i / 6 : Nat) := by
        rw [Int.fdiv_eq_ediv_of_nonneg _ (by decide)]; rfl
      have dk : dvOk (1 + (i : Int).fdiv 6) = true := by
        rw [q6]
        exact dv_of (by omega) (by omega) (by omega)
      obtain ⟨g, hg⟩ : ∃ g, g = u.fdiv (1 + (i : Int).fdiv 6) := ⟨_, rfl⟩
      have tl0 : (ts.length : Int) ≠ 0 := by omega
      have hb := fmod_bd g (m := (ts.length : Int)) (by omega)
      obtain ⟨a, hA⟩ : ∃ a : Nat, g.fmod ts.length = a := ⟨(g.fmod ts.length).toNat, by omega⟩
      have hal : a < ts.length := by omega
      have hat : ts = ts.take a ++ ts[a] :: ts.drop (a + 1) := by
        rw [← List.drop_eq_getElem_cons hal, List.take_append_drop]
      have hAt : atI (ts.map encT) (a : Int) = some (encT ts[a]) := atI_nat (by rw [List.getElem?_map, List.getElem?_eq_getElem hal]; rfl)
      have k1 := tok ts[a] (List.getElem_mem hal)
      obtain ⟨sh, hsh, ps, hps, eh⟩ := e_halved hr k1 (g.fdiv 7) (g.fdiv 50) (by omega)
      have ew := e_wheel sd k1 (by omega)
      have d7 : dvOk 7 = true := by decide
      have d50 : dvOk 50 = true := by decide
      have d11 : dvOk 11 = true := by decide
      have hne : ts ≠ [] := ne_nil_of (by omega)
      have ha2 : atI xs ((i : Int) % 6) = some u := by
        rw [← Int.fmod_eq_emod_of_nonneg _ (by decide)]; exact ha
      have q6' : (i : Int).fdiv 6 = (i : Int) / 6 := Int.fdiv_eq_ediv_of_nonneg _ (by decide)
      have dk2 : dvOk (1 + (i : Int) / 6) = true := by rw [← q6']; exact dk
      have hg2 : u.fdiv (1 + (i : Int) / 6) = g := by rw [← q6', ← hg]
      have hAt' : atI ts (a : Int) = some ts[a] := atI_nat (List.getElem?_eq_getElem hal)
      have last : ∀ qs : List Tl, qs.length ≤ 5 → exs TLn [] (tailS (tailS (tailS (tailS b__law_tiles_1)))) (A ++ [.val (.list (ts.map encT)), .val (.int i), .val (.int g), .val (.int a), .val (.list (qs.map encT))]) = some (.next (A ++ [.val (.list ((ts.take a ++ ts.drop (a + 1) ++ qs).map encT)), .val (.int i), .val (.int g), .val (.int a), .val (.list (qs.map encT))])) := by
        intro qs hq
        have b1 : o2D .add (.list ((ts.take a).map encT)) (.list ((ts.drop (a + 1)).map encT)) = some (.list ((ts.take a).map encT ++ (ts.drop (a + 1)).map encT)) := add_list (by simp; omega)
        have b2 : o2D .add (.list ((ts.take a).map encT ++ (ts.drop (a + 1)).map encT)) (.list (qs.map encT)) = some (.list ((ts.take a ++ ts.drop (a + 1) ++ qs).map encT)) := by
          rw [add_list (by simp; omega), List.map_append, List.map_append]
        refine exs_step (ex_set (ev_o2 (ev_o2 (x := .list ((ts.take a).map encT)) (y := .list ((ts.drop (a + 1)).map encT)) ?_ ?_ b1) (y := .list (qs.map encT)) rfl b2)) rfl
        · rw [← cut_to encT ts a (by omega)]
          simp [A]
        · rw [← cut_from encT ts (a + 1) (by omega)]
          simp [A]
      have go : ∀ qs : List Tl, qs.length ≤ 5 → exs TLn [] (tailS (tailS (tailS b__law_tiles_1))) (A ++ [.val (.list (ts.map encT)), .val (.int i), .val (.int g), .val (.int a), .val (.list (ps.map encT))]) = exs TLn [] (tailS (tailS (tailS (tailS b__law_tiles_1)))) (A ++ [.val (.list (ts.map encT)), .val (.int i), .val (.int g), .val (.int a), .val (.list (qs.map encT))]) →
          exs TLn [] b__law_tiles_1 (A ++ [.val (.list (ts.map encT)), .val (.int i), x6, x7, x8]) = some (.next (A ++ [.val (.list ((ts.take a ++ ts.drop (a + 1) ++ qs).map encT)), .val (.int i), .val (.int g), .val (.int a), .val (.list (qs.map encT))])) := by
        intro qs hq hgo
        refine exs_step (ex_set (d := .int g) ?_) (exs_step (ex_set (d := .int a) ?_) (exs_step (ex_set (ev_call (f := s__law_halved) (ds := [.int d, encT ts[a], .list [.int (g.fdiv 7), .int (g.fdiv 50)]]) ?_ rfl eh)) (hgo.trans (last qs hq))))
        · simp [A, hn, ha, ha2, d6, dk, dk2, hg.symm, hg2]
        · simp [A, hne, hA]
        · simp [A, hAt', d7, d50, sizeLine_eq]
      have psl : ps.length ≤ 5 := by rcases hps with z | z <;> subst z <;> simp [halfX, halfY]
      have fin1 : (∃ s, s ∈ sharesT d ∧ (ps = halfX d ts[a] s ∨ ps = halfY d ts[a] s)) ∨ ps = wheelT d ts[a] := Or.inl ⟨sh, hsh, hps⟩
      rw [hat] at ct
      by_cases c : (g.fdiv 11).fmod 5 = 3 ∧ (ts.length : Int) < 9
      · refine ⟨_, _, rfl, go (wheelT d ts[a]) (by simp [wheelT]) (exs_step (ex_then ?_ (exs_step (ex_set (ev_call (f := s__law_wheel) (ds := [.int d, encT ts[a]]) ?_ rfl ew)) rfl)) rfl), _, _, _, _, _, CutT.step _ _ _ _ ct (Or.inr rfl), rfl⟩
        · simp [A, d11, c.1, c.2]
        · simp [A, hAt']
      · refine ⟨_, _, rfl, go ps psl (exs_step (ex_else (b := .nil) ?_ rfl) rfl), _, _, _, _, _, CutT.step _ _ _ _ ct fin1, rfl⟩
        by_cases c1 : (g.fdiv 11).fmod 5 = 3
        · have c2 : ¬ (ts.length : Int) < 9 := fun z => c ⟨c1, z⟩
          simp [A, d11, c1, c2]
        · simp [A, d11, c1])
  subst e1
  have hrl : (rngL 0 (many : Int)).length = many := by rw [rngL_len]; omega
  rw [hrl] at ct
  have tok := ct.ok hd.pos hS gw gh
  obtain ⟨l1, l2⟩ := ct.len
  have hmm : many * many ≤ 81 := Nat.mul_le_mul hm hm
  have eo := e_in_order hd sd tok (by omega) (by omega)
  refine ⟨ts, ct, run_ret rfl ?_⟩
  have ez : (.tuple [.int 0, .int 0, .int 1] : D) = encL ⟨0, 0, 1⟩ := rfl
  refine exs_step (ex_set (d := .list ([(⟨⟨0, 0, 1⟩, ⟨0, 0, 1⟩, w, h⟩ : Tl)].map encT)) ?_) (exs_step (ex_for (ds := rngL 0 many) ?_ rfl f1) (exs_ret (ex_return (ev_call (f := s__law_in_order) rfl rfl eo))))
  · simp [ez, encT, sizeLine_eq]
  · have hrg : rngOk 0 (many : Int) = true := rng_of (by decide) (by decide) (by omega) (by omega)
    simp [hrg]
theorem e_sign_of_number (x : Int) : s_sign_of_number [.int x] = some (.int (sgI x)) := by
  by_cases c1 : 0 < x
  all_goals by_cases c2 : x < 0
  all_goals simp [s_sign_of_number, b_sign_of_number, sgI, c1, c2]
theorem e_sign_of {n : Nat} {d : Int} {a : Ln} (hd : NS d) (sd : Sz 6 d) (h : Gd n a) (e : n < 3000) : s_sign_of [.int d, encL a] = some (.int (sgL d a)) := by
  have m1 := mulOk_of h.p h.q (by omega)
  have m2 := mulOk_of h.p h.p (by omega)
  have m3 := mulOk_of sd h.q (by omega)
  have m4 := mulOk_of (sd.mul h.q) h.q (by omega)
  have e1 : sgL d a = sgI (vS d a.p a.q) := rfl
  rw [encL_tu]
  by_cases c1 : 0 ≤ a.p * a.q
  · have := e_sign_of_number (a.p + a.q)
    rw [e1, sg_same hd.pos c1]
    simp [s_sign_of, b_sign_of, m1, this, c1]
  · by_cases c2 : d * a.q * a.q < a.p * a.p
    · have := e_sign_of_number a.p
      rw [e1, sg_first c1 c2]
      simp [s_sign_of, b_sign_of, m1, m2, m3, m4, this, c1, c2]
    · have := e_sign_of_number a.q
      rw [e1, sg_second hd c1 c2]
      simp [s_sign_of, b_sign_of, m1, m2, m3, m4, this, c1, c2]
theorem e_compare {n m : Nat} {d : Int} {a b : Ln} (hd : NS d) (sd : Sz 6 d) (h : Gd n a) (k : Gd m b) (e : n + m < 2900) : s_compare [.int d, encL a, encL b] = some (.int (sgL d (subL a b))) := by
  have e1 := e_minus h k (by omega)
  have e2 := e_sign_of hd sd (gd_sub h k) (by omega)
  simp [s_compare, b_compare, e1, e2]
def leanL (d : Int) (a : Ln) : Ln := divL d (twinL a) a
def crossL (d : Int) (a b : Ln) : Ln := subL (mulL d a (twinL b)) (mulL d b (twinL a))
theorem gd_div {n m : Nat} {d : Int} (hd : NS d) (sd : Sz 6 d) {a b : Ln} (h : Gd n a) (k : Gd m b) (nz : b ≠ ⟨0, 0, 1⟩) : Gd (n + m + m + 14) (divL d a b) := (gd_mul sd h (gd_inv sd k (norm_ne hd k.nf nz))).mono (by omega)
theorem gd_cross {n m : Nat} {d : Int} (sd : Sz 6 d) {a b : Ln} (h : Gd n a) (k : Gd m b) : Gd (n + m + n + m + 15) (crossL d a b) := (gd_sub (gd_mul sd h k.twin) (gd_mul sd k h.twin)).mono (by omega)
def encPr (p : Ln × Ln) : D := .tuple [encL p.1, encL p.2]
def encPs : Option (List (Ln × Ln)) → D
  | none => .none
  | some l => .list (l.map encPr)
/- the parts of a shape for two shapes -/
def parts2 (d : Int) (a b x : Ln) : Option (List (Ln × Ln)) :=
  if crossL d a b = ⟨0, 0, 1⟩ then (if (divL d x a).q = 0 then some [(divL d x a, a)] else none)
  else if sgL d (subL (leanL d b) (leanL d a)) = -1 then some [(divL d (crossL d x a) (crossL d b a), b), (divL d (crossL d b x) (crossL d b a), a)]
  else some [(divL d (crossL d x b) (crossL d a b), a), (divL d (crossL d a x) (crossL d a b), b)]
theorem lean_cj {D : Dt} {a : QL D} (h : a ≠ 0) : leanL D.d a.v = (QL.cj a / a).v := (QL.v_div (a := QL.cj a) (QL.ne_zero.mp h)).symm
theorem cross_v {D : Dt} (a b : QL D) : crossL D.d a.v b.v = (a * QL.cj b - b * QL.cj a).v := rfl
theorem v_eq0 {D : Dt} {a : QL D} : a.v = ⟨0, 0, 1⟩ ↔ a = 0 := ⟨fun z => QL.ext' z, fun z => congrArg QL.v z⟩
theorem leans_eq {D : Dt} {a b : QL D} (ha : a ≠ 0) (hb : b ≠ 0) : sgL D.d (subL (leanL D.d b.v) (leanL D.d a.v)) = 0 ↔ crossL D.d a.v b.v = ⟨0, 0, 1⟩ := by
  have h1 := QL.mul_inv ha
  have h2 := QL.mul_inv hb
  rw [lean_cj ha, lean_cj hb, cross_v, v_eq0]
  have k : sgL D.d (subL (QL.cj b / b).v (QL.cj a / a).v) = 0 ↔ QL.cj b / b - QL.cj a / a = 0 := by
    constructor
    · intro z; exact QL.zero_of (a := QL.cj b / b - QL.cj a / a) z
    · intro z
      show sgL D.d (QL.cj b / b - QL.cj a / a).v = 0
      rw [z]; show sgL D.d ⟨0, 0, 1⟩ = 0; simp [sgL, twoS, sgI]
  rw [k]
  have e : (QL.cj b / b - QL.cj a / a) * (a * b) = a * QL.cj b - b * QL.cj a := by
    rw [Lean.Grind.Field.div_eq_mul_inv, Lean.Grind.Field.div_eq_mul_inv]
    grind
  constructor
  · intro z; rw [← e, z]; grind
  · intro z; rw [z] at e; grind
theorem cross_anti {D : Dt} (a b : QL D) : crossL D.d a.v b.v = ⟨0, 0, 1⟩ ↔ crossL D.d b.v a.v = ⟨0, 0, 1⟩ := by
  rw [cross_v, cross_v, v_eq0, v_eq0]
  constructor <;> intro h <;> grind
theorem cross_self {D : Dt} (a : QL D) : crossL D.d a.v a.v = ⟨0, 0, 1⟩ := by
  rw [cross_v, v_eq0]; grind
theorem sgL_tri (d : Int) (a : Ln) : sgL d a = -1 ∨ sgL d a = 0 ∨ sgL d a = 1 := by
  unfold sgL sgI
  split <;> split <;> omega
theorem sgL_q0 {d : Int} (hd : NS d) {a : Ln} (h : a.q = 0) : sgL d a = sgI a.p := by
  unfold sgL
  rw [twoS_vS, h]
  unfold vS
  simp
  rcases Int.lt_trichotomy a.p 0 with c | c | c
  · have : a.p * (a.p.natAbs : Int) < 0 := Int.mul_neg_of_neg_of_pos c (by omega)
    unfold sgI
    repeat' split
    all_goals omega
  · rw [c]; rfl
  · have : 0 < a.p * (a.p.natAbs : Int) := Int.mul_pos c (by omega)
    unfold sgI
    repeat' split
    all_goals omega
section
variable {D : Dt}
theorem pos_sg {a : QL D} : 0 < a ↔ 0 < sgL D.d a.v := QL.pos_iff
theorem one_lt0 : (0 : QL D) < 1 := by
  have := (QL.int_lt (D := D) (i := 0) (j := 1)).mpr (by decide)
  exact this
theorem div_pos' {a b : QL D} (h : 0 < a) (k : 0 < b) : 0 < a / b := by
  rw [Lean.Grind.Field.div_eq_mul_inv]
  exact QL.mul_pos' h (QL.inv_pos' k)
end
theorem sg_ne {d : Int} {a : Ln} (h : 0 < sgL d a) : a ≠ ⟨0, 0, 1⟩ := fun z => by
  rw [z] at h
  simp [sgL, twoS, sgI] at h
/-! suiting measures (as in k47) -/
def NBq {D : Dt} (f m l : QL D) : Prop := 0 ≤ f ∧ 0 ≤ l ∧ m * m ≤ 4 * (f * l)
def suQ {D : Dt} (a b c e r t : QL D) : Prop := NBq (a * r) (b * r + c * t) (e * t) ∧ NBq (a * r) (b * t + c * r) (e * t)
theorem suQ_swap {D : Dt} {a b c e r t : QL D} : suQ a c b e r t ↔ suQ a b c e r t := by
  unfold suQ
  rw [show c * r + b * t = b * t + c * r by grind, show c * t + b * r = b * r + c * t by grind]
  exact And.comm
theorem nnq_scale {D : Dt} {x k : QL D} (hk : 0 < k) : 0 ≤ x * k ↔ 0 ≤ x := by
  constructor
  · intro h
    by_cases c : 0 ≤ x
    · exact c
    · have := QL.mul_pos' (a := -x) (b := k) (by grind) hk
      grind
  · intro h
    by_cases c : x = 0
    · subst c; grind
    · have := QL.mul_pos' (a := x) (b := k) (by grind) hk
      grind
theorem NBq_scale {D : Dt} {f m l f' m' l' u w k : QL D} (hu : 0 < u) (hw : 0 < w) (hk : 0 < k) (e1 : f' = f * u) (e2 : l' = l * w) (e3 : 4 * (f' * l') - m' * m' = (4 * (f * l) - m * m) * k) : NBq f' m' l' ↔ NBq f m l := by
  unfold NBq
  rw [e1, e2, nnq_scale hu, nnq_scale hw, ← e1, ← e2]
  have k1 : m' * m' ≤ 4 * (f' * l') ↔ 0 ≤ 4 * (f' * l') - m' * m' := by grind
  have k2 : m * m ≤ 4 * (f * l) ↔ 0 ≤ 4 * (f * l) - m * m := by grind
  rw [k1, k2, e3, nnq_scale hk]
theorem suQ_inv {D : Dt} {a b c e r t i j : QL D} (h : r * i = 1) (k : t * j = 1) : suQ a b c e i j ↔ suQ a b c e r t := by
  have z1 : (1 : QL D) ≠ 0 := Lean.Grind.Field.zero_ne_one.symm
  have hi : i ≠ 0 := fun z => by rw [z] at h; grind
  have hj : j ≠ 0 := fun z => by rw [z] at k; grind
  have hij : i * j ≠ 0 := by
    intro z
    have : (r * i) * (t * j) = 0 := by grind
    rw [h, k] at this
    grind
  have p1 := QL.sq_pos' hi
  have p2 := QL.sq_pos' hj
  have p3 := QL.sq_pos' hij
  unfold suQ
  rw [NBq_scale (f := a * r) (m := b * t + c * r) (l := e * t) p1 p2 p3 (by grind) (by grind) (by grind), NBq_scale (f := a * r) (m := b * r + c * t) (l := e * t) (f' := a * i) (m' := b * j + c * i) (l' := e * j) p1 p2 p3 (by grind) (by grind) (by grind)]
  exact And.comm
theorem sg_eq1 {D : Dt} {x y : QL D} : sgL D.d (subL x.v y.v) = 1 ↔ y < x := by
  rw [QL.lt_sub, QL.pos_iff]
  show _ ↔ 0 < sgL D.d (subL x.v y.v)
  unfold sgL
  rw [sgI_one, sgI_gt]
theorem sgI_m1 {x : Int} : sgI x = -1 ↔ x < 0 := by unfold sgI; split <;> split <;> omega
theorem sgI_lt {x : Int} : sgI x < 0 ↔ x < 0 := by unfold sgI; split <;> split <;> omega
theorem sg_m1 {D : Dt} {x : QL D} : sgL D.d x.v = -1 ↔ ¬ 0 ≤ x := by
  rw [QL.nn_iff]
  unfold sgL
  rw [sgI_m1, sgI_ge]
  omega
theorem sg_lt0 {D : Dt} {x : QL D} : sgL D.d x.v < 0 ↔ ¬ 0 ≤ x := by
  rw [QL.nn_iff]
  unfold sgL
  omega
section
variable {D : Dt} (sd : Sz 6 D.d) {a b c e r : QL D} (ha : Gd 220 a.v) (hb : Gd 220 b.v) (hc : Gd 220 c.v) (he : Gd 220 e.v) (hr : Gd 40 r.v)
def tw {D : Dt} (r : QL D) : QL D := ⟨twinL r.v, r.nf.twin⟩
end
theorem rngL_nat (n : Nat) : rngL 0 (n : Int) = (List.range n).map fun k : Nat => (.int (k : Int) : D) := by
  unfold rngL
  simp
def cellT (d : Int) (w h : Ln) (c r : Nat) : Tl := ⟨mulL d w ⟨c, 0, 1⟩, mulL d h ⟨r, 0, 1⟩, w, h⟩
def rowT (d : Int) (w h : Ln) (cols r : Nat) : List Tl := (List.range cols).map fun c => cellT d w h c r
def gridT (d : Int) (w h : Ln) (cols : Nat) : Nat → List Tl
  | 0 => []
  | r + 1 => gridT d w h cols r ++ rowT d w h cols r
theorem gridT_len (d : Int) (w h : Ln) (cols : Nat) : ∀ r, (gridT d w h cols r).length = cols * r
  | 0 => rfl
  | r + 1 => by
    rw [gridT, List.length_append, gridT_len d w h cols r, rowT, List.length_map, List.length_range, Nat.mul_succ]
theorem gd_whole {k : Int} {n : Nat} (h : Sz n k) : Gd (n + 1) ⟨k, 0, 1⟩ := ⟨nf_whl k, h.mono (by omega), (show (0 : Int).natAbs < 2 ^ (n + 1) from Nat.two_pow_pos _), (show (1 : Int).natAbs < 2 ^ (n + 1) by
  have : 2 ^ (n + 1) = 2 ^ n * 2 := Nat.pow_succ 2 n
  have := Nat.two_pow_pos n
  show 1 < 2 ^ (n + 1)
  omega)⟩
/-! putting tiles in order: merging by pairs of lists -/
theorem neg_sub' {D : Dt} (a b : QL D) : -(a - b) = b - a := by grind
theorem sub_zero_eq {D : Dt} {a b : QL D} (h : a - b = 0) : a = b := by grind
def mergeT (d : Int) : List Tl → List Tl → List Tl
  | [], ys => ys
  | x :: xs, ys => ys.takeWhile (fun y => bef d y x) ++ x :: mergeT d xs (ys.dropWhile (fun y => bef d y x))
def pairM (d : Int) : List (List Tl) → List (List Tl)
  | a :: b :: r => mergeT d a b :: pairM d r
  | l => l
theorem mergeT_len (d : Int) : ∀ xs ys : List Tl, (mergeT d xs ys).length = xs.length + ys.length
  | [], ys => by simp [mergeT]
  | x :: xs, ys => by
    have h := congrArg List.length (List.takeWhile_append_dropWhile (p := fun y => bef d y x) (l := ys))
    rw [List.length_append] at h
    simp only [mergeT, List.length_append, List.length_cons, mergeT_len d xs]
    omega
theorem mergeT_mem (d : Int) : ∀ {xs ys : List Tl} {t : Tl}, t ∈ mergeT d xs ys → t ∈ xs ∨ t ∈ ys
  | [], ys, t, h => .inr h
  | x :: xs, ys, t, h => by
    simp only [mergeT, List.mem_append, List.mem_cons] at h
    rcases h with h | h | h
    · exact .inr (List.takeWhile_subset _ h)
    · exact .inl (by rw [h]; exact List.mem_cons_self)
    · rcases mergeT_mem d h with h | h
      · exact .inl (List.mem_cons_of_mem _ h)
      · exact .inr (List.dropWhile_subset _ h)
section
variable {n m : Nat} {d : Int} (hd : NS d) (sd : Sz 6 d) (e : m + m < 2900)
theorem at_encT (ys : List Tl) (k : Nat) (y : Tl) (h : ys[k]? = some y) : ixD (.list (ys.map encT)) (.int (k : Int)) = some (encT y) := by
  have : atI ys (k : Int) = some y := atI_nat h
  simp [ixD, atI_map, this]
end
def encLs (l : List Tl) : D := .list (l.map encT)
theorem pairM_len (d : Int) : ∀ L : List (List Tl), (pairM d L).length = (L.length + 1) / 2
  | [] => rfl
  | [a] => by simp [pairM]
  | a :: b :: r => by
    simp only [pairM, List.length_cons, pairM_len d r]
    omega
/- the lists of two at a time -/
def twos (d : Int) : List (List Tl) → List (List Tl)
  | a :: b :: r => mergeT d a b :: twos d r
  | _ => []
theorem twos_len (d : Int) : ∀ L : List (List Tl), (twos d L).length = L.length / 2
  | [] => rfl
  | [a] => by simp [twos]
  | a :: b :: r => by
    simp only [twos, List.length_cons, twos_len d r]
    omega
theorem twos_get (d : Int) : ∀ (L : List (List Tl)) (k : Nat), k < L.length / 2 → ∃ a b, L[2 * k]? = some a ∧ L[2 * k + 1]? = some b ∧ (twos d L)[k]? = some (mergeT d a b)
  | [], k, h => by simp at h
  | [a], k, h => by simp at h
  | a :: b :: r, 0, h => ⟨a, b, rfl, rfl, rfl⟩
  | a :: b :: r, k + 1, h => by
    obtain ⟨x, y, h1, h2, h3⟩ := twos_get d r k (by simp at h; omega)
    exact ⟨x, y, by rw [show 2 * (k + 1) = 2 * k + 1 + 1 by omega]; simpa using h1, by rw [show 2 * (k + 1) + 1 = 2 * k + 1 + 1 + 1 by omega]; simpa using h2, by simpa [twos] using h3⟩
theorem pairM_twos (d : Int) : ∀ L : List (List Tl), pairM d L = twos d L ++ (if L.length % 2 = 1 then (match L[L.length - 1]? with | some a => [a] | none => []) else [])
  | [] => rfl
  | [a] => rfl
  | a :: b :: r => by
    rw [pairM, twos, pairM_twos d r, List.cons_append]
    have e : (a :: b :: r).length % 2 = r.length % 2 := by simp; omega
    rw [e]
    by_cases c : r.length % 2 = 1
    · rw [if_pos c, if_pos c]
      have : (a :: b :: r)[(a :: b :: r).length - 1]? = r[r.length - 1]? := by
        have h1 : (a :: b :: r).length - 1 = (r.length - 1) + 1 + 1 := by simp; omega
        rw [h1]; simp
      rw [this]
    · rw [if_neg c, if_neg c]
theorem rs2 (n : Nat) (h : 1 ≤ n) : (Builtin.Range.rangeSize 0 ((n : Int) - 1) 2) = ((n / 2 : Nat) : Int) := by
  unfold Builtin.Range.rangeSize
  rw [if_pos (by decide)]
  split <;> omega
theorem small2 {n : Nat} (h0 : 1 ≤ n) (h1 : n ≤ 100000) : Builtin.Range.small 0 ((n : Int) - 1) 2 = true := by
  unfold Builtin.Range.small
  rw [rs2 n h0]
  simp [Builtin.Range.rangeFitsLong]
  omega
theorem fm2 (x : Int) : x.fmod 2 = x % 2 := Int.fmod_eq_emod_of_nonneg _ (by decide)
theorem atI_endL {α : Type} {L : List α} {a : α} (h : 1 ≤ L.length) (k : L[L.length - 1]? = some a) : atI L (-1) = some a := by
  have : ixN L.length (-1) = some (L.length - 1) := by
    simp [ixN]; omega
  simp [atI, this, k]
section
variable {n m : Nat} {d : Int} (hd : NS d) (sd : Sz 6 d) (e : m + m < 2900)
def totL (L : List (List Tl)) : Nat := (L.map List.length).sum
def okLs (n m : Nat) (L : List (List Tl)) : Prop := ∀ l ∈ L, ∀ t ∈ l, TOk n m t
theorem len_le_tot : ∀ {L : List (List Tl)} {l : List Tl}, l ∈ L → l.length ≤ totL L
  | x :: L, l, h => by
    rcases List.mem_cons.mp h with h | h
    · subst h; simp [totL]
    · have := len_le_tot h
      simp only [totL, List.map_cons, List.sum_cons] at *
      omega
theorem len_le_tot2 : ∀ {L : List (List Tl)} {k : Nat} {a b : List Tl}, L[k]? = some a → L[k + 1]? = some b → a.length + b.length ≤ totL L
  | x :: y :: L, 0, a, b, h1, h2 => by
    cases h1; cases h2
    simp only [totL, List.map_cons, List.sum_cons]; omega
  | x :: L, k + 1, a, b, h1, h2 => by
    have := len_le_tot2 (L := L) (k := k) (by simpa using h1) (by simpa using h2)
    simp only [totL, List.map_cons, List.sum_cons] at *
    omega
theorem pairM_tot (d : Int) : ∀ L : List (List Tl), totL (pairM d L) = totL L
  | [] => rfl
  | [a] => rfl
  | a :: b :: r => by
    have := pairM_tot d r
    simp only [totL, pairM, List.map_cons, List.sum_cons, mergeT_len] at *
    omega
def sortF (d : Int) : Nat → List (List Tl) → List (List Tl)
  | 0, L => L
  | k + 1, L => if 1 < L.length then sortF d k (pairM d L) else L
theorem sortF_tot (d : Int) : ∀ (k : Nat) (L : List (List Tl)), totL (sortF d k L) = totL L
  | 0, L => rfl
  | k + 1, L => by
    simp only [sortF]
    split
    · rw [sortF_tot d k, pairM_tot]
    · rfl
theorem pairM_ok {d : Int} : ∀ {L : List (List Tl)}, okLs n m L → okLs n m (pairM d L)
  | [], h => h
  | [a], h => h
  | a :: b :: r, h => by
    intro l hl t ht
    rcases List.mem_cons.mp hl with hl | hl
    · subst hl
      rcases mergeT_mem d ht with ht | ht
      · exact h a (by simp) t ht
      · exact h b (by simp) t ht
    · exact pairM_ok (L := r) (fun l hl => h l (by simp [hl])) l hl t ht
theorem sortF_len (d : Int) : ∀ (k : Nat) (L : List (List Tl)), L.length ≤ k → (sortF d k L).length ≤ 1
  | 0, L, h => by simp only [sortF]; omega
  | k + 1, L, h => by
    simp only [sortF]
    split
    · exact sortF_len d k _ (by rw [pairM_len]; omega)
    · omega
/- the tiles in order -/
def sortT (d : Int) (ts : List Tl) : List Tl := (sortF d ts.length (ts.map fun t => [t])).flatten
end
/-! the order of tiles -/
structure NfT (t : Tl) : Prop where
  x : Nf t.x
  y : Nf t.y
theorem ql_irr {D : Dt} {a : QL D} (h : a < a) : False := by grind
theorem ql_tri {D : Dt} (a b : QL D) : a < b ∨ a = b ∨ b < a := by grind
theorem ql_tr {D : Dt} {a b c : QL D} (h : a < b) (k : b < c) : a < c := by grind
theorem ql_as {D : Dt} {a b : QL D} (h : a < b) (k : b < a) : False := by grind
theorem ql_ne {D : Dt} {a b : QL D} (h : a < b) : a ≠ b := by grind
theorem lt_sg {d : Int} (hd : NS d) {a b : Ln} (ha : Nf a) (hb : Nf b) : sgL d (subL b a) = 1 ↔ (⟨a, ha⟩ : QL ⟨d, hd⟩) < ⟨b, hb⟩ := by
  rw [QL.lt_sub, QL.pos_iff]
  show _ ↔ 0 < sgL d (subL b a)
  unfold sgL
  rw [sgI_one, sgI_gt]
theorem bef_iff {d : Int} (hd : NS d) {a b : Tl} (ha : NfT a) (hb : NfT b) : bef d a b = true ↔ (⟨a.y, ha.y⟩ : QL ⟨d, hd⟩) < ⟨b.y, hb.y⟩ ∨ (a.y = b.y ∧ (⟨a.x, ha.x⟩ : QL ⟨d, hd⟩) < ⟨b.x, hb.x⟩) := by
  unfold bef
  by_cases c : a.y = b.y
  · rw [if_pos c, decide_eq_true_eq, lt_sg hd ha.x hb.x]
    constructor
    · exact fun h => .inr ⟨c, h⟩
    · rintro (h | h)
      · exact absurd (QL.ext' c) (ql_ne h)
      · exact h.2
  · rw [if_neg c, decide_eq_true_eq, lt_sg hd ha.y hb.y]
    constructor
    · exact fun h => .inl h
    · rintro (h | h)
      · exact h
      · exact absurd h.1 c
theorem bef_as {d : Int} (hd : NS d) {a b : Tl} (ha : NfT a) (hb : NfT b) (h : bef d a b = true) : bef d b a = false := by
  rw [← Bool.not_eq_true]
  intro k
  rcases (bef_iff hd ha hb).mp h with h | ⟨h1, h2⟩ <;> rcases (bef_iff hd hb ha).mp k with k | ⟨k1, k2⟩
  · exact ql_as h k
  · exact ql_ne h (QL.ext' k1.symm)
  · exact ql_ne k (QL.ext' h1.symm)
  · exact ql_as h2 k2
theorem le_iff {d : Int} (hd : NS d) {a b : Tl} (ha : NfT a) (hb : NfT b) : bef d b a = false ↔ bef d a b = true ∨ (a.x = b.x ∧ a.y = b.y) := by
  constructor
  · intro h
    rw [← Bool.not_eq_true, bef_iff hd hb ha] at h
    rw [bef_iff hd ha hb]
    rcases ql_tri (⟨a.y, ha.y⟩ : QL ⟨d, hd⟩) ⟨b.y, hb.y⟩ with k | k | k
    · exact .inl (.inl k)
    · have ky : a.y = b.y := congrArg QL.v k
      rcases ql_tri (⟨a.x, ha.x⟩ : QL ⟨d, hd⟩) ⟨b.x, hb.x⟩ with l | l | l
      · exact .inl (.inr ⟨ky, l⟩)
      · exact .inr ⟨congrArg QL.v l, ky⟩
      · exact absurd (.inr ⟨ky.symm, l⟩) h
    · exact absurd (.inl k) h
  · rintro (h | ⟨h1, h2⟩)
    · exact bef_as hd ha hb h
    · rw [← Bool.not_eq_true, bef_iff hd hb ha]
      rintro (k | ⟨k1, k2⟩)
      · exact ql_ne k (QL.ext' h2.symm)
      · exact ql_ne k2 (QL.ext' h1.symm)
theorem bef_tr {d : Int} (hd : NS d) {a b c : Tl} (ha : NfT a) (hb : NfT b) (hc : NfT c) (h : bef d a b = true) (k : bef d b c = true) : bef d a c = true := by
  rw [bef_iff hd ha hc]
  rcases (bef_iff hd ha hb).mp h with h | ⟨h1, h2⟩ <;> rcases (bef_iff hd hb hc).mp k with k | ⟨k1, k2⟩
  · exact .inl (ql_tr h k)
  · have : (⟨b.y, hb.y⟩ : QL ⟨d, hd⟩) = ⟨c.y, hc.y⟩ := QL.ext' k1
    exact .inl (by rw [← this]; exact h)
  · have : (⟨a.y, ha.y⟩ : QL ⟨d, hd⟩) = ⟨b.y, hb.y⟩ := QL.ext' h1
    exact .inl (by rw [this]; exact k)
  · exact .inr ⟨h1.trans k1, ql_tr h2 k2⟩
theorem le_tr {d : Int} (hd : NS d) {a b c : Tl} (ha : NfT a) (hb : NfT b) (hc : NfT c) (h : bef d b a = false) (k : bef d c b = false) : bef d c a = false := by
  rw [le_iff hd ha hc]
  rcases (le_iff hd ha hb).mp h with h | ⟨h1, h2⟩ <;> rcases (le_iff hd hb hc).mp k with k | ⟨k1, k2⟩
  · exact .inl (bef_tr hd ha hb hc h k)
  · refine .inl ((bef_iff hd ha hc).mpr ?_)
    have e1 : (⟨b.y, hb.y⟩ : QL ⟨d, hd⟩) = ⟨c.y, hc.y⟩ := QL.ext' k2
    have e2 : (⟨b.x, hb.x⟩ : QL ⟨d, hd⟩) = ⟨c.x, hc.x⟩ := QL.ext' k1
    rw [← e1, ← e2]
    rcases (bef_iff hd ha hb).mp h with h | ⟨h1, h2⟩
    · exact .inl h
    · exact .inr ⟨h1.trans k2, h2⟩
  · refine .inl ((bef_iff hd ha hc).mpr ?_)
    have e1 : (⟨a.y, ha.y⟩ : QL ⟨d, hd⟩) = ⟨b.y, hb.y⟩ := QL.ext' h2
    have e2 : (⟨a.x, ha.x⟩ : QL ⟨d, hd⟩) = ⟨b.x, hb.x⟩ := QL.ext' h1
    rw [e1, e2]
    rcases (bef_iff hd hb hc).mp k with k | ⟨k1, k2⟩
    · exact .inl k
    · exact .inr ⟨h2.trans k1, k2⟩
  · exact .inr ⟨h1.trans k1, h2.trans k2⟩
def LeT (d : Int) (a b : Tl) : Prop := bef d b a = false
theorem takeW_imp (p : Tl → Bool) : ∀ (ys : List Tl) {t : Tl}, t ∈ ys.takeWhile p → p t = true
  | [], t, h => by cases h
  | y :: ys, t, h => by
    by_cases c : p y = true
    · rw [List.takeWhile_cons_of_pos c] at h
      rcases List.mem_cons.mp h with h | h
      · rw [h]; exact c
      · exact takeW_imp p ys h
    · rw [List.takeWhile_cons_of_neg c] at h; cases h
theorem mergeT_sorted {d : Int} (hd : NS d) : ∀ (xs ys : List Tl), (∀ t ∈ xs, NfT t) → (∀ t ∈ ys, NfT t) → xs.Pairwise (LeT d) → ys.Pairwise (LeT d) → (mergeT d xs ys).Pairwise (LeT d)
  | [], ys, _, _, _, h => h
  | x :: xs, ys, nx, ny, hx, hy => by
    have sp := List.takeWhile_append_dropWhile (p := fun y => bef d y x) (l := ys)
    have hy' := hy
    rw [← sp, List.pairwise_append] at hy'
    obtain ⟨y1, y2, y3⟩ := hy'
    have x1 : ∀ t, t ∈ xs → LeT d x t := fun t h => List.rel_of_pairwise_cons hx h
    have x2 := (List.pairwise_cons.mp hx).2
    have nxx := nx x List.mem_cons_self
    have nxs : ∀ t ∈ xs, NfT t := fun t ht => nx t (List.mem_cons_of_mem _ ht)
    have nt : ∀ t ∈ ys.takeWhile (fun y => bef d y x), NfT t := fun t ht => ny t (List.takeWhile_subset _ ht)
    have nd : ∀ t ∈ ys.dropWhile (fun y => bef d y x), NfT t := fun t ht => ny t (List.dropWhile_subset _ ht)
    have ih := mergeT_sorted hd xs (ys.dropWhile (fun y => bef d y x)) nxs nd x2 y2
    have tk : ∀ t ∈ ys.takeWhile (fun y => bef d y x), bef d t x = true := fun t ht => takeW_imp (fun y => bef d y x) ys ht
    have xd : ∀ t ∈ ys.dropWhile (fun y => bef d y x), LeT d x t := by
      intro t ht
      match hq : ys.dropWhile (fun y => bef d y x), ht with
      | [], ht => cases ht
      | z :: zs, ht =>
        have hz : bef d z x = false := by
          have := List.head_dropWhile_not (p := fun y => bef d y x) (l := ys) (by rw [hq]; simp)
          simpa [hq] using this
        rcases List.mem_cons.mp ht with ht | ht
        · rw [ht]; exact hz
        · rw [hq] at y2 nd
          exact le_tr hd nxx (nd z List.mem_cons_self) (nd t (List.mem_cons_of_mem _ ht)) hz (List.rel_of_pairwise_cons y2 ht)
    have xm : ∀ t ∈ mergeT d xs (ys.dropWhile (fun y => bef d y x)), LeT d x t ∧ NfT t := by
      intro t ht
      rcases mergeT_mem d ht with h | h
      · exact ⟨x1 t h, nxs t h⟩
      · exact ⟨xd t h, nd t h⟩
    rw [mergeT, List.pairwise_append]
    refine ⟨y1, List.pairwise_cons.mpr ⟨fun t ht => (xm t ht).1, ih⟩, fun a ha b hb => ?_⟩
    have na := nt a ha
    have ax : LeT d a x := bef_as hd na nxx (tk a ha)
    rcases List.mem_cons.mp hb with hb | hb
    · rw [hb]; exact ax
    · exact le_tr hd na nxx (xm b hb).2 ax (xm b hb).1
theorem mergeT_perm (d : Int) : ∀ xs ys : List Tl, (mergeT d xs ys).Perm (xs ++ ys)
  | [], ys => List.Perm.refl _
  | x :: xs, ys => by
    have ih := mergeT_perm d xs (ys.dropWhile (fun y => bef d y x))
    have sp := List.takeWhile_append_dropWhile (p := fun y => bef d y x) (l := ys)
    rw [mergeT]
    refine (List.perm_middle).trans ?_
    rw [List.cons_append]
    refine List.Perm.cons x ?_
    refine (List.Perm.append_left _ ih).trans ?_
    conv => rhs; rw [← sp]
    rw [← List.append_assoc, ← List.append_assoc]
    exact List.Perm.append_right _ List.perm_append_comm
theorem pairM_perm (d : Int) : ∀ L : List (List Tl), (pairM d L).flatten.Perm L.flatten
  | [] => List.Perm.refl _
  | [a] => List.Perm.refl _
  | a :: b :: r => by
    simp only [pairM, List.flatten_cons]
    rw [← List.append_assoc]
    exact List.Perm.append (mergeT_perm d a b) (pairM_perm d r)
theorem sortF_perm (d : Int) : ∀ (k : Nat) (L : List (List Tl)), (sortF d k L).flatten.Perm L.flatten
  | 0, L => List.Perm.refl _
  | k + 1, L => by
    simp only [sortF]
    split
    · exact (sortF_perm d k _).trans (pairM_perm d L)
    · exact List.Perm.refl _
theorem flat_one (ts : List Tl) : (ts.map fun t => [t]).flatten = ts := by
  induction ts with
  | nil => rfl
  | cons t ts ih => simp [ih]
theorem sortT_perm (d : Int) (ts : List Tl) : (sortT d ts).Perm ts := by
  have := sortF_perm d ts.length (ts.map fun t => [t])
  rw [flat_one] at this
  exact this
theorem pairM_sorted {d : Int} (hd : NS d) : ∀ {L : List (List Tl)}, (∀ l ∈ L, (∀ t ∈ l, NfT t) ∧ l.Pairwise (LeT d)) → ∀ l ∈ pairM d L, (∀ t ∈ l, NfT t) ∧ l.Pairwise (LeT d)
  | [], h => h
  | [a], h => h
  | a :: b :: r, h => by
    intro l hl
    rcases List.mem_cons.mp hl with hl | hl
    · subst hl
      obtain ⟨a1, a2⟩ := h a (by simp)
      obtain ⟨b1, b2⟩ := h b (by simp)
      exact ⟨fun t ht => (mergeT_mem d ht).elim (a1 t) (b1 t), mergeT_sorted hd a b a1 b1 a2 b2⟩
    · exact pairM_sorted hd (L := r) (fun l hl => h l (by simp [hl])) l hl
theorem sortF_sorted {d : Int} (hd : NS d) : ∀ (k : Nat) {L : List (List Tl)}, (∀ l ∈ L, (∀ t ∈ l, NfT t) ∧ l.Pairwise (LeT d)) → ∀ l ∈ sortF d k L, (∀ t ∈ l, NfT t) ∧ l.Pairwise (LeT d)
  | 0, L, h => h
  | k + 1, L, h => by
    simp only [sortF]
    split
    · exact sortF_sorted hd k (pairM_sorted hd h)
    · exact h
theorem sortT_sorted {d : Int} (hd : NS d) {ts : List Tl} (h : ∀ t ∈ ts, NfT t) : (sortT d ts).Pairwise (LeT d) := by
  have k := sortF_sorted hd ts.length (L := ts.map fun t => [t]) (by
    intro l hl
    obtain ⟨t, ht, rfl⟩ := List.mem_map.mp hl
    exact ⟨fun u hu => by rw [List.mem_singleton.mp hu]; exact h t ht, List.pairwise_singleton _ _⟩)
  have sl := sortF_len d ts.length (ts.map fun t => [t]) (by simp)
  unfold sortT
  match hq : sortF d ts.length (ts.map fun t => [t]), sl with
  | [], _ => exact .nil
  | [a], _ =>
    rw [hq] at k
    simpa using (k a (by simp)).2
  | a :: b :: r, h => simp at h
/- tiles in any order, put in order, are the list that has them strictly in order -/
theorem sortT_eq {d : Int} (hd : NS d) {ts gs : List Tl} (h : ∀ t ∈ ts, NfT t) (p : ts.Perm gs) (s : gs.Pairwise fun a b => bef d a b = true) : sortT d ts = gs := by
  have hg : ∀ t ∈ gs, NfT t := fun t ht => h t (p.mem_iff.mpr ht)
  have q := (sortT_perm d ts).trans p
  refine List.Perm.eq_of_pairwise (le := LeT d) ?_ (sortT_sorted hd h) (s.imp_of_mem fun ha hb k => bef_as hd (hg _ ha) (hg _ hb) k) q
  intro a b ha hb l1 l2
  have ha' := q.mem_iff.mp ha
  by_cases e : a = b
  · exact e
  · -- both in gs, unlike: one strictly before the other
    have tot : bef d a b = true ∨ bef d b a = true := by
      obtain ⟨i, hi, rfl⟩ := List.getElem_of_mem ha'
      obtain ⟨j, hj, rfl⟩ := List.getElem_of_mem hb
      have pw := List.pairwise_iff_getElem.mp s
      rcases Nat.lt_trichotomy i j with c | c | c
      · exact .inl (pw i j hi hj c)
      · subst c; exact absurd rfl e
      · exact .inr (pw j i hj hi c)
    rcases tot with t | t
    · unfold LeT at l2
      rw [l2] at t; cases t
    · unfold LeT at l1
      rw [l1] at t; cases t
/-! a sheet cut by parts: grids side by side -/
def shT (x y : Ln) (t : Tl) : Tl := ⟨addL t.x x, addL t.y y, t.w, t.h⟩
def wdP (d : Int) (h f s : Ln) : Ln := mulL d h (mulL d f s)
def colT (d : Int) (l h f s : Ln) : List Tl := if 0 < f.p then sortT d ((gridT d (divL d (wdP d h f s) ⟨(f.p.toNat : Int), 0, 1⟩) (divL d h ⟨(f.s.toNat : Int), 0, 1⟩) f.p.toNat f.s.toNat).map (shT l ⟨0, 0, 1⟩)) else []
def cutP (d : Int) (h : Ln) : Ln → List (Ln × Ln) → List Tl
  | _, [] => []
  | l, p :: ps => colT d l h p.1 p.2 ++ cutP d h (addL l (wdP d h p.1 p.2)) ps
structure PtOk (p : Ln × Ln) : Prop where
  g : Gd 12 p.1
  q : p.1.q = 0
  nn : 0 ≤ p.1.p
  gs : Gd 36 p.2
def cntP : List (Ln × Ln) → Int
  | [] => 0
  | p :: ps => p.1.p * p.1.s + cntP ps
theorem gd_wdP {d : Int} (sd : Sz 6 d) {h : Ln} {p : Ln × Ln} (gh : Gd 20 h) (o : PtOk p) : Gd 82 (wdP d h p.1 p.2) := (gd_mul sd gh (gd_mul sd o.g o.gs)).mono (by decide)
/- one part -/
/-! what the law asks of a cutting -/
theorem eq_ne {Γ : List Sem1} {G : List D} {a b : Ex} {st : Sto} (h : ev Γ G (.o2 .eq a b) st = some (.bool true)) : ev Γ G (.o2 .ne a b) st = some (.bool false) := by
  simp only [ev] at h ⊢
  cases hx : ev Γ G a st with
  | none => rw [hx] at h; simp at h
  | some x =>
    cases hy : ev Γ G b st with
    | none => rw [hx, hy] at h; simp at h
    | some y =>
      rw [hx, hy] at h
      simp at h ⊢
      exact h
/- what is known of a grid's cells -/
structure Cel (d : Int) (t : Tl) : Prop where
  x : Gd 700 t.x
  y : Gd 700 t.y
  w : Gd 700 t.w
  h : Gd 700 t.h
  pw : 0 < sgL d t.w
  ph : 0 < sgL d t.h
theorem e_ends {d : Int} {t : Tl} (c : Cel d t) : s__law_ends [encT t] = some (.tuple [encL (addL t.x t.w), encL (addL t.y t.h)]) := by
  have a1 := e_law_add c.x c.w (by decide)
  have a2 := e_law_add c.y c.h (by decide)
  have i0 : ixD (encT t) (.int 0) = some (encL t.x) := rfl
  have i1 : ixD (encT t) (.int 1) = some (encL t.y) := rfl
  have i2 : ixD (encT t) (.int 2) = some (encL t.w) := rfl
  have i3 : ixD (encT t) (.int 3) = some (encL t.h) := rfl
  simp [-ixD, s__law_ends, b__law_ends, i0, i1, i2, i3, a1, a2, sizeLine_eq]
/- a before b or behind it, in one direction -/
def sep (d : Int) (a b : Tl) : Prop :=
  sgL d (subL (addL b.x b.w) a.x) ≠ 1 ∨ sgL d (subL (addL a.x a.w) b.x) ≠ 1 ∨ sgL d (subL (addL b.y b.h) a.y) ≠ 1 ∨ sgL d (subL (addL a.y a.h) b.y) ≠ 1
/- a cutting, as the law asks it -/
structure CutK (d : Int) (W H : Ln) (ts : List Tl) : Prop where
  cel : ∀ t ∈ ts, Cel d t
  lox : ∀ t ∈ ts, sgL d t.x ≠ -1 ∧ sgL d t.y ≠ -1
  hix : ∀ t ∈ ts, sgL d (subL (addL t.x t.w) W) ≠ 1 ∧ sgL d (subL (addL t.y t.h) H) ≠ 1
  ord : ts.Pairwise fun a b => bef d a b = true
  sp : ts.Pairwise fun a b => sep d b a
  ar : ts.foldl (fun T t => addL T (mulL d t.w t.h)) ⟨0, 0, 1⟩ = mulL d W H
/-! a grid is a cutting -/
theorem area0 {D : Dt} (T a : QL D) : T = T + (((0 : Nat) : Int) : QL D) * a := by
  have : ((((0 : Nat) : Int)) : QL D) = 0 := rfl
  rw [this]; grind
theorem area1 {D : Dt} (T a n : QL D) : T + a + n * a = T + (n + 1) * a := by grind
theorem area2 {D : Dt} (w h c r : QL D) : 0 + c * r * (w * h) = w * c * (h * r) := by grind
theorem le_z {D : Dt} {k x : QL D} (h : k * 0 ≤ x) : 0 ≤ x := by grind
theorem bef_self (d : Int) (a : Tl) : bef d a a = false := by
  unfold bef
  have z (x : Ln) : sgL d (subL x x) = 1 → False := fun h => by
    have : vS d (subL x x).p (subL x x).q = 0 := by
      have e : (subL x x) = nrm (x.p * x.s + -x.p * x.s) (x.q * x.s + -x.q * x.s) (x.s * x.s) := rfl
      rw [e]
      have e1 : x.p * x.s + -x.p * x.s = 0 := by grind
      have e2 : x.q * x.s + -x.q * x.s = 0 := by grind
      rw [e1, e2]
      have h1 : (nrm 0 0 (x.s * x.s)).p = 0 := by unfold nrm; simp
      have h2 : (nrm 0 0 (x.s * x.s)).q = 0 := by unfold nrm; simp
      rw [h1, h2]; simp [vS]
    unfold sgL at h
    rw [twoS_vS, this] at h
    exact absurd h (by decide)
  rw [if_pos rfl]
  exact decide_eq_false (z _)
section
variable {D : Dt} {w h : QL D}
theorem mul_lt {k : QL D} (hk : 0 < k) {i j : Int} (e : i < j) : k * (i : QL D) < k * (j : QL D) := by
  have p := QL.mul_pos' hk (QL.int_pos (D := D) (i := j - i) (by omega))
  rw [QL.int_sub] at p
  grind
theorem mul_le {k : QL D} (hk : 0 < k) {i j : Int} (e : i ≤ j) : k * (i : QL D) ≤ k * (j : QL D) := by
  by_cases c : i = j
  · rw [c]; grind
  · have := mul_lt hk (show i < j by omega)
    grind
theorem nf_cell (w h : QL D) (c r : Nat) : NfT (cellT D.d w.v h.v c r) := ⟨(w * ((c : Int) : QL D)).nf, (h * ((r : Int) : QL D)).nf⟩
theorem cell_bef (pw : 0 < w) (ph : 0 < h) {c r c' r' : Nat} (e : r < r' ∨ (r = r' ∧ c < c')) : bef D.d (cellT D.d w.v h.v c r) (cellT D.d w.v h.v c' r') = true := by
  rw [bef_iff D.ns (nf_cell w h c r) (nf_cell w h c' r')]
  rcases e with e | ⟨e1, e2⟩
  · exact .inl (mul_lt ph (show ((r : Nat) : Int) < (r' : Int) by omega))
  · exact .inr ⟨by rw [e1]; rfl, mul_lt pw (show ((c : Nat) : Int) < (c' : Int) by omega)⟩
theorem not1 {a b : QL D} (h : a ≤ b) : sgL D.d (subL a.v b.v) ≠ 1 := fun z => by
  have := (lt_sg D.ns b.nf a.nf).mp z
  have h2 : b < a := this
  grind
theorem add_one_le {k : QL D} (hk : 0 < k) {i j : Int} (e : i + 1 ≤ j) : k * (i : QL D) + k ≤ k * (j : QL D) := by
  have := mul_le hk e
  rw [QL.int_add, QL.int_1] at this
  grind
theorem cell_sep (pw : 0 < w) (ph : 0 < h) {c r c' r' : Nat} (e : r < r' ∨ (r = r' ∧ c < c')) : sep D.d (cellT D.d w.v h.v c' r') (cellT D.d w.v h.v c r) := by
  rcases e with e | ⟨e1, e2⟩
  · exact .inr (.inr (.inl (not1 (a := h * ((r : Int) : QL D) + h) (b := h * ((r' : Int) : QL D)) (add_one_le ph (by omega)))))
  · exact .inl (not1 (a := w * ((c : Int) : QL D) + w) (b := w * ((c' : Int) : QL D)) (add_one_le pw (by omega)))
theorem grid_mem {d : Int} {a b : Ln} {cols : Nat} : ∀ {rows : Nat} {t : Tl}, t ∈ gridT d a b cols rows ↔ ∃ c r, c < cols ∧ r < rows ∧ t = cellT d a b c r
  | 0, t => ⟨fun h => (by cases h), fun ⟨c, r, _, h, _⟩ => absurd h (Nat.not_lt_zero _)⟩
  | rows + 1, t => by
    rw [gridT, List.mem_append, grid_mem (rows := rows), rowT, List.mem_map]
    constructor
    · rintro (⟨c, r, h1, h2, h3⟩ | ⟨c, h1, h2⟩)
      · exact ⟨c, r, h1, by omega, h3⟩
      · exact ⟨c, rows, List.mem_range.mp h1, by omega, h2.symm⟩
    · rintro ⟨c, r, h1, h2, h3⟩
      by_cases e : r = rows
      · subst e; exact .inr ⟨c, List.mem_range.mpr h1, h3.symm⟩
      · exact .inl ⟨c, r, h1, by omega, h3⟩
theorem grid_pair {R : Tl → Tl → Prop} {d : Int} {a b : Ln} {cols : Nat} (hR : ∀ c r c' r' : Nat, (r < r' ∨ (r = r' ∧ c < c')) → R (cellT d a b c r) (cellT d a b c' r')) : ∀ rows : Nat, (gridT d a b cols rows).Pairwise R
  | 0 => .nil
  | rows + 1 => by
    rw [gridT, List.pairwise_append]
    refine ⟨grid_pair hR rows, ?_, fun x hx y hy => ?_⟩
    · rw [rowT, List.pairwise_map]
      exact List.pairwise_lt_range.imp fun h => hR _ _ _ _ (.inr ⟨rfl, h⟩)
    · obtain ⟨c, r, h1, h2, rfl⟩ := grid_mem.mp hx
      rw [rowT, List.mem_map] at hy
      obtain ⟨c', h3, rfl⟩ := hy
      exact hR _ _ _ _ (.inl h2)
theorem fold_area (w h : QL D) : ∀ (ts : List Tl), (∀ t ∈ ts, t.w = w.v ∧ t.h = h.v) → ∀ T : QL D, ts.foldl (fun T t => addL T (mulL D.d t.w t.h)) T.v = (T + ((ts.length : Int) : QL D) * (w * h)).v
  | [], _, T => congrArg QL.v (area0 T (w * h))
  | t :: ts, hk, T => by
    obtain ⟨e1, e2⟩ := hk t List.mem_cons_self
    have ih := fold_area w h ts (fun x hx => hk x (List.mem_cons_of_mem _ hx)) (T + w * h)
    rw [List.foldl_cons, e1, e2]
    refine ih.trans (congrArg QL.v ?_)
    rw [List.length_cons, show ((ts.length + 1 : Nat) : Int) = (ts.length : Int) + 1 by omega, QL.int_add, QL.int_1]
    exact area1 T _ _
theorem grid_wh {d : Int} {a b : Ln} {cols rows : Nat} {t : Tl} (ht : t ∈ gridT d a b cols rows) : t.w = a ∧ t.h = b := by
  obtain ⟨c, r, _, _, rfl⟩ := grid_mem.mp ht
  exact ⟨rfl, rfl⟩
end
def turnT (t : Tl) : Tl := ⟨t.y, t.x, t.h, t.w⟩
theorem turn_cell (d : Int) (a b : Ln) (c r : Nat) : turnT (cellT d a b c r) = cellT d b a r c := rfl
/- the turned grid is the grid of the turned sheet, in another order -/
theorem turn_grid {D : Dt} {w h : QL D} (pw : 0 < w) (ph : 0 < h) (cols rows : Nat) : ((gridT D.d w.v h.v cols rows).map turnT).Perm (gridT D.d h.v w.v rows cols) := by
  have n1 : (gridT D.d w.v h.v cols rows).Nodup := (grid_pair (R := fun a b => bef D.d a b = true) (fun c r c' r' e => cell_bef pw ph e) rows).imp fun {a b} k z => by
    subst z
    exact absurd k (by
      have := bef_self D.d a
      rw [this]; decide)
  have n2 : (gridT D.d h.v w.v rows cols).Nodup := (grid_pair (R := fun a b => bef D.d a b = true) (fun c r c' r' e => cell_bef ph pw e) cols).imp fun {a b} k z => by
    subst z
    exact absurd k (by
      have := bef_self D.d a
      rw [this]; decide)
  have n3 : ((gridT D.d w.v h.v cols rows).map turnT).Nodup := by
    refine List.Pairwise.map turnT (fun a b hab z => hab ?_) n1
    have := congrArg turnT z
    exact this
  refine (List.perm_ext_iff_of_nodup n3 n2).mpr fun t => ?_
  rw [List.mem_map]
  constructor
  · rintro ⟨u, hu, rfl⟩
    obtain ⟨c, r, h1, h2, rfl⟩ := grid_mem.mp hu
    exact grid_mem.mpr ⟨r, c, h2, h1, rfl⟩
  · intro ht
    obtain ⟨c, r, h1, h2, rfl⟩ := grid_mem.mp ht
    exact ⟨cellT D.d w.v h.v r c, grid_mem.mpr ⟨r, c, h2, h1, rfl⟩, rfl⟩
/- all that the law asks of a grid -/
theorem grid_cut {D : Dt} {W H w h : QL D} {cols rows : Nat} (c1 : 1 ≤ cols) (r1 : 1 ≤ rows) (hw : w * ((cols : Int) : QL D) = W) (hh : h * ((rows : Int) : QL D) = H) (pw : 0 < w) (ph : 0 < h)
    (gd : ∀ t ∈ gridT D.d w.v h.v cols rows, Gd 120 t.x ∧ Gd 120 t.y ∧ Gd 120 t.w ∧ Gd 120 t.h) : CutK D.d W.v H.v (gridT D.d w.v h.v cols rows) := by
  refine ⟨fun t ht => ?_, fun t ht => ?_, fun t ht => ?_, grid_pair (R := fun a b => bef D.d a b = true) (fun c r c' r' e => cell_bef pw ph e) rows, grid_pair (R := fun a b => sep D.d b a) (fun c r c' r' e => cell_sep pw ph e) rows, ?_⟩
  · obtain ⟨g1, g2, g3, g4⟩ := gd t ht
    obtain ⟨e1, e2⟩ := grid_wh ht
    exact ⟨g1.mono (by decide), g2.mono (by decide), g3.mono (by decide), g4.mono (by decide), by rw [e1]; exact QL.pos_iff.mp pw, by rw [e2]; exact QL.pos_iff.mp ph⟩
  · obtain ⟨c, r, h1, h2, rfl⟩ := grid_mem.mp ht
    have k1 := mul_le pw (show (0 : Int) ≤ (c : Int) by omega)
    have k2 := mul_le ph (show (0 : Int) ≤ (r : Int) by omega)
    rw [QL.int_0] at k1 k2
    have k1 : 0 ≤ w * ((c : Int) : QL D) := le_z k1
    have k2 : 0 ≤ h * ((r : Int) : QL D) := le_z k2
    rw [QL.nn_iff] at k1 k2
    exact ⟨by show sgL D.d (w * ((c : Int) : QL D)).v ≠ -1; omega, by show sgL D.d (h * ((r : Int) : QL D)).v ≠ -1; omega⟩
  · obtain ⟨c, r, h1, h2, rfl⟩ := grid_mem.mp ht
    have k1 := add_one_le pw (show (c : Int) + 1 ≤ (cols : Int) by omega)
    have k2 := add_one_le ph (show (r : Int) + 1 ≤ (rows : Int) by omega)
    rw [hw] at k1
    rw [hh] at k2
    exact ⟨not1 (a := w * ((c : Int) : QL D) + w) (b := W) k1, not1 (a := h * ((r : Int) : QL D) + h) (b := H) k2⟩
  · have f := fold_area w h (gridT D.d w.v h.v cols rows) (fun t ht => grid_wh ht) 0
    have z : (0 : QL D).v = ⟨0, 0, 1⟩ := rfl
    rw [z] at f
    rw [f]
    have k : 0 + (((gridT D.d w.v h.v cols rows).length : Int) : QL D) * (w * h) = W * H := by
      rw [gridT_len, show ((cols * rows : Nat) : Int) = (cols : Int) * (rows : Int) by simp, QL.int_mul, ← hw, ← hh]
      exact area2 _ _ _ _
    rw [k]
    exact QL.v_mul W H
theorem divL_v {D : Dt} (a b : QL D) (h : b ≠ 0) : divL D.d a.v b.v = (a / b).v := (QL.v_div (QL.ne_zero.mp h)).symm
theorem pos_ne {D : Dt} {a : QL D} (h : 0 < a) : a ≠ 0 := fun z => by rw [z] at h; grind
/-! tiles in strips side by side: a cutting -/
theorem sep_symm {d : Int} {a b : Tl} (h : sep d a b) : sep d b a := by
  rcases h with h | h | h | h
  · exact .inr (.inl h)
  · exact .inl h
  · exact .inr (.inr (.inr h))
  · exact .inr (.inr (.inl h))
section
variable {D : Dt}
theorem area_sw {T a b : QL D} : T + a + b = T + b + a := by grind
theorem fold_perm {L M : List Tl} (p : L.Perm M) : (∀ t ∈ L, Nf t.w ∧ Nf t.h) → ∀ T : QL D, L.foldl (fun T t => addL T (mulL D.d t.w t.h)) T.v = M.foldl (fun T t => addL T (mulL D.d t.w t.h)) T.v := by
  induction p with
  | nil => intro _ _; rfl
  | cons t p ih =>
    intro h T
    obtain ⟨n1, n2⟩ := h t List.mem_cons_self
    exact ih (fun x hx => h x (List.mem_cons_of_mem _ hx)) (T + (⟨t.w, n1⟩ : QL D) * ⟨t.h, n2⟩)
  | swap s t l =>
    intro h T
    obtain ⟨n1, n2⟩ := h t (by simp)
    obtain ⟨n3, n4⟩ := h s (by simp)
    rw [List.foldl_cons, List.foldl_cons, List.foldl_cons, List.foldl_cons]
    have := congrArg QL.v (area_sw (T := T) (a := (⟨t.w, n1⟩ : QL D) * ⟨t.h, n2⟩) (b := (⟨s.w, n3⟩ : QL D) * ⟨s.h, n4⟩))
    exact congrArg (fun z => l.foldl (fun T t => addL T (mulL D.d t.w t.h)) z) this
  | trans p q ih1 ih2 =>
    intro h T
    rw [ih1 h T, ih2 (fun t ht => h t (p.mem_iff.mpr ht)) T]
/- tiles that fill the strip from l to r, H high -/
structure Strip (l r H : QL D) (L : List Tl) : Prop where
  el : ∀ t ∈ L, ∃ x y w h : QL D, t = ⟨x.v, y.v, w.v, h.v⟩ ∧ l ≤ x ∧ x + w ≤ r ∧ 0 ≤ y ∧ y + h ≤ H ∧ 0 < w ∧ 0 < h
  sp : L.Pairwise (sep D.d)
  ar : ∀ T : QL D, L.foldl (fun T t => addL T (mulL D.d t.w t.h)) T.v = (T + (r - l) * H).v
theorem strip_nf {l r H : QL D} {L : List Tl} (s : Strip l r H L) : ∀ t ∈ L, (NfT t) ∧ Nf t.w ∧ Nf t.h := by
  intro t ht
  obtain ⟨x, y, w, h, rfl, -⟩ := s.el t ht
  exact ⟨⟨x.nf, y.nf⟩, w.nf, h.nf⟩
theorem ar_nil {T l H : QL D} : T = T + (l - l) * H := by grind
theorem ar_app {T l m r H : QL D} : T + (m - l) * H + (r - m) * H = T + (r - l) * H := by grind
theorem strip_nil (l H : QL D) : Strip l l H [] := ⟨fun _ h => absurd h (by simp), .nil, fun T => congrArg QL.v ar_nil⟩
theorem le_tr' {a b c : QL D} (h : a ≤ b) (k : b ≤ c) : a ≤ c := by grind
theorem le_w {x w r m : QL D} (h : x + w ≤ m) (k : m ≤ r) : x + w ≤ r := by grind
theorem strip_app {l m r H : QL D} {L M : List Tl} (h1 : l ≤ m) (h2 : m ≤ r) (a : Strip l m H L) (b : Strip m r H M) : Strip l r H (L ++ M) := by
  refine ⟨fun t ht => ?_, ?_, fun T => ?_⟩
  · rcases List.mem_append.mp ht with ht | ht
    · obtain ⟨x, y, w, h, e, k1, k2, k⟩ := a.el t ht
      exact ⟨x, y, w, h, e, k1, le_tr' k2 h2, k⟩
    · obtain ⟨x, y, w, h, e, k1, k2, k⟩ := b.el t ht
      exact ⟨x, y, w, h, e, le_tr' h1 k1, k2, k⟩
  · rw [List.pairwise_append]
    refine ⟨a.sp, b.sp, fun s hs t ht => ?_⟩
    obtain ⟨x, y, w, h, rfl, k1, k2, -⟩ := a.el s hs
    obtain ⟨x', y', w', h', rfl, j1, j2, -⟩ := b.el t ht
    exact .inr (.inl (not1 (a := x + w) (b := x') (le_tr' k2 j1)))
  · rw [List.foldl_append, a.ar T, b.ar (T + (m - l) * H)]
    exact congrArg QL.v ar_app
theorem strip_perm {l r H : QL D} {L M : List Tl} (p : L.Perm M) (a : Strip l r H L) : Strip l r H M := by
  refine ⟨fun t ht => a.el t (p.mem_iff.mpr ht), ?_, fun T => ?_⟩
  · exact (p.pairwise_iff (fun h => sep_symm h)).mp a.sp
  · rw [← a.ar T]
    exact (fold_perm p (fun t ht => (strip_nf a t ht).2) T).symm
theorem fold_sh (w h : QL D) (l : Ln) : ∀ (ts : List Tl), (∀ t ∈ ts, t.w = w.v ∧ t.h = h.v) → ∀ T : QL D, (ts.map (shT l ⟨0, 0, 1⟩)).foldl (fun T t => addL T (mulL D.d t.w t.h)) T.v = (T + ((ts.length : Int) : QL D) * (w * h)).v := by
  intro ts hk T
  rw [← fold_area w h ts hk T, List.foldl_map]
  rfl
theorem col_le1 {k l : QL D} (h : 0 ≤ k) : l ≤ k + l := by grind
theorem col_le2 {k a l r : QL D} (h : k + a ≤ r) : k + l + a ≤ l + r := by grind
theorem col_le3 {k : QL D} (h : 0 ≤ k) : 0 ≤ k + 0 := by grind
theorem col_le4 {k a r : QL D} (h : k + a ≤ r) : k + 0 + a ≤ r := by grind
theorem col_ar {T a b l W H P S : QL D} (h1 : a * P = W) (h2 : b * S = H) : T + P * S * (a * b) = T + (l + W - l) * H := by rw [← h1, ← h2]; grind
theorem sh_sep {l x y w h x' y' w' h' : QL D} (k : sep D.d ⟨x.v, y.v, w.v, h.v⟩ ⟨x'.v, y'.v, w'.v, h'.v⟩) : sep D.d (shT l.v ⟨0, 0, 1⟩ ⟨x.v, y.v, w.v, h.v⟩) (shT l.v ⟨0, 0, 1⟩ ⟨x'.v, y'.v, w'.v, h'.v⟩) := by
  have s1 {a b : QL D} : sgL D.d (subL a.v b.v) ≠ 1 ↔ a ≤ b := by
    have := lt_sg D.ns b.nf a.nf
    constructor
    · intro h
      have : ¬ b < a := fun z => h (this.mpr z)
      grind
    · exact fun h => not1 h
  have e1 : (x' + l + w') - (x + l) = x' + w' - x := by grind
  have e2 : (x + l + w) - (x' + l) = x + w - x' := by grind
  have e3 : (y' + 0 + h') - (y + 0) = y' + h' - y := by grind
  have e4 : (y + 0 + h) - (y' + 0) = y + h - y' := by grind
  rcases k with k | k | k | k
  · refine .inl ?_
    have : sgL D.d ((x' + l + w') - (x + l)).v ≠ 1 := by rw [e1]; exact k
    exact this
  · refine .inr (.inl ?_)
    have : sgL D.d ((x + l + w) - (x' + l)).v ≠ 1 := by rw [e2]; exact k
    exact this
  · refine .inr (.inr (.inl ?_))
    have : sgL D.d ((y' + 0 + h') - (y + 0)).v ≠ 1 := by rw [e3]; exact k
    exact this
  · refine .inr (.inr (.inr ?_))
    have : sgL D.d ((y + 0 + h) - (y' + 0)).v ≠ 1 := by rw [e4]; exact k
    exact this
theorem grid_strip {l W H a b : QL D} {P S : Nat} (hw : a * ((P : Int) : QL D) = W) (hh : b * ((S : Int) : QL D) = H) (pa : 0 < a) (pb : 0 < b) : Strip l (l + W) H ((gridT D.d a.v b.v P S).map (shT l.v ⟨0, 0, 1⟩)) := by
  refine ⟨fun t ht => ?_, ?_, fun T => ?_⟩
  · obtain ⟨u, hu, rfl⟩ := List.mem_map.mp ht
    obtain ⟨c, r, h1, h2, rfl⟩ := grid_mem.mp hu
    have k1 := mul_le pa (show (0 : Int) ≤ (c : Int) by omega)
    have k2 := mul_le pb (show (0 : Int) ≤ (r : Int) by omega)
    rw [QL.int_0] at k1 k2
    have m1 := add_one_le pa (show (c : Int) + 1 ≤ (P : Int) by omega)
    have m2 := add_one_le pb (show (r : Int) + 1 ≤ (S : Int) by omega)
    rw [hw] at m1
    rw [hh] at m2
    exact ⟨a * ((c : Int) : QL D) + l, b * ((r : Int) : QL D) + 0, a, b, rfl, col_le1 (le_z k1), col_le2 m1, col_le3 (le_z k2), col_le4 m2, pa, pb⟩
  · rw [List.pairwise_map]
    refine grid_pair (R := fun s t => sep D.d (shT l.v ⟨0, 0, 1⟩ s) (shT l.v ⟨0, 0, 1⟩ t)) (fun c r c' r' e => ?_) S
    exact sep_symm (sh_sep (l := l) (x := a * ((c' : Int) : QL D)) (y := b * ((r' : Int) : QL D)) (w := a) (h := b) (x' := a * ((c : Int) : QL D)) (y' := b * ((r : Int) : QL D)) (w' := a) (h' := b) (cell_sep pa pb e))
  · rw [fold_sh a b l.v _ (fun t ht => grid_wh ht) T, gridT_len, show ((P * S : Nat) : Int) = (P : Int) * (S : Int) by simp, QL.int_mul]
    exact congrArg QL.v (col_ar hw hh)
theorem frac_ps {f : QL D} (hq : f.v.q = 0) : f * (f.v.s : QL D) = (f.v.p : QL D) := by
  have := QL.val f
  rw [hq] at this
  have z : ((0 : Int) : QL D) = 0 := QL.int_0
  rw [z] at this
  grind
theorem div_mul' {a b : QL D} (h : b ≠ 0) : a / b * b = a := by
  have := QL.mul_inv h
  rw [Lean.Grind.Field.div_eq_mul_inv]; grind
theorem shape_of {h f s P S a b : QL D} (hf : f * S = P) (zP : P ≠ 0) (zS : S ≠ 0) (zh : h ≠ 0) (ea : a * P = h * (f * s)) (eb : b * S = h) (zb : b ≠ 0) : a / b = s := by
  refine Classical.byContradiction fun z => ?_
  have z' : a / b - s ≠ 0 := fun k => z (by grind)
  have m := QL.mul_ne (QL.mul_ne z' zb) zP
  have e := div_mul' (a := a) zb
  apply m
  have : (a / b - s) * b * P = (a / b * b) * P - s * b * P := by grind
  rw [this, e, ea]
  have : h * (f * s) - s * b * P = s * (h * f - b * P) := by grind
  rw [this, ← hf, ← eb]
  grind
/- one part's strip -/
theorem col_strip {l h f s : QL D} (hq : f.v.q = 0) (hp : 0 ≤ f.v.p) (ph : 0 < h) (ps : 0 < s) : Strip l (l + h * (f * s)) h (colT D.d l.v h.v f.v s.v) ∧ (∀ t ∈ colT D.d l.v h.v f.v s.v, divL D.d t.w t.h = s.v) ∧ l ≤ l + h * (f * s) := by
  have fp := frac_ps hq
  have pS : (0 : QL D) < (f.v.s : QL D) := QL.int_pos f.nf.pos
  have zS : ((f.v.s : Int) : QL D) ≠ 0 := QL.sNe f
  unfold colT
  by_cases c : 0 < f.v.p
  · rw [if_pos c]
    have pP : (0 : QL D) < (f.v.p : QL D) := QL.int_pos c
    have zP : ((f.v.p : Int) : QL D) ≠ 0 := QL.int_ne (by omega)
    obtain ⟨P, hP⟩ : ∃ P : Nat, f.v.p.toNat = P := ⟨_, rfl⟩
    obtain ⟨S, hS⟩ : ∃ S : Nat, f.v.s.toNat = S := ⟨_, rfl⟩
    have eP : f.v.p = (P : Int) := by omega
    have eS : f.v.s = (S : Int) := by have := f.nf.pos; omega
    rw [eP] at fp pP zP
    rw [eS] at fp pS zS
    have pf : 0 < f := by
      have k : f = ((P : Int) : QL D) / ((S : Int) : QL D) := by
        have := div_mul' (a := ((P : Int) : QL D)) zS
        refine Classical.byContradiction fun z => ?_
        have z' : f - ((P : Int) : QL D) / ((S : Int) : QL D) ≠ 0 := fun k => z (by grind)
        apply QL.mul_ne z' zS
        grind
      rw [k]
      exact div_pos' pP pS
    obtain ⟨a, ha⟩ : ∃ a : QL D, a = h * (f * s) / ((P : Int) : QL D) := ⟨_, rfl⟩
    obtain ⟨b, hb⟩ : ∃ b : QL D, b = h / ((S : Int) : QL D) := ⟨_, rfl⟩
    have ea : a * ((P : Int) : QL D) = h * (f * s) := by rw [ha]; exact div_mul' zP
    have eb : b * ((S : Int) : QL D) = h := by rw [hb]; exact div_mul' zS
    have pw := QL.mul_pos' ph (QL.mul_pos' pf ps)
    have pa : 0 < a := by rw [ha]; exact div_pos' pw pP
    have pb : 0 < b := by rw [hb]; exact div_pos' ph pS
    have e1 : divL D.d (wdP D.d h.v f.v s.v) ⟨((f.v.p.toNat : Nat) : Int), 0, 1⟩ = a.v := by rw [ha, hP]; exact divL_v (h * (f * s)) _ zP
    have e2 : divL D.d h.v ⟨((f.v.s.toNat : Nat) : Int), 0, 1⟩ = b.v := by rw [hb, hS]; exact divL_v h _ zS
    rw [e1, e2, hP, hS]
    refine ⟨strip_perm (sortT_perm D.d _).symm (grid_strip ea eb pa pb), fun t ht => ?_, by grind⟩
    have := (sortT_perm D.d _).mem_iff.mp ht
    obtain ⟨u, hu, rfl⟩ := List.mem_map.mp this
    obtain ⟨k1, k2⟩ := grid_wh hu
    have zb : b ≠ 0 := fun z => by rw [z] at pb; grind
    have zh : h ≠ 0 := fun z => by rw [z] at ph; grind
    show divL D.d u.w u.h = s.v
    rw [k1, k2, divL_v a b zb, shape_of fp zP zS zh ea eb zb]
  · rw [if_neg c]
    have p0 : f.v.p = 0 := by omega
    have f0 : f = 0 := by
      rw [p0] at fp
      refine Classical.byContradiction fun z => QL.mul_ne z zS ?_
      rw [fp]; rfl
    have k : l + h * (f * s) = l := by rw [f0]; grind
    rw [k]
    exact ⟨strip_nil l h, fun t ht => absurd ht (by simp), by grind⟩
/- the width of all parts -/
def sumP (h : QL D) : List (QL D × QL D) → QL D
  | [] => 0
  | p :: ps => h * (p.1 * p.2) + sumP h ps
def prV (p : QL D × QL D) : Ln × Ln := (p.1.v, p.2.v)
theorem cutP_strip {h : QL D} (ph : 0 < h) : ∀ (ps : List (QL D × QL D)) (l : QL D), (∀ p ∈ ps, p.1.v.q = 0 ∧ 0 ≤ p.1.v.p ∧ 0 < p.2) → Strip l (l + sumP h ps) h (cutP D.d h.v l.v (ps.map prV)) ∧ (∀ t ∈ cutP D.d h.v l.v (ps.map prV), ∃ p ∈ ps, divL D.d t.w t.h = p.2.v) ∧ l ≤ l + sumP h ps
  | [], l, _ => by
    have : l + sumP h [] = l := by unfold sumP; grind
    rw [this]
    exact ⟨strip_nil l h, fun t ht => absurd ht (by simp [cutP]), by grind⟩
  | p :: ps, l, hk => by
    obtain ⟨h1, h2, h3⟩ := hk p List.mem_cons_self
    obtain ⟨a1, a2, a3⟩ := col_strip (l := l) h1 h2 ph h3
    obtain ⟨b1, b2, b3⟩ := cutP_strip ph ps (l + h * (p.1 * p.2)) (fun x hx => hk x (List.mem_cons_of_mem _ hx))
    have e : l + h * (p.1 * p.2) + sumP h ps = l + sumP h (p :: ps) := by simp only [sumP]; grind
    rw [e] at b1 b3
    refine ⟨strip_app a3 b3 a1 b1, fun t ht => ?_, le_tr' a3 b3⟩
    have ht : t ∈ colT D.d l.v h.v p.1.v p.2.v ++ cutP D.d h.v (l + h * (p.1 * p.2)).v (ps.map prV) := ht
    rcases List.mem_append.mp ht with ht | ht
    · exact ⟨p, List.mem_cons_self, a2 t ht⟩
    · obtain ⟨q, hq, k⟩ := b2 t ht
      exact ⟨q, List.mem_cons_of_mem _ hq, k⟩
theorem no_pos {a b w : QL D} (h : a + w ≤ b) (e : a = b) (pw : 0 < w) : False := by grind
theorem sep_pos {a b : Tl} {l r H : QL D} {L : List Tl} (st : Strip l r H L) (ha : a ∈ L) (hb : b ∈ L) (s : sep D.d a b) : ¬ (a.x = b.x ∧ a.y = b.y) := by
  obtain ⟨x, y, w, h, rfl, -, -, -, -, pw, ph⟩ := st.el a ha
  obtain ⟨x', y', w', h', rfl, -, -, -, -, pw', ph'⟩ := st.el b hb
  rintro ⟨e1, e2⟩
  have e1 : x = x' := QL.ext' e1
  have e2 : y = y' := QL.ext' e2
  have s1 {a b : QL D} (h : sgL D.d (subL a.v b.v) ≠ 1) : a ≤ b := by
    have := lt_sg D.ns b.nf a.nf
    have : ¬ b < a := fun z => h (this.mpr z)
    grind
  rcases s with s | s | s | s
  · exact no_pos (s1 (a := x' + w') (b := x) s) e1.symm pw'
  · exact no_pos (s1 (a := x + w) (b := x') s) e1 pw
  · exact no_pos (s1 (a := y' + h') (b := y) s) e2.symm ph'
  · exact no_pos (s1 (a := y + h) (b := y') s) e2 ph
/- the strip from 0 put in order is a cutting -/
theorem strip_cut {W H : QL D} {L : List Tl} (st : Strip 0 W H L) (gd : ∀ t ∈ L, Gd 700 t.x ∧ Gd 700 t.y ∧ Gd 700 t.w ∧ Gd 700 t.h) : CutK D.d W.v H.v (sortT D.d L) := by
  have pm := sortT_perm D.d L
  have nf : ∀ t ∈ L, NfT t := fun t ht => (strip_nf st t ht).1
  have st2 := strip_perm pm.symm st
  have nn {a : QL D} (h : 0 ≤ a) : sgL D.d a.v ≠ -1 := by
    rw [QL.nn_iff] at h; omega
  refine ⟨fun t ht => ?_, fun t ht => ?_, fun t ht => ?_, ?_, st2.sp.imp fun h => sep_symm h, ?_⟩
  · have ht := pm.mem_iff.mp ht
    obtain ⟨g1, g2, g3, g4⟩ := gd t ht
    obtain ⟨x, y, w, h, rfl, -, -, -, -, pw, ph⟩ := st.el t ht
    exact ⟨g1, g2, g3, g4, QL.pos_iff.mp pw, QL.pos_iff.mp ph⟩
  · obtain ⟨x, y, w, h, rfl, h1, -, h2, -⟩ := st2.el t ht
    exact ⟨nn h1, nn h2⟩
  · obtain ⟨x, y, w, h, rfl, -, h1, -, h2, -⟩ := st2.el t ht
    exact ⟨not1 (a := x + w) h1, not1 (a := y + h) h2⟩
  · have so := sortT_sorted D.ns nf
    refine (so.and st2.sp).imp_of_mem fun {a b} ha hb k => ?_
    have ha := pm.mem_iff.mp ha
    have hb := pm.mem_iff.mp hb
    rcases (le_iff D.ns (nf a ha) (nf b hb)).mp k.1 with h | h
    · exact h
    · exact absurd h (sep_pos st ha hb k.2)
  · have := st2.ar 0
    have e : (0 : QL D) + (W - 0) * H = W * H := by grind
    rw [e] at this
    exact this
end
/-! measures that bar a shape: why -/
section
variable {D : Dt}
/- the measure of x t by t, for t = y + w -/
def VQ (a b c σ x x' t s : QL D) : QL D := a * x * (t * t) + (b * x + c * x') * (t * s) + σ * x' * (s * s)
theorem line_value (f e l y w dd : QL D) (hw : w * w = dd) : ((f + l + e) * y + 2 * w * (f - l)) * y + dd * (f + l - e) = f * ((y + w) * (y + w)) + e * ((y + w) * (y - w)) + l * ((y - w) * (y - w)) := by
  subst hw
  grind
theorem V_parts {a b c σ x x' u u' v v' α β t s : QL D} (hx : x = α * u - β * v) (hx' : x' = α * u' - β * v') (h1 : b * u + c * u' = 2) (h2 : b * v + c * v' = 0) :
    VQ a b c σ x x' t s = α * (a * u * (t * t) + 2 * (t * s) + σ * u' * (s * s)) - β * (a * v * (t * t) + σ * v' * (s * s)) := by
  unfold VQ
  have e : b * x + c * x' = α * 2 - β * 0 := by
    rw [← h1, ← h2, hx, hx']; grind
  rw [e, hx, hx']
  grind
theorem flat_zero {a u m t s : QL D} (hm : a * u * m = 1) (zm : m ≠ 0) (h : t + m * s = 0) : a * u * (t * t) + 2 * (t * s) + m * (s * s) = 0 := by
  have e : m * (a * u * (t * t) + 2 * (t * s) + m * (s * s)) = (t + m * s) * (t + m * s) := by
    have : m * (a * u * (t * t)) = a * u * m * (t * t) := by grind
    have : m * (a * u * (t * t) + 2 * (t * s) + m * (s * s)) = a * u * m * (t * t) + 2 * (t * (m * s)) + (m * s) * (m * s) := by grind
    rw [this, hm]; grind
  rw [h] at e
  refine Classical.byContradiction fun c => ?_
  exact QL.mul_ne zm c (by rw [e]; grind)
theorem flat_at {g m w : QL D} (h : g * (m + 1) = w * (m - 1)) : (g + w) + m * (g - w) = 0 := by grind
/- the flat point lies above minus the root -/
theorem flat_pos {g m w : QL D} (hm : 0 < m) (hw : 0 < w) (h : g * (m + 1) = w * (m - 1)) : 0 < g + w := by
  have e : (g + w) * (m + 1) = 2 * (w * m) := by grind
  have p := QL.mul_pos' hw hm
  refine Classical.byContradiction fun c => ?_
  by_cases z : g + w = 0
  · rw [z] at e; grind
  · have n : 0 < -(g + w) := by grind
    have := QL.mul_pos' n (show 0 < m + 1 by grind)
    grind
theorem le_mul {x y k : QL D} (h : x ≤ y) (hk : 0 ≤ k) : k * x ≤ k * y := by
  by_cases c : x = y
  · rw [c]; grind
  · by_cases z : k = 0
    · rw [z]; grind
    · have := QL.mul_pos' (a := k) (b := y - x) (by grind) (by grind)
      grind
theorem step_below {Vg room slope sq A B δ n : QL D} (hV : Vg = -room) (hA : slope ≤ A) (hB : sq ≤ B) (A0 : 0 ≤ A) (B0 : 0 ≤ B) (δ0 : 0 < δ) (n1 : 1 ≤ n) (hδ : δ * n ≤ 1) (hn : A + B < n * room) : Vg + δ * (slope + sq * δ) < 0 := by
  have d1 : δ ≤ 1 := by
    have := le_mul n1 (show 0 ≤ δ by grind)
    grind
  have s1 : sq * δ ≤ B := by
    have h1 := le_mul hB (show 0 ≤ δ by grind)
    have h2 := le_mul d1 B0
    grind
  have s2 : δ * (slope + sq * δ) ≤ δ * (A + B) := le_mul (by grind) (by grind)
  have s3 : δ * (A + B) < room := by
    refine Classical.byContradiction fun c => ?_
    have c : room ≤ δ * (A + B) := by grind
    have h1 := le_mul c (show 0 ≤ n by grind)
    have h2 := le_mul hδ (show 0 ≤ A + B by grind)
    have e : n * (δ * (A + B)) = (A + B) * (δ * n) := by grind
    rw [e] at h1
    grind
  grind
theorem V_step (sq si fr g δ : QL D) : (sq * (g + δ) + si) * (g + δ) + fr = ((sq * g + si) * g + fr) + δ * ((2 * sq * g + si) + sq * δ) := by grind
/- the numbers that tell b and c -/
theorem bc_flat {u u' v v' cr b c : QL D} (hc : cr = u * v' - v * u') (zc : cr ≠ 0) (hb : b * cr = 2 * v') (hcc : c * cr = -2 * v) : b * u + c * u' = 2 ∧ b * v + c * v' = 0 := by
  have key (x y : QL D) (h : cr * x = cr * y) : x = y := by
    refine Classical.byContradiction fun z => ?_
    have z : x - y ≠ 0 := by grind
    exact QL.mul_ne zc z (by grind)
  constructor
  · refine key _ _ ?_
    have : cr * (b * u + c * u') = (b * cr) * u + (c * cr) * u' := by grind
    rw [this, hb, hcc, hc]; grind
  · refine key _ _ ?_
    have : cr * (b * v + c * v') = (b * cr) * v + (c * cr) * v' := by grind
    rw [this, hb, hcc]; grind
theorem neg_room {α β F G : QL D} (hF : F = 0) (hβ : 0 < β) (hG : 0 < G) : α * F - β * G < 0 := by
  have := QL.mul_pos' hβ hG
  rw [hF]; grind
/- the second bracket is above 0 -/
theorem far_pos {a v σv t s : QL D} (ha : 0 < a) (hv : 0 < v) (hσ : 0 ≤ σv) (ht : 0 < t) : 0 < a * v * (t * t) + σv * (s * s) := by
  have p := QL.mul_pos' (QL.mul_pos' ha hv) (QL.mul_pos' ht ht)
  have q : 0 ≤ s * s := by
    by_cases z : s = 0
    · rw [z]; grind
    · have := QL.sq_pos' z
      grind
  have := le_mul q hσ
  grind
/- both forms of the flat and the far shape are never below 0 -/
theorem NB_flat {a u m e : QL D} (h0 : 0 ≤ a * u) (h1 : 0 ≤ m) (h : a * u * m = 1) (he : e = 2) : 0 ≤ a * u ∧ 0 ≤ m ∧ e * e ≤ 4 * (a * u * m) := by
  refine ⟨h0, h1, ?_⟩
  rw [h, he]; grind
theorem NB_far {f l e : QL D} (h0 : 0 ≤ f) (h1 : 0 ≤ l) (he : e = 0) : 0 ≤ f ∧ 0 ≤ l ∧ e * e ≤ 4 * (f * l) := by
  refine ⟨h0, h1, ?_⟩
  have := le_mul h0 h1
  rw [he]; grind
end
/- floors in the field -/
theorem nbL_ql {D : Dt} (a : QL D) (k : Int) : nbL D.d a.v k ↔ ((k : Int) : QL D) ≤ a := by
  rw [QL.le_sub, QL.nn_iff]
  unfold nbL sgL
  rw [twoS_vS, sgI_ge]
  have e : (a - ((k : Int) : QL D)).v = nrm (a.v.p * 1 + -k * a.v.s) (a.v.q * 1 + -0 * a.v.s) (a.v.s * 1) := rfl
  have s := sg_nrm (d := D.d) (p := a.v.p * 1 + -k * a.v.s) (q := a.v.q * 1 + -0 * a.v.s) (s := a.v.s * 1) (by have := a.nf.pos; omega)
  rw [← e] at s
  have e2 : a.v.p * 1 + -k * a.v.s = a.v.p - k * a.v.s := by grind
  have e3 : a.v.q * 1 + -0 * a.v.s = a.v.q := by grind
  rw [e2, e3] at s
  constructor
  · intro h
    exact sgI_ge.mp (by rw [s]; exact sgI_ge.mpr h)
  · intro h
    exact sgI_ge.mp (by rw [← s]; exact sgI_ge.mpr h)
theorem not_le_lt {D : Dt} {a b : QL D} (h : ¬ a ≤ b) : b < a := by grind
theorem fl_ql {D : Dt} {a : QL D} {f : Int} (h : IsFl D.d a.v f) : ((f : Int) : QL D) ≤ a ∧ a < ((f + 1 : Int) : QL D) := by
  refine ⟨(nbL_ql a f).mp h.lo, ?_⟩
  have := h.hi
  rw [nbL_ql] at this
  exact not_le_lt this
/-! short formulas for the numbers that bar, so that they are not too great -/
theorem rep_eq {D : Dt} {x y k : QL D} (z : k ≠ 0) (h : x * k = y * k) : x = y := by
  refine Classical.byContradiction fun c => ?_
  have c : x - y ≠ 0 := by grind
  exact QL.mul_ne c z (by grind)
theorem two_ne0 {D : Dt} : (2 : QL D) ≠ 0 := fun z => by
  have := congrArg (fun x : QL D => x.v.p) z
  cases this
theorem gd_rep {D : Dt} {n : Nat} {P Q S : Int} (hS : S ≠ 0) (sP : Sz n P) (sQ : Sz n Q) (sS : Sz n S) (x : QL D) (e : x * (S : QL D) = (P : QL D) + (Q : QL D) * QL.w) : Gd n x.v := by
  let Y : QL D := ⟨nrm P Q S, nrm_nf hS⟩
  have hy := QL.nrm_val hS Y rfl
  have zs : ((S : Int) : QL D) ≠ 0 := QL.int_ne hS
  have : x = Y := rep_eq zs (e.trans hy.symm)
  rw [this]
  exact gd_nrm hS sP sQ sS
section
variable {D : Dt} {R cR B cB s p q w d N0 σ a b c x x' X Y Z cr u u' v v' : QL D}
theorem cancel_z {x y k : QL D} (zk : k ≠ 0) (h : k * x = k * y) : x = y := by
  refine Classical.byContradiction fun z => ?_
  have z : x - y ≠ 0 := by grind
  exact QL.mul_ne zk z (by grind)
/- the cross of r and 1 by r -/
theorem cr_rep (h1 : R * s = p + q * w) (h2 : cR * s = p - q * w) (hB : R * B = 1) (hcB : cR * cB = 1) (hN : N0 = p * p - d * (q * q)) (hw : w * w = d) :
    (R * cB - B * cR) * N0 = 4 * (p * q * w) ∧ R * cR * (s * s) = N0 := by
  have n : R * cR * (s * s) = N0 := by
    have : R * cR * (s * s) = (R * s) * (cR * s) := by grind
    rw [this, h1, h2, hN, ← hw]; grind
  refine ⟨?_, n⟩
  have e : (R * cB - B * cR) * (R * cR * (s * s)) = (R * s) * (R * s) * (cR * cB) - (cR * s) * (cR * s) * (R * B) := by grind
  rw [← n, e, hcB, hB, h1, h2]; grind
theorem repa1 (hσ : σ * σ = 1) (hn : R * cR * (s * s) = N0) (ha : a * (σ * (R * cR)) = 1) : a * N0 = σ * (s * s) := by
  have : a * N0 = σ * (a * (σ * (R * cR))) * (s * s) := by
    have : σ * (a * (σ * (R * cR))) * (s * s) = (σ * σ) * (a * (R * cR * (s * s))) := by grind
    rw [this, hσ, hn]; grind
  rw [this, ha]; grind
theorem repa2 (hσ : σ * σ = 1) (hn : R * cR * (s * s) = N0) (hB : R * B = 1) (hcB : cR * cB = 1) (ha : a * (σ * (B * cB)) = 1) : a * (s * s) = σ * N0 := by
  have : σ * N0 = (a * (σ * (B * cB))) * (σ * N0) := by rw [ha]; grind
  rw [this, ← hn]
  have : a * (σ * (B * cB)) * (σ * (R * cR * (s * s))) = a * (s * s) * (σ * σ) * (R * B) * (cR * cB) := by grind
  rw [this, hσ, hB, hcB]; grind
theorem two4 {x y : QL D} (h : 2 * x = 2 * y) : x = y := cancel_z two_ne0 h
theorem repb1 (h1 : R * s = p + q * w) (hcr : cr * N0 = 4 * (p * q * w)) (hn : R * cR * (s * s) = N0) (hcB : cR * cB = 1) (hw : w * w = d) (hb : b * cr = 2 * cB) : b * (2 * (p * q * d)) = s * (q * d) + s * p * w := by
  have e1 : b * cr * N0 = 2 * (R * s) * s := by
    rw [hb, ← hn]
    have : 2 * cB * (R * cR * (s * s)) = 2 * (R * s) * s * (cR * cB) := by grind
    rw [this, hcB]; grind
  have e2 : b * cr * N0 = b * (4 * (p * q * w)) := by rw [← hcr]; grind
  rw [e2, h1] at e1
  refine two4 ?_
  have : 2 * (b * (2 * (p * q * d))) = (b * (4 * (p * q * w))) * w := by rw [← hw]; grind
  rw [this, e1, ← hw]; grind
theorem repc1 (h2 : cR * s = p - q * w) (hcr : cr * N0 = 4 * (p * q * w)) (hn : R * cR * (s * s) = N0) (hB : R * B = 1) (hw : w * w = d) (hc : c * cr = -2 * B) : c * (2 * (p * q * d)) = s * (q * d) - s * p * w := by
  have e1 : c * cr * N0 = -2 * (cR * s) * s := by
    rw [hc, ← hn]
    have : -2 * B * (R * cR * (s * s)) = -2 * (cR * s) * s * (R * B) := by grind
    rw [this, hB]; grind
  have e2 : c * cr * N0 = c * (4 * (p * q * w)) := by rw [← hcr]; grind
  rw [e2, h2] at e1
  refine two4 ?_
  have : 2 * (c * (2 * (p * q * d))) = (c * (4 * (p * q * w))) * w := by rw [← hw]; grind
  rw [this, e1, ← hw]; grind
theorem repb2 (h2 : cR * s = p - q * w) (hcr : cr * N0 = -4 * (p * q * w)) (hw : w * w = d) (hb : b * cr = 2 * cR) : b * (2 * (p * q * d) * s) = N0 * (q * d) - N0 * p * w := by
  have e1 : b * cr * N0 * s = 2 * (cR * s) * N0 := by rw [hb]; grind
  have e2 : b * cr * N0 * s = b * (-4 * (p * q * w)) * s := by rw [← hcr]; grind
  rw [e2, h2] at e1
  refine two4 ?_
  have : 2 * (b * (2 * (p * q * d) * s)) = -(b * (-4 * (p * q * w)) * s * w) := by rw [← hw]; grind
  rw [this, e1, ← hw]; grind
theorem repc2 (h1 : R * s = p + q * w) (hcr : cr * N0 = -4 * (p * q * w)) (hw : w * w = d) (hc : c * cr = -2 * R) : c * (2 * (p * q * d) * s) = N0 * (q * d) + N0 * p * w := by
  have e1 : c * cr * N0 * s = -2 * (R * s) * N0 := by rw [hc]; grind
  have e2 : c * cr * N0 * s = c * (-4 * (p * q * w)) * s := by rw [← hcr]; grind
  rw [e2, h1] at e1
  refine two4 ?_
  have : 2 * (c * (2 * (p * q * d) * s)) = -(c * (-4 * (p * q * w)) * s * w) := by rw [← hw]; grind
  rw [this, e1, ← hw]; grind
/- the middle number, taken p q Z times -/
theorem repe1 (hx : x * Z = X + Y * w) (hx' : x' * Z = X - Y * w) (hb : b * (2 * (p * q * d)) = s * (q * d) + s * p * w) (hc : c * (2 * (p * q * d)) = s * (q * d) - s * p * w) (hw : w * w = d) (zd : d ≠ 0) :
    (b * x + c * x') * (p * q * Z) = s * (q * X + p * Y) := by
  refine cancel_z zd (two4 ?_)
  have : 2 * (d * ((b * x + c * x') * (p * q * Z))) = (b * (2 * (p * q * d))) * (x * Z) + (c * (2 * (p * q * d))) * (x' * Z) := by grind
  rw [this, hb, hc, hx, hx', ← hw]; grind
theorem repe2 (hx : x * Z = X + Y * w) (hx' : x' * Z = X - Y * w) (hb : b * (2 * (p * q * d) * s) = N0 * (q * d) - N0 * p * w) (hc : c * (2 * (p * q * d) * s) = N0 * (q * d) + N0 * p * w) (hw : w * w = d) (zd : d ≠ 0) :
    (b * x + c * x') * (p * q * Z * s) = N0 * (q * X - p * Y) := by
  refine cancel_z zd (two4 ?_)
  have : 2 * (d * ((b * x + c * x') * (p * q * Z * s))) = (b * (2 * (p * q * d) * s)) * (x * Z) + (c * (2 * (p * q * d) * s)) * (x' * Z) := by grind
  rw [this, hb, hc, hx, hx', ← hw]; grind
/- the three numbers on the line: k1 = N0 or s s, with a taken k1 times k2 -/
theorem line_rep {k1 k2 E E2 : QL D} (hx : x * Z = X + Y * w) (hx' : x' * Z = X - Y * w) (ha : a * k1 = σ * k2) (he : (b * x + c * x') * (p * q * Z * E2) = E) (hw : w * w = d) :
    (a * x + σ * x' + (b * x + c * x')) * (k1 * (p * q * Z * E2)) = σ * (p * q * E2) * ((k2 + k1) * X) + k1 * E + σ * (p * q * E2) * ((k2 - k1) * Y) * w ∧
    (2 * w * (a * x - σ * x')) * (k1 * Z) = 2 * (σ * ((k2 + k1) * Y * d)) + 2 * (σ * ((k2 - k1) * X)) * w ∧
    (d * (a * x + σ * x' - (b * x + c * x'))) * (k1 * (p * q * Z * E2)) = d * (σ * (p * q * E2) * ((k2 + k1) * X) - k1 * E) + d * (σ * (p * q * E2) * ((k2 - k1) * Y)) * w := by
  have f1 : a * x * (k1 * Z) = σ * k2 * (X + Y * w) := by
    have : a * x * (k1 * Z) = (a * k1) * (x * Z) := by grind
    rw [this, ha, hx]
  have f2 : σ * x' * (k1 * Z) = σ * k1 * (X - Y * w) := by
    have : σ * x' * (k1 * Z) = σ * k1 * (x' * Z) := by grind
    rw [this, hx']
  refine ⟨?_, ?_, ?_⟩
  · have : (a * x + σ * x' + (b * x + c * x')) * (k1 * (p * q * Z * E2)) = (a * x * (k1 * Z) + σ * x' * (k1 * Z)) * (p * q * E2) + k1 * ((b * x + c * x') * (p * q * Z * E2)) := by grind
    rw [this, f1, f2, he]; grind
  · have : (2 * w * (a * x - σ * x')) * (k1 * Z) = 2 * w * (a * x * (k1 * Z) - σ * x' * (k1 * Z)) := by grind
    rw [this, f1, f2, ← hw]; grind
  · have : (d * (a * x + σ * x' - (b * x + c * x'))) * (k1 * (p * q * Z * E2)) = d * ((a * x * (k1 * Z) + σ * x' * (k1 * Z)) * (p * q * E2) - k1 * ((b * x + c * x') * (p * q * Z * E2))) := by grind
    rw [this, f1, f2, he]; grind
/- the flat point, for m = σ cj r -/
theorem repg1 {g m : QL D} (h2 : cR * s = p - q * w) (hm : m = σ * cR) (hσ : σ * σ = 1) (hN : N0 = p * p - d * (q * q)) (hw : w * w = d) (hg : g * (m + 1) = w * (m - 1)) (zs : s ≠ 0) (zq : σ * (p - q * w) + s ≠ 0) :
    g * (N0 + 2 * (s * (σ * p)) + s * s) = -2 * (s * (σ * (q * d))) + (N0 - s * s) * w := by
  have ms : m * s = σ * (p - q * w) := by rw [hm, ← h2]; grind
  have e1 : g * (σ * (p - q * w) + s) = w * (σ * (p - q * w) - s) := by
    have : g * (m + 1) * s = w * (m - 1) * s := by rw [hg]
    have e2 : g * (m + 1) * s = g * (m * s + s) := by grind
    have e3 : w * (m - 1) * s = w * (m * s - s) := by grind
    rw [e2, e3, ms] at this
    exact this
  have k : (σ * (p - q * w) + s) * (σ * (p + q * w) + s) = N0 + 2 * (s * (σ * p)) + s * s := by
    have : (σ * (p - q * w) + s) * (σ * (p + q * w) + s) = (σ * σ) * (p * p - (w * w) * (q * q)) + 2 * (s * (σ * p)) + s * s := by grind
    rw [this, hσ, hw, hN]; grind
  have : g * (N0 + 2 * (s * (σ * p)) + s * s) = (g * (σ * (p - q * w) + s)) * (σ * (p + q * w) + s) := by rw [← k]; grind
  rw [this, e1]
  have : w * (σ * (p - q * w) - s) * (σ * (p + q * w) + s) = w * ((σ * σ) * (p * p - (w * w) * (q * q)) - s * s) - 2 * (s * (σ * (q * (w * w)))) := by grind
  rw [this, hσ, hw, ← hN.trans rfl]
  rw [hN]; grind
end
/-! tiles that fill a rectangle -/
structure TQ (D : Dt) where
  x : QL D
  y : QL D
  w : QL D
  h : QL D
section
variable {D : Dt}
def tV (t : TQ D) : Tl := ⟨t.x.v, t.y.v, t.w.v, t.h.v⟩
def sepQ (a b : TQ D) : Prop := a.x + a.w ≤ b.x ∨ b.x + b.w ≤ a.x ∨ a.y + a.h ≤ b.y ∨ b.y + b.h ≤ a.y
def inQ (t : TQ D) (px py : QL D) : Prop := t.x ≤ px ∧ px < t.x + t.w ∧ t.y ≤ py ∧ py < t.y + t.h
def arQ : List (TQ D) → QL D
  | [] => 0
  | t :: ts => t.w * t.h + arQ ts
theorem sepQ_symm {a b : TQ D} (h : sepQ a b) : sepQ b a := by
  rcases h with h | h | h | h
  · exact .inr (.inl h)
  · exact .inl h
  · exact .inr (.inr (.inr h))
  · exact .inr (.inr (.inl h))
structure Rect (x0 x1 y0 y1 : QL D) (M : List (TQ D)) : Prop where
  el : ∀ t ∈ M, x0 ≤ t.x ∧ t.x + t.w ≤ x1 ∧ y0 ≤ t.y ∧ t.y + t.h ≤ y1 ∧ 0 < t.w ∧ 0 < t.h
  sp : M.Pairwise sepQ
  ar : arQ M = (x1 - x0) * (y1 - y0)
  cov : ∀ px py, x0 ≤ px → px < x1 → y0 ≤ py → py < y1 → ∃ t ∈ M, inQ t px py
theorem g_le {a b c : QL D} (h : a ≤ b) (k : b ≤ c) : a ≤ c := by grind
theorem g_ltle {a b c : QL D} (h : a < b) (k : b ≤ c) : a < c := by grind
theorem g_lelt {a b c : QL D} (h : a ≤ b) (k : b < c) : a < c := by grind
theorem g_nlt {a b : QL D} (h : ¬ a < b) : b ≤ a := by grind
theorem g_abs {a b : QL D} (h : a < b) (k : b ≤ a) : False := by grind
theorem arQ_app : ∀ (L M : List (TQ D)), arQ (L ++ M) = arQ L + arQ M
  | [], M => by show arQ M = 0 + arQ M; grind
  | t :: L, M => by
    show t.w * t.h + arQ (L ++ M) = t.w * t.h + arQ L + arQ M
    rw [arQ_app L M]; grind
theorem arQ_perm {L M : List (TQ D)} (p : L.Perm M) : arQ L = arQ M := by
  induction p with
  | nil => rfl
  | cons t p ih => show _ + _ = _ + _; rw [ih]
  | swap s t l => show t.w * t.h + (s.w * s.h + arQ l) = s.w * s.h + (t.w * t.h + arQ l); grind
  | trans p q ih1 ih2 => rw [ih1, ih2]
theorem rect_perm {x0 x1 y0 y1 : QL D} {L M : List (TQ D)} (p : L.Perm M) (a : Rect x0 x1 y0 y1 L) : Rect x0 x1 y0 y1 M :=
  ⟨fun t ht => a.el t (p.mem_iff.mpr ht), (p.pairwise_iff (fun h => sepQ_symm h)).mp a.sp, by rw [← arQ_perm p]; exact a.ar, fun px py h1 h2 h3 h4 => by
    obtain ⟨t, ht, k⟩ := a.cov px py h1 h2 h3 h4
    exact ⟨t, p.mem_iff.mp ht, k⟩⟩
theorem one_ar {x w y h : QL D} : w * h + 0 = (x + w - x) * (y + h - y) := by grind
theorem rect_one {x y w h : QL D} (pw : 0 < w) (ph : 0 < h) : Rect x (x + w) y (y + h) [⟨x, y, w, h⟩] :=
  ⟨fun t ht => by rw [List.mem_singleton.mp ht]; exact ⟨by grind, by grind, by grind, by grind, pw, ph⟩, List.pairwise_singleton _ _, one_ar, fun px py h1 h2 h3 h4 => ⟨_, List.mem_singleton.mpr rfl, h1, h2, h3, h4⟩⟩
theorem be_ar {a b c y0 y1 : QL D} : (b - a) * (y1 - y0) + (c - b) * (y1 - y0) = (c - a) * (y1 - y0) := by grind
theorem rect_beside {a b c y0 y1 : QL D} {L M : List (TQ D)} (h1 : a ≤ b) (h2 : b ≤ c) (r : Rect a b y0 y1 L) (s : Rect b c y0 y1 M) : Rect a c y0 y1 (L ++ M) := by
  refine ⟨fun t ht => ?_, ?_, ?_, fun px py k1 k2 k3 k4 => ?_⟩
  · rcases List.mem_append.mp ht with ht | ht
    · obtain ⟨e1, e2, e3⟩ := r.el t ht
      exact ⟨e1, g_le e2 h2, e3⟩
    · obtain ⟨e1, e2, e3⟩ := s.el t ht
      exact ⟨g_le h1 e1, e2, e3⟩
  · rw [List.pairwise_append]
    refine ⟨r.sp, s.sp, fun t ht u hu => .inl ?_⟩
    exact g_le (r.el t ht).2.1 (s.el u hu).1
  · rw [arQ_app, r.ar, s.ar]; exact be_ar
  · by_cases c : px < b
    · obtain ⟨t, ht, k⟩ := r.cov px py k1 c k3 k4
      exact ⟨t, List.mem_append_left _ ht, k⟩
    · obtain ⟨t, ht, k⟩ := s.cov px py (g_nlt c) k2 k3 k4
      exact ⟨t, List.mem_append_right _ ht, k⟩
def tnQ (t : TQ D) : TQ D := ⟨t.y, t.x, t.h, t.w⟩
def mvQ (u v : QL D) (t : TQ D) : TQ D := ⟨t.x + u, t.y + v, t.w, t.h⟩
def scQ (k : QL D) (t : TQ D) : TQ D := ⟨k * t.x, k * t.y, k * t.w, k * t.h⟩
theorem arQ_map {f : TQ D → TQ D} {k : QL D} (hf : ∀ t, (f t).w * (f t).h = k * (t.w * t.h)) : ∀ M : List (TQ D), arQ (M.map f) = k * arQ M
  | [] => by show (0 : QL D) = k * 0; grind
  | t :: M => by
    show (f t).w * (f t).h + arQ (M.map f) = k * (t.w * t.h + arQ M)
    rw [hf t, arQ_map hf M]; grind
theorem tn_ar {a b c e : QL D} : 1 * ((b - a) * (e - c)) = (e - c) * (b - a) := by grind
theorem rect_turn {x0 x1 y0 y1 : QL D} {M : List (TQ D)} (r : Rect x0 x1 y0 y1 M) : Rect y0 y1 x0 x1 (M.map tnQ) := by
  refine ⟨fun t ht => ?_, ?_, ?_, fun px py k1 k2 k3 k4 => ?_⟩
  · obtain ⟨u, hu, rfl⟩ := List.mem_map.mp ht
    obtain ⟨e1, e2, e3, e4, e5, e6⟩ := r.el u hu
    exact ⟨e3, e4, e1, e2, e6, e5⟩
  · rw [List.pairwise_map]
    refine r.sp.imp fun {a b} h => ?_
    rcases h with h | h | h | h
    · exact .inr (.inr (.inl h))
    · exact .inr (.inr (.inr h))
    · exact .inl h
    · exact .inr (.inl h)
  · rw [arQ_map (k := 1) (fun t => by show t.h * t.w = 1 * (t.w * t.h); grind), r.ar]; exact tn_ar
  · obtain ⟨t, ht, i1, i2, i3, i4⟩ := r.cov py px k3 k4 k1 k2
    exact ⟨_, List.mem_map_of_mem ht, i3, i4, i1, i2⟩
theorem mv_ar {a b c e u v : QL D} : 1 * ((b - a) * (e - c)) = (b + u - (a + u)) * (e + v - (c + v)) := by grind
theorem mv1 {a b u : QL D} (h : a ≤ b) : a + u ≤ b + u := by grind
theorem mv2 {x w b u : QL D} (h : x + w ≤ b) : x + u + w ≤ b + u := by grind
theorem mv3 {a p u : QL D} (h : a + u ≤ p) : a ≤ p - u := by grind
theorem mv4 {b p u : QL D} (h : p < b + u) : p - u < b := by grind
theorem mv5 {a p u : QL D} (h : a ≤ p - u) : a + u ≤ p := by grind
theorem mv6 {a w p u : QL D} (h : p - u < a + w) : p < a + u + w := by grind
theorem rect_move {x0 x1 y0 y1 : QL D} {M : List (TQ D)} (r : Rect x0 x1 y0 y1 M) (u v : QL D) : Rect (x0 + u) (x1 + u) (y0 + v) (y1 + v) (M.map (mvQ u v)) := by
  refine ⟨fun t ht => ?_, ?_, ?_, fun px py k1 k2 k3 k4 => ?_⟩
  · obtain ⟨t, hu, rfl⟩ := List.mem_map.mp ht
    obtain ⟨e1, e2, e3, e4, e5, e6⟩ := r.el t hu
    exact ⟨mv1 e1, mv2 e2, mv1 e3, mv2 e4, e5, e6⟩
  · rw [List.pairwise_map]
    refine r.sp.imp fun {a b} h => ?_
    rcases h with h | h | h | h
    · exact .inl (mv2 h)
    · exact .inr (.inl (mv2 h))
    · exact .inr (.inr (.inl (mv2 h)))
    · exact .inr (.inr (.inr (mv2 h)))
  · rw [arQ_map (k := 1) (fun t => by show t.w * t.h = 1 * (t.w * t.h); grind), r.ar]; exact mv_ar
  · obtain ⟨t, ht, i1, i2, i3, i4⟩ := r.cov (px - u) (py - v) (mv3 k1) (mv4 k2) (mv3 k3) (mv4 k4)
    exact ⟨_, List.mem_map_of_mem ht, mv5 i1, mv6 i2, mv5 i3, mv6 i4⟩
theorem sc_ar {a b c e k : QL D} : k * k * ((b - a) * (e - c)) = (k * b - k * a) * (k * e - k * c) := by grind
theorem sc1 {k a b : QL D} (pk : 0 < k) (h : a ≤ b) : k * a ≤ k * b := by
  by_cases c : a = b
  · rw [c]; grind
  · have := QL.mul_pos' pk (show 0 < b - a by grind)
    grind
theorem sc2 {k x w b : QL D} (pk : 0 < k) (h : x + w ≤ b) : k * x + k * w ≤ k * b := by
  have := sc1 pk h
  grind
theorem sc_lt {k a b : QL D} (pk : 0 < k) (h : a < b) : k * a < k * b := by
  have := QL.mul_pos' pk (show 0 < b - a by grind)
  grind
theorem rect_scale {x0 x1 y0 y1 k : QL D} (pk : 0 < k) {M : List (TQ D)} (r : Rect x0 x1 y0 y1 M) : Rect (k * x0) (k * x1) (k * y0) (k * y1) (M.map (scQ k)) := by
  have mi := QL.mul_inv (pos_ne pk)
  have ip := QL.inv_pos' pk
  have back {a : QL D} : k⁻¹ * (k * a) = a := by
    generalize k⁻¹ = J at mi ⊢
    grind
  have fwd {a : QL D} : k * (k⁻¹ * a) = a := by
    generalize k⁻¹ = J at mi ⊢
    grind
  refine ⟨fun t ht => ?_, ?_, ?_, fun px py k1 k2 k3 k4 => ?_⟩
  · obtain ⟨t, hu, rfl⟩ := List.mem_map.mp ht
    obtain ⟨e1, e2, e3, e4, e5, e6⟩ := r.el t hu
    exact ⟨sc1 pk e1, sc2 pk e2, sc1 pk e3, sc2 pk e4, QL.mul_pos' pk e5, QL.mul_pos' pk e6⟩
  · rw [List.pairwise_map]
    refine r.sp.imp fun {a b} h => ?_
    rcases h with h | h | h | h
    · exact .inl (sc2 pk h)
    · exact .inr (.inl (sc2 pk h))
    · exact .inr (.inr (.inl (sc2 pk h)))
    · exact .inr (.inr (.inr (sc2 pk h)))
  · rw [arQ_map (k := k * k) (fun t => by show k * t.w * (k * t.h) = k * k * (t.w * t.h); grind), r.ar]; exact sc_ar
  · have a1 := sc1 ip k1
    have a2 := sc_lt ip k2
    have a3 := sc1 ip k3
    have a4 := sc_lt ip k4
    rw [back] at a1 a2 a3 a4
    obtain ⟨t, ht, i1, i2, i3, i4⟩ := r.cov (k⁻¹ * px) (k⁻¹ * py) a1 a2 a3 a4
    have b1 := sc1 pk i1
    have b2 := sc_lt pk i2
    have b3 := sc1 pk i3
    have b4 := sc_lt pk i4
    rw [fwd] at b1 b2 b3 b4
    have d1 : px < k * t.x + k * t.w := by
      have : k * (t.x + t.w) = k * t.x + k * t.w := by grind
      rwa [this] at b2
    have d2 : py < k * t.y + k * t.h := by
      have : k * (t.y + t.h) = k * t.y + k * t.h := by grind
      rwa [this] at b4
    exact ⟨_, List.mem_map_of_mem ht, b1, d1, b3, d2⟩
theorem tn_tn (M : List (TQ D)) : (M.map tnQ).map tnQ = M := by
  rw [List.map_map]
  have : (tnQ ∘ tnQ : TQ D → TQ D) = id := rfl
  rw [this]; simp
theorem rect_above {x0 x1 a b c : QL D} {L M : List (TQ D)} (h1 : a ≤ b) (h2 : b ≤ c) (r : Rect x0 x1 a b L) (s : Rect x0 x1 b c M) : Rect x0 x1 a c (L ++ M) := by
  have := rect_turn (rect_beside h1 h2 (rect_turn r) (rect_turn s))
  rw [List.map_append, tn_tn, tn_tn] at this
  exact this
theorem rp_ar {A B C T E : QL D} (h : A + (T + B) = E) (k : C = T) : A + B + C = E := by rw [k]; grind
theorem rp_t {x w y h : QL D} : (x + w - x) * (y + h - y) = w * h := by grind
theorem sep_sub {x1 w1 b1 x2 w2 x0 w0 : QL D} (h : x0 + w0 ≤ x2) (k : x1 + w1 ≤ x0 + w0) : x1 + w1 ≤ x2 := by grind
theorem rect_repl {x0 x1 y0 y1 : QL D} {l r ps : List (TQ D)} {t : TQ D} (a : Rect x0 x1 y0 y1 (l ++ t :: r)) (b : Rect t.x (t.x + t.w) t.y (t.y + t.h) ps) : Rect x0 x1 y0 y1 (l ++ r ++ ps) := by
  have pm : (l ++ t :: r).Perm (t :: (l ++ r)) := List.perm_middle
  have a' := rect_perm pm a
  have tm := a'.el t List.mem_cons_self
  have sp := List.pairwise_cons.mp a'.sp
  refine ⟨fun s hs => ?_, ?_, ?_, fun px py k1 k2 k3 k4 => ?_⟩
  · rcases List.mem_append.mp hs with hs | hs
    · exact a'.el s (List.mem_cons_of_mem _ hs)
    · obtain ⟨e1, e2, e3, e4, e5, e6⟩ := b.el s hs
      exact ⟨g_le tm.1 e1, g_le e2 tm.2.1, g_le tm.2.2.1 e3, g_le e4 tm.2.2.2.1, e5, e6⟩
  · rw [List.pairwise_append]
    refine ⟨sp.2, b.sp, fun u hu s hs => ?_⟩
    obtain ⟨e1, e2, e3, e4, -, -⟩ := b.el s hs
    rcases sp.1 u hu with h | h | h | h
    · exact .inr (.inl (g_le e2 h))
    · exact .inl (g_le h e1)
    · exact .inr (.inr (.inr (g_le e4 h)))
    · exact .inr (.inr (.inl (g_le h e3)))
  · have := a.ar
    rw [arQ_app] at this
    rw [arQ_app, arQ_app]
    exact rp_ar this (by rw [b.ar]; exact rp_t)
  · obtain ⟨u, hu, k⟩ := a'.cov px py k1 k2 k3 k4
    rcases List.mem_cons.mp hu with h | h
    · subst h
      obtain ⟨s, hs, k'⟩ := b.cov px py k.1 k.2.1 k.2.2.1 k.2.2.2
      exact ⟨s, List.mem_append_right _ hs, k'⟩
    · exact ⟨u, List.mem_append_left _ h, k⟩
/-! from the rectangle to the cutting of the law -/
theorem arQ_fold : ∀ (M : List (TQ D)) (T : QL D), (M.map tV).foldl (fun T t => addL T (mulL D.d t.w t.h)) T.v = (T + arQ M).v
  | [], T => congrArg QL.v (show T = T + 0 by grind)
  | t :: M, T => by
    rw [List.map_cons, List.foldl_cons]
    have := arQ_fold M (T + t.w * t.h)
    refine Eq.trans this (congrArg QL.v ?_)
    show T + t.w * t.h + arQ M = T + (t.w * t.h + arQ M)
    grind
theorem rect_strip {l r H : QL D} {M : List (TQ D)} (a : Rect l r 0 H M) : Strip l r H (M.map tV) := by
  refine ⟨fun t ht => ?_, ?_, fun T => ?_⟩
  · obtain ⟨u, hu, rfl⟩ := List.mem_map.mp ht
    obtain ⟨e1, e2, e3, e4, e5, e6⟩ := a.el u hu
    exact ⟨u.x, u.y, u.w, u.h, rfl, e1, e2, e3, e4, e5, e6⟩
  · rw [List.pairwise_map]
    refine a.sp.imp fun {s t} h => ?_
    rcases h with h | h | h | h
    · exact .inr (.inl (not1 (a := s.x + s.w) (b := t.x) h))
    · exact .inl (not1 (a := t.x + t.w) (b := s.x) h)
    · exact .inr (.inr (.inr (not1 (a := s.y + s.h) (b := t.y) h)))
    · exact .inr (.inr (.inl (not1 (a := t.y + t.h) (b := s.y) h)))
  · rw [arQ_fold, a.ar]
    exact congrArg QL.v (show T + (r - l) * (H - 0) = T + (r - l) * H by grind)
theorem rect_cut {W H : QL D} {M : List (TQ D)} (a : Rect 0 W 0 H M) (gd : ∀ t ∈ M, Gd 700 t.x.v ∧ Gd 700 t.y.v ∧ Gd 700 t.w.v ∧ Gd 700 t.h.v) : CutK D.d W.v H.v (sortT D.d (M.map tV)) :=
  strip_cut (rect_strip a) fun t ht => by
    obtain ⟨u, hu, rfl⟩ := List.mem_map.mp ht
    exact gd u hu
end
/-! levels: a cutting lies flat, tile by tile -/
structure Lv (D : Dt) where
  a : QL D
  b : QL D
  h : QL D
section
variable {D : Dt}
def Chn : QL D → List (Lv D) → QL D → Prop
  | p, [], q => p = q
  | p, l :: r, q => l.a = p ∧ l.a < l.b ∧ Chn l.b r q
theorem chn_app : ∀ {l r : List (Lv D)} {p q : QL D}, Chn p (l ++ r) q ↔ ∃ m, Chn p l m ∧ Chn m r q
  | [], r, p, q => ⟨fun h => ⟨p, rfl, h⟩, fun ⟨m, h1, h2⟩ => by have h1 : p = m := h1; subst h1; exact h2⟩
  | l :: L, r, p, q => by
    constructor
    · rintro ⟨h1, h2, h3⟩
      obtain ⟨m, k1, k2⟩ := chn_app.mp h3
      exact ⟨m, ⟨h1, h2, k1⟩, k2⟩
    · rintro ⟨m, ⟨h1, h2, h3⟩, k2⟩
      exact ⟨h1, h2, chn_app.mpr ⟨m, h3, k2⟩⟩
theorem chn_lo : ∀ {ls : List (Lv D)} {p q : QL D}, Chn p ls q → p ≤ q ∧ ∀ l ∈ ls, p ≤ l.a ∧ l.b ≤ q ∧ l.a < l.b
  | [], p, q, h => ⟨by have h : p = q := h; rw [h]; grind, fun _ h => absurd h (by simp)⟩
  | l :: L, p, q, ⟨h1, h2, h3⟩ => by
    obtain ⟨k1, k2⟩ := chn_lo h3
    refine ⟨by rw [← h1]; grind, fun x hx => ?_⟩
    rcases List.mem_cons.mp hx with hx | hx
    · subst hx; exact ⟨by rw [← h1]; grind, k1, h2⟩
    · obtain ⟨a1, a2, a3⟩ := k2 x hx
      exact ⟨by rw [← h1]; grind, a2, a3⟩
theorem chn_at : ∀ {ls : List (Lv D)} {p q x : QL D}, Chn p ls q → p ≤ x → x < q → ∃ l ∈ ls, l.a ≤ x ∧ x < l.b
  | [], p, q, x, h, h1, h2 => by have h : p = q := h; subst h; exact absurd h2 (by grind)
  | l :: L, p, q, x, ⟨e1, e2, e3⟩, h1, h2 => by
    by_cases c : x < l.b
    · exact ⟨l, List.mem_cons_self, by rw [e1]; exact h1, c⟩
    · obtain ⟨m, hm, k⟩ := chn_at e3 (g_nlt c) h2
      exact ⟨m, List.mem_cons_of_mem _ hm, k⟩
theorem split1 {L : QL D} : ∀ {ls : List (Lv D)} {p q : QL D}, Chn p ls q → p ≤ L → L < q → ∃ A B m, ls = A ++ B ∧ Chn p A m ∧ Chn m B q ∧ m ≤ L ∧ (∀ l ∈ A, l.b ≤ L) ∧ (∀ l ∈ B, L < l.b)
  | [], p, q, h, h1, h2 => by have h : p = q := h; subst h; exact absurd h2 (by grind)
  | l :: r, p, q, ⟨e1, e2, e3⟩, h1, h2 => by
    by_cases c : L < l.b
    · refine ⟨[], l :: r, p, rfl, rfl, ⟨e1, e2, e3⟩, h1, fun _ h => absurd h (by simp), fun x hx => ?_⟩
      rcases List.mem_cons.mp hx with hx | hx
      · subst hx; exact c
      · obtain ⟨a1, a2, a3⟩ := (chn_lo e3).2 x hx
        grind
    · obtain ⟨A, B, m, k1, k2, k3, k4, k5, k6⟩ := split1 e3 (g_nlt c) h2
      refine ⟨l :: A, B, m, by rw [k1]; rfl, ⟨e1, e2, k2⟩, k3, k4, fun x hx => ?_, k6⟩
      rcases List.mem_cons.mp hx with hx | hx
      · subst hx; exact g_nlt c
      · exact k5 x hx
theorem split2 {R : QL D} : ∀ {ls : List (Lv D)} {p q : QL D}, Chn p ls q → p < R → R ≤ q → ∃ A C m, ls = A ++ C ∧ Chn p A m ∧ Chn m C q ∧ R ≤ m ∧ (∀ l ∈ A, l.a < R) ∧ (∀ l ∈ C, R ≤ l.a) ∧ A ≠ []
  | [], p, q, h, h1, h2 => by have h : p = q := h; subst h; exact absurd h1 (by grind)
  | l :: r, p, q, ⟨e1, e2, e3⟩, h1, h2 => by
    by_cases c : l.b < R
    · obtain ⟨A, C, m, k1, k2, k3, k4, k5, k6, k7⟩ := split2 e3 c h2
      refine ⟨l :: A, C, m, by rw [k1]; rfl, ⟨e1, e2, k2⟩, k3, k4, fun x hx => ?_, k6, by simp⟩
      rcases List.mem_cons.mp hx with hx | hx
      · subst hx; rw [e1]; exact h1
      · exact k5 x hx
    · refine ⟨[l], r, l.b, rfl, ⟨e1, e2, rfl⟩, e3, g_nlt c, fun x hx => ?_, fun x hx => ?_, by simp⟩
      · rw [List.mem_singleton.mp hx, e1]; exact h1
      · exact g_le (g_nlt c) ((chn_lo e3).2 x hx).1
structure GoodL (W H : QL D) (done : List (TQ D)) (ls : List (Lv D)) : Prop where
  ch : Chn 0 ls W
  cv : ∀ l ∈ ls, 0 ≤ l.h ∧ l.h ≤ H ∧ ∀ px, l.a ≤ px → px < l.b → ∀ py, 0 ≤ py → ((∃ t ∈ done, inQ t px py) ↔ py < l.h)
theorem no_both {s t : TQ D} {px py : QL D} (h : sepQ s t) (a : inQ s px py) (b : inQ t px py) : False := by
  obtain ⟨a1, a2, a3, a4⟩ := a
  obtain ⟨b1, b2, b3, b4⟩ := b
  rcases h with h | h | h | h <;> grind
theorem lt_of_w {y h H : QL D} (h1 : y + h ≤ H) (h2 : 0 < h) : y < H := by grind
theorem lt_rw {x w : QL D} (h : 0 < w) : x < x + w := by grind
/- under the next tile all levels have the height of its lower edge -/
theorem flat_under {W H : QL D} {dn rest : List (TQ D)} {T : TQ D} (rc : Rect 0 W 0 H (dn ++ T :: rest)) (so : ∀ u ∈ rest, T.y ≤ u.y) {ls : List (Lv D)} (g : GoodL W H dn ls) {l : Lv D} (hl : l ∈ ls) (h1 : T.x < l.b) (h2 : l.a < T.x + T.w) : l.h = T.y := by
  obtain ⟨t1, t2, t3, t4, t5, t6⟩ := rc.el T (by simp)
  obtain ⟨c1, c2, c3⟩ := g.cv l hl
  obtain ⟨-, d⟩ := chn_lo g.ch
  obtain ⟨d1, d2, d3⟩ := d l hl
  obtain ⟨px, p1, p2, p3, p4⟩ : ∃ px, l.a ≤ px ∧ px < l.b ∧ T.x ≤ px ∧ px < T.x + T.w := by
    by_cases c : l.a ≤ T.x
    · exact ⟨T.x, c, h1, by grind, lt_rw t5⟩
    · exact ⟨l.a, by grind, d3, by grind, h2⟩
  have sp := rc.sp
  rw [List.pairwise_append] at sp
  obtain ⟨-, -, sp⟩ := sp
  have e1 : ¬ T.y < l.h := fun z => by
    obtain ⟨t, ht, k⟩ := (c3 px p1 p2 T.y t3).mpr z
    exact no_both (sp t ht T (by simp)) k ⟨p3, p4, by grind, lt_rw t6⟩
  have e2 : ¬ l.h < T.y := fun z => by
    obtain ⟨u, hu, k⟩ := rc.cov px l.h (g_le t1 p3) (g_ltle p4 t2) c1 (by have := lt_of_w t4 t6; grind)
    rcases List.mem_append.mp hu with hu | hu
    · have := (c3 px p1 p2 l.h c1).mp ⟨u, hu, k⟩
      grind
    · rcases List.mem_cons.mp hu with hu | hu
      · subst hu; have := k.2.2.1; grind
      · have := so u hu; have := k.2.2.1; grind
  grind
noncomputable def lefL (m : QL D) (T : TQ D) : List (Lv D) := @ite _ (m < T.x) (Classical.propDecidable _) [⟨m, T.x, T.y⟩] []
noncomputable def rigL (m : QL D) (T : TQ D) : List (Lv D) := @ite _ (T.x + T.w < m) (Classical.propDecidable _) [⟨T.x + T.w, m, T.y⟩] []
theorem no_in {T : TQ D} {px py : QL D} (h : px < T.x ∨ T.x + T.w ≤ px) (k : inQ T px py) : False := by
  obtain ⟨a1, a2, -, -⟩ := k
  rcases h with h | h <;> grind
theorem ex_done {dn : List (TQ D)} {T : TQ D} {px py : QL D} (h : px < T.x ∨ T.x + T.w ≤ px) : (∃ t ∈ dn ++ [T], inQ t px py) ↔ ∃ t ∈ dn, inQ t px py := by
  constructor
  · rintro ⟨t, ht, k⟩
    rcases List.mem_append.mp ht with ht | ht
    · exact ⟨t, ht, k⟩
    · rw [List.mem_singleton.mp ht] at k
      exact absurd k (no_in h)
  · rintro ⟨t, ht, k⟩
    exact ⟨t, List.mem_append_left _ ht, k⟩
theorem good_step {W H : QL D} {dn rest : List (TQ D)} {T : TQ D} (rc : Rect 0 W 0 H (dn ++ T :: rest)) (so : ∀ u ∈ rest, T.y ≤ u.y) {A B C : List (Lv D)} {m m2 : QL D} (g : GoodL W H dn (A ++ B ++ C))
    (k1 : Chn 0 A m) (k2 : Chn m B m2) (k3 : Chn m2 C W) (h1 : m ≤ T.x) (h2 : T.x + T.w ≤ m2) (hA : ∀ l ∈ A, l.b ≤ T.x) (hB : ∀ l ∈ B, T.x < l.b) (hB2 : ∀ l ∈ B, l.a < T.x + T.w) (hC : ∀ l ∈ C, T.x + T.w ≤ l.a) :
    (∀ l ∈ B, l.h = T.y) ∧ GoodL W H (dn ++ [T]) (A ++ lefL m T ++ [⟨T.x, T.x + T.w, T.y + T.h⟩] ++ (rigL m2 T ++ C)) := by
  obtain ⟨t1, t2, t3, t4, t5, t6⟩ := rc.el T (by simp)
  have fl : ∀ l ∈ B, l.h = T.y := fun l hl => flat_under rc so g (by simp [hl]) (hB l hl) (hB2 l hl)
  refine ⟨fl, ?_, fun l hl => ?_⟩
  · refine chn_app.mpr ⟨T.x + T.w, chn_app.mpr ⟨T.x, chn_app.mpr ⟨m, k1, ?_⟩, rfl, lt_rw t5, rfl⟩, chn_app.mpr ⟨m2, ?_, k3⟩⟩
    · unfold lefL
      by_cases c : m < T.x
      · rw [if_pos c]; exact ⟨rfl, c, rfl⟩
      · rw [if_neg c]; show m = T.x; grind
    · unfold rigL
      by_cases c : T.x + T.w < m2
      · rw [if_pos c]; exact ⟨rfl, c, rfl⟩
      · rw [if_neg c]; show T.x + T.w = m2; grind
  · rcases List.mem_append.mp hl with hl | hl
    · rcases List.mem_append.mp hl with hl | hl
      · rcases List.mem_append.mp hl with hl | hl
        · obtain ⟨c1, c2, c3⟩ := g.cv l (by simp [hl])
          refine ⟨c1, c2, fun px p1 p2 py p3 => ?_⟩
          rw [ex_done (.inl (g_ltle p2 (hA l hl)))]
          exact c3 px p1 p2 py p3
        · unfold lefL at hl
          by_cases c : m < T.x
          · rw [if_pos c] at hl
            rw [List.mem_singleton.mp hl]
            refine ⟨t3, by have := lt_of_w t4 t6; show T.y ≤ H; grind, fun px p1 p2 py p3 => ?_⟩
            rw [ex_done (.inl p2)]
            obtain ⟨l', hl', q1, q2⟩ := chn_at k2 p1 (g_ltle p2 (g_le (show T.x ≤ T.x + T.w by grind) h2))
            rw [(g.cv l' (by simp [hl'])).2.2 px q1 q2 py p3, fl l' hl']
          · rw [if_neg c] at hl; cases hl
      · rw [List.mem_singleton.mp hl]
        refine ⟨QL.nn_add' t3 (by grind), t4, fun px p1 p2 py p3 => ?_⟩
        have p1 : T.x ≤ px := p1
        have p2 : px < T.x + T.w := p2
        obtain ⟨l', hl', q1, q2⟩ := chn_at k2 (g_le h1 p1) (g_ltle p2 h2)
        have cv := (g.cv l' (by simp [hl'])).2.2 px q1 q2 py p3
        rw [fl l' hl'] at cv
        show _ ↔ py < T.y + T.h
        constructor
        · rintro ⟨t, ht, k⟩
          rcases List.mem_append.mp ht with ht | ht
          · have := cv.mp ⟨t, ht, k⟩
            grind
          · rw [List.mem_singleton.mp ht] at k
            exact k.2.2.2
        · intro k
          by_cases c : py < T.y
          · obtain ⟨t, ht, k⟩ := cv.mpr c
            exact ⟨t, List.mem_append_left _ ht, k⟩
          · exact ⟨T, by simp, p1, p2, g_nlt c, k⟩
    · rcases List.mem_append.mp hl with hl | hl
      · unfold rigL at hl
        by_cases c : T.x + T.w < m2
        · rw [if_pos c] at hl
          rw [List.mem_singleton.mp hl]
          refine ⟨t3, by have := lt_of_w t4 t6; show T.y ≤ H; grind, fun px p1 p2 py p3 => ?_⟩
          rw [ex_done (.inr p1)]
          have p1 : T.x + T.w ≤ px := p1
          obtain ⟨l', hl', q1, q2⟩ := chn_at k2 (show m ≤ px by grind) p2
          rw [(g.cv l' (by simp [hl'])).2.2 px q1 q2 py p3, fl l' hl']
        · rw [if_neg c] at hl; cases hl
      · obtain ⟨c1, c2, c3⟩ := g.cv l (by simp [hl])
        refine ⟨c1, c2, fun px p1 p2 py p3 => ?_⟩
        rw [ex_done (.inr (g_le (hC l hl) p1))]
        exact c3 px p1 p2 py p3
theorem good_start {W H : QL D} (pW : 0 < W) (pH : 0 < H) : GoodL W H [] [⟨0, W, 0⟩] := by
  refine ⟨⟨rfl, pW, rfl⟩, fun l hl => ?_⟩
  rw [List.mem_singleton.mp hl]
  refine ⟨by grind, by show (0 : QL D) ≤ H; grind, fun px p1 p2 py p3 => ?_⟩
  constructor
  · rintro ⟨t, ht, -⟩; cases ht
  · intro h
    have h : py < 0 := h
    exact absurd h (by grind)
theorem good_end {W H : QL D} {M : List (TQ D)} (rc : Rect 0 W 0 H M) {ls : List (Lv D)} (g : GoodL W H M ls) : ∀ l ∈ ls, l.h = H := by
  intro l hl
  obtain ⟨c1, c2, c3⟩ := g.cv l hl
  obtain ⟨-, d⟩ := chn_lo g.ch
  obtain ⟨d1, d2, d3⟩ := d l hl
  have : ¬ l.h < H := fun z => by
    obtain ⟨t, ht, k⟩ := rc.cov l.a l.h d1 (g_ltle d3 d2) c1 z
    have := (c3 l.a (by grind) d3 l.h c1).mp ⟨t, ht, k⟩
    grind
  grind
end
/-! whole combinations of 1 and the root, and quotients of them -/
section
variable {D : Dt}
def Zw (n : Nat) (x : QL D) : Prop := ∃ A B : Int, x = (A : QL D) + (B : QL D) * QL.w ∧ Sz n A ∧ Sz n B
theorem zw_mono {n m : Nat} {x : QL D} (h : Zw n x) (e : n ≤ m) : Zw m x := by
  obtain ⟨A, B, h1, h2, h3⟩ := h
  exact ⟨A, B, h1, h2.mono e, h3.mono e⟩
theorem zw_int {n : Nat} {i : Int} (h : Sz n i) : Zw n ((i : Int) : QL D) := ⟨i, 0, by rw [QL.int_0]; grind, h, Nat.two_pow_pos _⟩
theorem zwa {A B C E w : QL D} : A + B * w + (C + E * w) = (A + C) + (B + E) * w := by grind
theorem zw_add {n : Nat} {x y : QL D} (h : Zw n x) (k : Zw n y) : Zw (n + 1) (x + y) := by
  obtain ⟨A, B, rfl, h2, h3⟩ := h
  obtain ⟨C, E, rfl, k2, k3⟩ := k
  exact ⟨A + C, B + E, by rw [QL.int_add, QL.int_add]; exact zwa, Sz.add h2 k2, Sz.add h3 k3⟩
theorem zwm {A B C E w dd : QL D} (h : w * w = dd) : (A + B * w) * (C + E * w) = (A * C + dd * (B * E)) + (A * E + B * C) * w := by rw [← h]; grind
theorem zw_mul (sd : Sz 6 D.d) {n m : Nat} {x y : QL D} (h : Zw n x) (k : Zw m y) : Zw (n + m + 7) (x * y) := by
  obtain ⟨A, B, rfl, h2, h3⟩ := h
  obtain ⟨C, E, rfl, k2, k3⟩ := k
  refine ⟨A * C + D.d * (B * E), A * E + B * C, ?_, ?_, ?_⟩
  · rw [QL.int_add, QL.int_add, QL.int_mul, QL.int_mul, QL.int_mul, QL.int_mul, QL.int_mul]
    exact zwm QL.w_sq
  · exact Sz.add (n := n + m + 6) ((h2.mul k2).mono (by omega)) ((sd.mul (h3.mul k3)).mono (by omega))
  · exact (Sz.add (n := n + m) (h2.mul k3) ((h3.mul k2))).mono (by omega)
theorem zw_cj {n : Nat} {x : QL D} (h : Zw n x) : Zw n (QL.cj x) := by
  obtain ⟨A, B, rfl, h2, h3⟩ := h
  refine ⟨A, -B, ?_, h2, h3.neg⟩
  rw [QL.cj_add, QL.cj_mul, QL.cj_int, QL.cj_int, QL.cj_w, QL.int_neg]; grind
theorem nrmz {A B w dd : QL D} (h : w * w = dd) : (A + B * w) * (A + -B * w) = A * A - dd * (B * B) := by rw [← h]; grind
theorem zw_norm (sd : Sz 6 D.d) {n : Nat} {x : QL D} (h : Zw n x) : ∃ S : Int, x * QL.cj x = (S : QL D) ∧ Sz (n + n + 7) S := by
  obtain ⟨A, B, rfl, h2, h3⟩ := h
  refine ⟨A * A - D.d * (B * B), ?_, Sz.sub (n := n + n + 6) ((h2.mul h2).mono (by omega)) ((sd.mul (h3.mul h3)).mono (by omega))⟩
  rw [QL.cj_add, QL.cj_mul, QL.cj_int, QL.cj_int, QL.cj_w, QL.int_sub, QL.int_mul, QL.int_mul, QL.int_mul]
  have : (A : QL D) + (B : QL D) * -QL.w = (A : QL D) + -(B : QL D) * QL.w := by grind
  rw [this]
  exact nrmz QL.w_sq
theorem gfr {x u v c S : QL D} (h : x * v = u) (k : v * c = S) : x * S = u * c := by rw [← k, ← h]; grind
theorem gd_frac (sd : Sz 6 D.d) {n m : Nat} {x u v : QL D} (hu : Zw n u) (hv : Zw m v) (z : v ≠ 0) (e : x * v = u) : Gd (n + m + m + 7) x.v := by
  obtain ⟨S, hS, sS⟩ := zw_norm sd hv
  obtain ⟨A, B, hAB, h2, h3⟩ := zw_mul sd hu (zw_cj hv)
  have zS : S ≠ 0 := fun k => by
    have : v * QL.cj v = 0 := by rw [hS, k]; rfl
    exact QL.mul_ne z (fun k => z (QL.cj_zero.mp k)) this
  refine gd_rep zS (h2.mono (by omega)) (h3.mono (by omega)) (sS.mono (by omega)) x ?_
  rw [← hAB]
  exact gfr e hS
/- x is a quotient with the lower part v -/
def Fl (n : Nat) (v x : QL D) : Prop := Zw n (x * v)
theorem fl_gd (sd : Sz 6 D.d) {n m : Nat} {x v : QL D} (h : Fl n v x) (hv : Zw m v) (z : v ≠ 0) : Gd (n + m + m + 7) x.v := gd_frac sd h hv z rfl
theorem fl_add {n : Nat} {v x y : QL D} (h : Fl n v x) (k : Fl n v y) : Fl (n + 1) v (x + y) := by
  have := zw_add h k
  have e : x * v + y * v = (x + y) * v := by grind
  rw [e] at this
  exact this
end
/-! cuttings made by steps -/
section
variable {D : Dt}
def gridQ (w h : QL D) (cols : Nat) : Nat → List (TQ D)
  | 0 => []
  | r + 1 => gridQ w h cols r ++ (List.range cols).map fun c => ⟨w * ((c : Int) : QL D), h * ((r : Int) : QL D), w, h⟩
theorem gridQ_tV (w h : QL D) (cols : Nat) : ∀ r : Nat, (gridQ w h cols r).map tV = gridT D.d w.v h.v cols r
  | 0 => rfl
  | r + 1 => by
    rw [gridQ, gridT, List.map_append, gridQ_tV w h cols r, List.map_map]
    rfl
theorem gridQ_mem {w h : QL D} {cols : Nat} : ∀ {r : Nat} {t : TQ D}, t ∈ gridQ w h cols r → ∃ c l : Nat, c < cols ∧ l < r ∧ t = ⟨w * ((c : Int) : QL D), h * ((l : Int) : QL D), w, h⟩
  | 0, t, ht => by cases ht
  | r + 1, t, ht => by
    rw [gridQ] at ht
    rcases List.mem_append.mp ht with ht | ht
    · obtain ⟨c, l, h1, h2, h3⟩ := gridQ_mem ht
      exact ⟨c, l, h1, by omega, h3⟩
    · obtain ⟨c, hc, rfl⟩ := List.mem_map.mp ht
      exact ⟨c, r, List.mem_range.mp hc, by omega, rfl⟩
theorem gridQ_len (w h : QL D) (cols : Nat) : ∀ r : Nat, (gridQ w h cols r).length = cols * r
  | 0 => rfl
  | r + 1 => by rw [gridQ, List.length_append, gridQ_len w h cols r, List.length_map, List.length_range, Nat.mul_succ]
theorem rect_nil {x y h : QL D} : Rect x x y h [] := ⟨fun _ h => absurd h (by simp), .nil, by show (0 : QL D) = (x - x) * (h - y); grind, fun px py h1 h2 => absurd h2 (by grind)⟩
theorem cast_succ (w : QL D) (n : Nat) : w * (((n + 1 : Nat) : Int) : QL D) = w * ((n : Int) : QL D) + w := by
  rw [show ((n + 1 : Nat) : Int) = (n : Int) + 1 by omega, QL.int_add, QL.int_1]; grind
theorem cast_zero (w : QL D) : w * (((0 : Nat) : Int) : QL D) = 0 := by
  rw [show ((0 : Nat) : Int) = 0 from rfl, QL.int_0]; grind
theorem cast_nn {w : QL D} (pw : 0 < w) (n : Nat) : 0 ≤ w * ((n : Int) : QL D) := by
  have := mul_le pw (show (0 : Int) ≤ (n : Int) by omega)
  rw [QL.int_0] at this
  exact le_z this
theorem rect_row {w h y : QL D} (pw : 0 < w) (ph : 0 < h) : ∀ n : Nat, Rect 0 (w * ((n : Int) : QL D)) y (y + h) ((List.range n).map fun c : Nat => (⟨w * ((c : Int) : QL D), y, w, h⟩ : TQ D))
  | 0 => by rw [cast_zero]; exact rect_nil
  | n + 1 => by
    rw [List.range_succ, List.map_append, cast_succ]
    have := cast_nn pw n
    exact rect_beside this (by grind) (rect_row pw ph n) (rect_one pw ph)
theorem rect_grid {w h : QL D} (pw : 0 < w) (ph : 0 < h) (cols : Nat) : ∀ r : Nat, Rect 0 (w * ((cols : Int) : QL D)) 0 (h * ((r : Int) : QL D)) (gridQ w h cols r)
  | 0 => by
    rw [cast_zero]
    exact ⟨fun _ h => absurd h (by simp [gridQ]), .nil, by show (0 : QL D) = (_ - 0) * (0 - 0); grind, fun px py h1 h2 h3 h4 => absurd h4 (by grind)⟩
  | r + 1 => by
    rw [cast_succ]
    have := cast_nn ph r
    exact rect_above this (by grind) (rect_grid pw ph cols r) (rect_row pw ph cols)
/- the fields of a tile -/
structure FT (n : Nat) (v : QL D) (t : TQ D) : Prop where
  x : Fl n v t.x
  y : Fl n v t.y
  w : Fl n v t.w
  h : Fl n v t.h
structure Stage (R : QL D) (j : Nat) (wd : QL D) (M : List (TQ D)) : Prop where
  nm : ∃ u v : QL D, 0 < v ∧ wd * v = u ∧ Zw (30 * j) u ∧ Zw (30 * j) v ∧ ∀ t ∈ M, FT (30 * j + 30) v t
  rc : Rect 0 wd 0 1 M
  sh : ∀ t ∈ M, t.w = R * t.h ∨ t.h = R * t.w
  pw : 0 < wd
/- tiles in order -/
def OrdQ (M : List (TQ D)) : Prop := M.Pairwise fun a b => LeT D.d (tV a) (tV b)
theorem ord_strict {W H : QL D} {M : List (TQ D)} (rc : Rect 0 W 0 H M) (so : OrdQ M) : M.Pairwise fun a b => bef D.d (tV a) (tV b) = true := by
  refine (List.Pairwise.and so rc.sp).imp_of_mem fun {a b} ha hb k => ?_
  rcases (le_iff D.ns (a := tV a) (b := tV b) ⟨a.x.nf, a.y.nf⟩ ⟨b.x.nf, b.y.nf⟩).mp k.1 with h | ⟨h, h'⟩
  · exact h
  · have ex : a.x = b.x := QL.ext' h
    have ey : a.y = b.y := QL.ext' h'
    obtain ⟨-, -, -, -, a5, a6⟩ := rc.el a ha
    obtain ⟨-, -, -, -, b5, b6⟩ := rc.el b hb
    exact (no_both k.2 (px := a.x) (py := a.y) ⟨by grind, lt_rw a5, by grind, lt_rw a6⟩ ⟨by rw [ex]; grind, by rw [ex]; exact lt_rw b5, by rw [ey]; grind, by rw [ey]; exact lt_rw b6⟩).elim
theorem ord_of_sort {L N : List (TQ D)} (h : N.map tV = sortT D.d (L.map tV)) : OrdQ N := by
  have nf : ∀ t ∈ L.map tV, NfT t := fun t ht => by
    obtain ⟨u, hu, rfl⟩ := List.mem_map.mp ht
    exact ⟨u.x.nf, u.y.nf⟩
  have so := sortT_sorted D.ns nf
  rw [← h, List.pairwise_map] at so
  exact so
theorem ord_grid {w h : QL D} (pw : 0 < w) (ph : 0 < h) (cols r : Nat) : OrdQ (gridQ w h cols r) := by
  have g : (gridT D.d w.v h.v cols r).Pairwise (LeT D.d) := grid_pair (R := LeT D.d) (fun c r c' r' e => bef_as D.ns (nf_cell w h c r) (nf_cell w h c' r') (cell_bef pw ph e)) r
  rw [← gridQ_tV, List.pairwise_map] at g
  exact g
theorem stage_perm {R wd : QL D} {j : Nat} {M N : List (TQ D)} (p : M.Perm N) (s : Stage R j wd M) : Stage R j wd N := by
  obtain ⟨⟨u, v, h1, h2, h3, h4, h5⟩, rc, sh, pw⟩ := s
  exact ⟨⟨u, v, h1, h2, h3, h4, fun t ht => h5 t (p.mem_iff.mpr ht)⟩, rect_perm p rc, fun t ht => sh t (p.mem_iff.mpr ht), pw⟩
/- a fraction c = a by b and the shape by numbers -/
structure CO (R C S : QL D) (a b s : Int) : Prop where
  c : C * (b : QL D) = (a : QL D)
  r : R * (s : QL D) = S
  z : Zw 8 S
  a : 1 ≤ a ∧ a ≤ 4
  b : 1 ≤ b ∧ b ≤ 4
  s : 1 ≤ s ∧ Sz 8 s
  p : 0 < R
theorem co_pc {R C S : QL D} {a b s : Int} (o : CO R C S a b s) : 0 < C := by
  have pa : (0 : QL D) < (a : QL D) := QL.int_pos (by have := o.a; omega)
  have pb : (0 : QL D) < (b : QL D) := QL.int_pos (by have := o.b; omega)
  have e : C = (a : QL D) / (b : QL D) := by
    refine Classical.byContradiction fun z => ?_
    have z' : C - (a : QL D) / (b : QL D) ≠ 0 := fun k => z (by grind)
    have m := div_mul' (a := (a : QL D)) (pos_ne pb)
    have oc := o.c
    apply QL.mul_ne z' (pos_ne pb)
    have : (C - (a : QL D) / (b : QL D)) * (b : QL D) = C * (b : QL D) - (a : QL D) / (b : QL D) * (b : QL D) := by grind
    rw [this, m, oc]; grind
  rw [e]; exact div_pos' pa pb
theorem sz3 {i : Int} (h0 : 0 ≤ i) (h : i ≤ 4) : Sz 3 i := by
  have : (2 : Nat) ^ 3 = 8 := by decide
  unfold Sz; omega
theorem zwbs {b s : Int} (hb : 1 ≤ b ∧ b ≤ 4) (hs : 1 ≤ s ∧ Sz 8 s) : Zw 11 (((b * s : Int)) : QL D) := zw_int ((sz3 (by omega) hb.2).mul hs.2)
noncomputable def cellW (R C : QL D) (a : Int) : QL D := R * C / (a : QL D)
noncomputable def cellH (b : Int) : QL D := 1 / ((b : Int) : QL D)
theorem cw1 {R C S w h a b s : QL D} (c : C * b = a) (r : R * s = S) (hw : w * a = R * C) (za : a ≠ 0) (hh : h * b = 1) : w * (b * s) = S ∧ h * (b * s) = s ∧ w = R * h := by
  have e : w = R * h := by
    refine rep_eq za ?_
    rw [hw]
    have : R * h * a = R * (C * (h * b)) := by rw [← c]; grind
    rw [this, hh]; grind
  refine ⟨?_, ?_, e⟩
  · rw [e, ← r]
    have : R * h * (b * s) = R * s * (h * b) := by grind
    rw [this, hh]; grind
  · have : h * (b * s) = s * (h * b) := by grind
    rw [this, hh]; grind
theorem first_fields (sd : Sz 6 D.d) {R C S : QL D} {a b s : Int} (o : CO R C S a b s) : (∀ t ∈ gridQ (cellW R C a) (cellH b) a.toNat b.toNat, FT 20 (((b * s : Int)) : QL D) t ∧ t.w = R * t.h) ∧ Rect 0 (R * C) 0 1 (gridQ (cellW R C a) (cellH b) a.toNat b.toNat) := by
  have za : ((a : Int) : QL D) ≠ 0 := QL.int_ne (by have := o.a; omega)
  have zb : ((b : Int) : QL D) ≠ 0 := QL.int_ne (by have := o.b; omega)
  have pa : (0 : QL D) < (a : QL D) := QL.int_pos (by have := o.a; omega)
  have pb : (0 : QL D) < (b : QL D) := QL.int_pos (by have := o.b; omega)
  have hw : cellW R C a * (a : QL D) = R * C := div_mul' za
  have hh : cellH b * (b : QL D) = 1 := div_mul' zb
  obtain ⟨e1, e2, e3⟩ := cw1 o.c o.r hw za hh
  have pw : 0 < cellW R C a := div_pos' (QL.mul_pos' o.p (co_pc o)) pa
  have ph : (0 : QL D) < cellH b := div_pos' one_lt0 pb
  refine ⟨fun t ht => ?_, ?_⟩
  · obtain ⟨c, l, h1, h2, rfl⟩ := gridQ_mem ht
    have hc : Sz 3 (c : Int) := sz3 (by omega) (by have := o.a; omega)
    have hl : Sz 3 (l : Int) := sz3 (by omega) (by have := o.b; omega)
    have sz : Zw 8 ((s : Int) : QL D) := zw_int o.s.2
    rw [QL.int_mul]
    refine ⟨⟨?_, ?_, ?_, ?_⟩, e3⟩
    · have k := zw_mul sd o.z (zw_int (D := D) hc)
      have e : S * ((c : Int) : QL D) = cellW R C a * ((c : Int) : QL D) * ((b : QL D) * (s : QL D)) := by rw [← e1]; grind
      rw [e] at k
      exact zw_mono k (by decide)
    · have k := zw_mul sd sz (zw_int (D := D) hl)
      have e : (s : QL D) * ((l : Int) : QL D) = cellH b * ((l : Int) : QL D) * ((b : QL D) * (s : QL D)) := by
        have : cellH b * ((l : Int) : QL D) * ((b : QL D) * (s : QL D)) = (cellH b * ((b : QL D) * (s : QL D))) * ((l : Int) : QL D) := by grind
        rw [this, e2]
      rw [e] at k
      exact zw_mono k (by decide)
    · have k := zw_mono o.z (show 8 ≤ 20 by decide)
      rw [← e1] at k
      exact k
    · have k := zw_mono sz (show 8 ≤ 20 by decide)
      rw [← e2] at k
      exact k
  · have r := rect_grid pw ph a.toNat b.toNat
    have ea : ((a.toNat : Nat) : Int) = a := by have := o.a; omega
    have eb : ((b.toNat : Nat) : Int) = b := by have := o.b; omega
    rw [ea, eb, hw, hh] at r
    exact r
theorem stage_one (sd : Sz 6 D.d) {R C S : QL D} {a b s : Int} (o : CO R C S a b s) : Stage R 1 (R * C) (gridQ (cellW R C a) (cellH b) a.toNat b.toNat) := by
  obtain ⟨h1, h2⟩ := first_fields sd o
  have sa : Sz 3 a := sz3 (by have := o.a; omega) o.a.2
  refine ⟨⟨(a : QL D) * S, ((b * s : Int) : QL D), QL.int_pos (Int.mul_pos (by have := o.b; omega) (by have := o.s.1; omega)), ?_, zw_mono (zw_mul sd (zw_int sa) o.z) (by decide), zw_mono (zwbs o.b o.s) (by decide), fun t ht => ?_⟩, h2, fun t ht => .inl (h1 t ht).2, QL.mul_pos' o.p (co_pc o)⟩
  · rw [QL.int_mul, ← o.r, ← o.c]; grind
  · obtain ⟨k, -⟩ := h1 t ht
    exact ⟨zw_mono k.x (by decide), zw_mono k.y (by decide), zw_mono k.w (by decide), zw_mono k.h (by decide)⟩
noncomputable def nextQ (R C : QL D) (a b : Int) (k : QL D) (M : List (TQ D)) : List (TQ D) := gridQ (cellW R C a) (cellH b) a.toNat b.toNat ++ (((M.map (scQ k)).map tnQ).map (mvQ (R * C) 0))
theorem st1 {R C S a b s u v wd k : QL D} (c : C * b = a) (r : R * s = S) (hu : wd * v = u) (hk : wd * k = 1) : (R * C + k) * (u * (b * s)) = a * S * u + (b * s) * v := by
  have e : k * u = v := by
    rw [← hu]
    have : k * (wd * v) = wd * k * v := by grind
    rw [this, hk]; grind
  have : (R * C + k) * (u * (b * s)) = (C * b) * (R * s) * u + (k * u) * (b * s) := by grind
  rw [this, e, c, r]; grind
theorem st2 {g k u v bs : QL D} (e : k * u = v) : k * g * (u * bs) = g * v * bs := by rw [← e]; grind
theorem st3 {R C S a b s u : QL D} (c : C * b = a) (r : R * s = S) : (R * C) * (u * (b * s)) = a * S * u := by
  have : (R * C) * (u * (b * s)) = (C * b) * (R * s) * u := by grind
  rw [this, c, r]
theorem st4 {g bs u : QL D} : g * bs * u = g * (u * bs) := by grind
theorem stage_next (sd : Sz 6 D.d) {R C S : QL D} {a b s : Int} (o : CO R C S a b s) {j : Nat} {wd : QL D} {M : List (TQ D)} (st : Stage R j wd M) (hj : 1 ≤ j) : Stage R (j + 1) (R * C + wd⁻¹) (nextQ R C a b wd⁻¹ M) := by
  obtain ⟨⟨u, v, pv, hu, zu, zv, ft⟩, rc, sh, pw⟩ := st
  have hk := QL.mul_inv (pos_ne pw)
  have pk := QL.inv_pos' pw
  obtain ⟨k, hkk⟩ : ∃ k, k = wd⁻¹ := ⟨_, rfl⟩
  rw [← hkk] at hk pk ⊢
  obtain ⟨h1, h2⟩ := first_fields sd o
  have sa : Sz 3 a := sz3 (by have := o.a; omega) o.a.2
  have pu : 0 < u := by rw [← hu]; exact QL.mul_pos' pw pv
  have zbs : Zw 11 (((b * s : Int)) : QL D) := zwbs o.b o.s
  have pbs : (0 : QL D) < ((b * s : Int) : QL D) := QL.int_pos (Int.mul_pos (by have := o.b; omega) (by have := o.s.1; omega))
  have zaS := zw_mul sd (zw_int (D := D) sa) o.z
  have zaSu := zw_mul sd zaS zu
  have eku : k * u = v := by
    rw [← hu]
    have : k * (wd * v) = wd * k * v := by grind
    rw [this, hk]; grind
  have pRC := QL.mul_pos' o.p (co_pc o)
  have eB : ((b * s : Int) : QL D) = (b : QL D) * (s : QL D) := QL.int_mul b s
  refine ⟨⟨(a : QL D) * S * u + ((b * s : Int) : QL D) * v, u * ((b * s : Int) : QL D), QL.mul_pos' pu pbs, ?_, ?_, ?_, fun t ht => ?_⟩, ?_, fun t ht => ?_, by grind⟩
  · rw [eB]; exact st1 o.c o.r hu hk
  · exact zw_mono (zw_add (zw_mono zaSu (show 3 + 8 + 7 + 30 * j + 7 ≤ 30 * j + 25 by omega)) (zw_mono (zw_mul sd zbs zv) (show 11 + 30 * j + 7 ≤ 30 * j + 25 by omega))) (by omega)
  · exact zw_mono (zw_mul sd zu zbs) (by omega)
  · rcases List.mem_append.mp ht with ht | ht
    · obtain ⟨f, -⟩ := h1 t ht
      have go : ∀ {g : QL D}, Fl 20 ((b * s : Int) : QL D) g → Fl (30 * (j + 1) + 30) (u * ((b * s : Int) : QL D)) g := by
        intro g hg
        have k := zw_mul sd hg zu
        rw [st4] at k
        exact zw_mono k (by omega)
      exact ⟨go f.x, go f.y, go f.w, go f.h⟩
    · obtain ⟨t1, ht1, rfl⟩ := List.mem_map.mp ht
      obtain ⟨t2, ht2, rfl⟩ := List.mem_map.mp ht1
      obtain ⟨t, ht3, rfl⟩ := List.mem_map.mp ht2
      have f := ft t ht3
      have go : ∀ {g : QL D}, Fl (30 * j + 30) v g → Zw (30 * j + 50) (k * g * (u * ((b * s : Int) : QL D))) := by
        intro g hg
        have q := zw_mul sd hg zbs
        rw [← st2 (g := g) (bs := ((b * s : Int) : QL D)) eku] at q
        exact zw_mono q (by omega)
      have mvx : Zw (30 * j + 50) ((R * C) * (u * ((b * s : Int) : QL D))) := by
        rw [eB, st3 o.c o.r]
        exact zw_mono zaSu (by omega)
      refine ⟨?_, ?_, zw_mono (go f.h) (by omega), zw_mono (go f.w) (by omega)⟩
      · show Zw _ ((k * t.y + R * C) * _)
        have := zw_add (go f.y) mvx
        have e : k * t.y * (u * ((b * s : Int) : QL D)) + R * C * (u * ((b * s : Int) : QL D)) = (k * t.y + R * C) * (u * ((b * s : Int) : QL D)) := by grind
        rw [e] at this
        exact zw_mono this (by omega)
      · show Zw _ ((k * t.x + 0) * _)
        have e : k * t.x + 0 = k * t.x := by grind
        rw [e]
        exact zw_mono (go f.x) (by omega)
  · have r1 := rect_move (rect_turn (rect_scale pk rc)) (R * C) 0
    have e1 : k * (0 : QL D) + R * C = R * C := by grind
    have e2 : k * (1 : QL D) + R * C = R * C + k := by grind
    have e3 : k * (0 : QL D) + 0 = 0 := by grind
    have e4 : k * wd + 0 = 1 := by rw [← hk]; grind
    rw [e1, e2, e3, e4] at r1
    exact rect_beside (by grind) (by grind) h2 r1
  · rcases List.mem_append.mp ht with ht | ht
    · exact .inl (h1 t ht).2
    · obtain ⟨t1, ht1, rfl⟩ := List.mem_map.mp ht
      obtain ⟨t2, ht2, rfl⟩ := List.mem_map.mp ht1
      obtain ⟨t, ht3, rfl⟩ := List.mem_map.mp ht2
      rcases sh t ht3 with e | e
      · refine .inr ?_
        show k * t.w = R * (k * t.h)
        rw [e]; grind
      · refine .inl ?_
        show k * t.h = R * (k * t.w)
        rw [e]; grind
end
theorem perm_lift {α β : Type} {f : α → β} {xs ys : List β} (p : xs.Perm ys) : ∀ L : List α, L.map f = xs → ∃ M : List α, M.Perm L ∧ M.map f = ys := by
  induction p with
  | nil => intro L h; exact ⟨L, List.Perm.refl _, h⟩
  | cons x p ih =>
    intro L h
    match L, h with
    | a :: L, h =>
      simp only [List.map_cons, List.cons.injEq] at h
      obtain ⟨M, h1, h2⟩ := ih L h.2
      exact ⟨a :: M, List.Perm.cons a h1, by rw [List.map_cons, h2, h.1]⟩
  | swap x y l =>
    intro L h
    match L, h with
    | a :: b :: L, h =>
      simp only [List.map_cons, List.cons.injEq] at h
      exact ⟨b :: a :: L, List.Perm.swap a b L, by rw [List.map_cons, List.map_cons, h.1, h.2.1, h.2.2]⟩
  | trans p q ih1 ih2 =>
    intro L h
    obtain ⟨M, h1, h2⟩ := ih1 L h
    obtain ⟨N, h3, h4⟩ := ih2 M h2
    exact ⟨N, h3.trans h1, h4⟩
/-! the walk of cutting_by -/
section
variable {D : Dt}
structure G7 (t : TQ D) : Prop where
  x : Gd 700 t.x.v
  y : Gd 700 t.y.v
  w : Gd 700 t.w.v
  h : Gd 700 t.h.v
theorem g7_tok {M : List (TQ D)} (h : ∀ t ∈ M, G7 t) : ∀ t ∈ M.map tV, TOk 700 700 t := fun t ht => by
  obtain ⟨u, hu, rfl⟩ := List.mem_map.mp ht
  have g := h u hu
  exact ⟨g.x, g.y, g.w, g.h⟩
theorem sort_some (L : List (TQ D)) : ∃ N : List (TQ D), N.Perm L ∧ N.map tV = sortT D.d (L.map tV) := perm_lift (sortT_perm D.d (L.map tV)).symm L rfl
def encQ (M : List (TQ D)) : PL.D := .list ((M.map tV).map encT)
end
/-! the law's order of tiles; cuttings of the law fill the sheet; mirrored ones -/
theorem filt_take {α : Type} {R : α → α → Prop} {p : α → Bool} (cl : ∀ a b, R a b → p b = true → p a = true) : ∀ {l : List α}, l.Pairwise R → l.filter p = l.takeWhile p
  | [], _ => rfl
  | a :: l, h => by
    have ih := filt_take cl (List.pairwise_cons.mp h).2
    by_cases c : p a = true
    · rw [List.filter_cons_of_pos c, List.takeWhile_cons_of_pos c, ih]
    · rw [List.filter_cons_of_neg c, List.takeWhile_cons_of_neg c]
      refine List.filter_eq_nil_iff.mpr fun b hb => ?_
      intro z
      exact c (cl a b ((List.pairwise_cons.mp h).1 b hb) z)
theorem drop_while {α : Type} (p : α → Bool) : ∀ l : List α, l.drop (l.takeWhile p).length = l.dropWhile p
  | [] => rfl
  | a :: l => by
    by_cases c : p a = true
    · rw [List.takeWhile_cons_of_pos c, List.dropWhile_cons_of_pos c, List.length_cons, List.drop_succ_cons, drop_while p l]
    · rw [List.takeWhile_cons_of_neg c, List.dropWhile_cons_of_neg c]; rfl
theorem insO_sort {d : Int} (hd : NS d) {found : List Tl} {t : Tl} (nf : ∀ u ∈ found, NfT u) (nt : NfT t) (so : found.Pairwise (LeT d)) : (insO d found t).Pairwise (LeT d) ∧ (insO d found t).Perm (t :: found) := by
  have so' : found.Pairwise fun a b => LeT d a b ∧ NfT a ∧ NfT b := so.imp_of_mem fun ha hb k => ⟨k, nf _ ha, nf _ hb⟩
  have e : (found.filter fun o => !bef d t o) = found.takeWhile fun o => !bef d t o := by
    refine filt_take (R := fun a b => LeT d a b ∧ NfT a ∧ NfT b) ?_ so'
    rintro a b ⟨h, na, nb⟩ hb
    rw [Bool.not_eq_true'] at hb ⊢
    exact le_tr hd na nb nt h hb
  unfold insO
  simp only [e, drop_while]
  have sp := List.takeWhile_append_dropWhile (p := fun o => !bef d t o) (l := found)
  have so2 := so
  rw [← sp, List.pairwise_append] at so2
  obtain ⟨s1, s2, s3⟩ := so2
  have tk : ∀ a ∈ found.takeWhile (fun o => !bef d t o), LeT d a t := fun a ha => by
    have := takeW_imp (fun o => !bef d t o) found ha
    rw [Bool.not_eq_true'] at this
    exact this
  have td : ∀ b ∈ found.dropWhile (fun o => !bef d t o), LeT d t b := by
    intro b hb
    match hq : found.dropWhile (fun o => !bef d t o), hb with
    | [], hb => cases hb
    | z :: zs, hb =>
      have hz : bef d t z = true := by
        have := List.head_dropWhile_not (p := fun o => !bef d t o) (l := found) (by rw [hq]; simp)
        simpa [hq] using this
      have nz : NfT z := nf z (List.dropWhile_subset _ (by rw [hq]; simp))
      have tz : LeT d t z := bef_as hd nt nz hz
      rcases List.mem_cons.mp hb with hb | hb
      · rw [hb]; exact tz
      · rw [hq] at s2
        exact le_tr hd nt nz (nf b (List.dropWhile_subset _ (by rw [hq]; simp [hb]))) tz (List.rel_of_pairwise_cons s2 hb)
  refine ⟨?_, ?_⟩
  · rw [List.append_assoc, List.pairwise_append]
    refine ⟨s1, List.pairwise_cons.mpr ⟨td, s2⟩, fun a ha b hb => ?_⟩
    rcases List.mem_cons.mp hb with hb | hb
    · rw [hb]; exact tk a ha
    · exact s3 a ha b hb
  · rw [List.append_assoc]
    refine List.perm_middle.trans (List.Perm.cons t ?_)
    have : (found.takeWhile (fun o => !bef d t o) ++ found.dropWhile (fun o => !bef d t o)).Perm found := by rw [sp]
    exact this
theorem ordO_sort {d : Int} (hd : NS d) {ts : List Tl} (nf : ∀ u ∈ ts, NfT u) : (ordO d ts).Pairwise (LeT d) ∧ (ordO d ts).Perm ts := by
  have key : ∀ (ts found : List Tl), (∀ u ∈ ts, NfT u) → (∀ u ∈ found, NfT u) → found.Pairwise (LeT d) → (ts.foldl (insO d) found).Pairwise (LeT d) ∧ (ts.foldl (insO d) found).Perm (ts ++ found) := by
    intro ts
    induction ts with
    | nil => intro found _ _ so; exact ⟨so, List.Perm.refl _⟩
    | cons t ts ih =>
      intro found h1 h2 so
      obtain ⟨s1, p1⟩ := insO_sort hd h2 (h1 t List.mem_cons_self) so
      obtain ⟨s2, p2⟩ := ih (insO d found t) (fun u hu => h1 u (List.mem_cons_of_mem _ hu)) (fun u hu => by
        rcases List.mem_cons.mp (p1.mem_iff.mp hu) with h | h
        · rw [h]; exact h1 t List.mem_cons_self
        · exact h2 u h) s1
      exact ⟨s2, p2.trans ((List.Perm.append_left ts p1).trans List.perm_middle)⟩
  obtain ⟨a, b⟩ := key ts [] nf (fun _ h => absurd h (by simp)) .nil
  rw [List.append_nil] at b
  exact ⟨a, b⟩
section
variable {D : Dt}
theorem ordO_lift (M : List (TQ D)) : ∃ N : List (TQ D), N.Perm M ∧ N.map tV = ordO D.d (M.map tV) ∧ OrdQ N := by
  have nf : ∀ t ∈ M.map tV, NfT t := fun t ht => by
    obtain ⟨u, hu, rfl⟩ := List.mem_map.mp ht
    exact ⟨u.x.nf, u.y.nf⟩
  obtain ⟨so, pm⟩ := ordO_sort D.ns nf
  obtain ⟨N, h1, h2⟩ := perm_lift pm.symm M rfl
  refine ⟨N, h1, h2, ?_⟩
  rw [← h2, List.pairwise_map] at so
  exact so
/-! mirrored -/
def mrQ (s : QL D) (t : TQ D) : TQ D := ⟨s - (t.x + t.w), t.y, t.w, t.h⟩
theorem near_below {x0 q : QL D} (h : x0 < q) : ∀ E : List (QL D), ∃ q', x0 ≤ q' ∧ q' < q ∧ ∀ e ∈ E, e < q → e ≤ q'
  | [] => ⟨x0, by grind, h, fun _ h => absurd h (by simp)⟩
  | e :: E => by
    obtain ⟨q', h1, h2, h3⟩ := near_below h E
    by_cases c : e < q ∧ q' < e
    · exact ⟨e, by grind, c.1, fun a ha hq => by
        rcases List.mem_cons.mp ha with z | z
        · rw [z]; grind
        · have := h3 a z hq; grind⟩
    · refine ⟨q', h1, h2, fun a ha hq => ?_⟩
      rcases List.mem_cons.mp ha with z | z
      · subst z
        by_cases c2 : q' < a
        · exact absurd ⟨hq, c2⟩ c
        · exact g_nlt c2
      · exact h3 a z hq
theorem half_between {a b : QL D} (h : a < b) : ∃ m, a < m ∧ m < b := by
  have two : (2 : QL D) ≠ 0 := two_ne0
  have e := div_mul' (a := a + b) two
  refine ⟨(a + b) / 2, ?_, ?_⟩ <;> (generalize (a + b) / 2 = m at e ⊢; grind)
theorem mr1 {a b s : QL D} (h : a ≤ b) : s - b ≤ s - a := by grind
theorem rect_mirror {x0 x1 y0 y1 : QL D} {M : List (TQ D)} (r : Rect x0 x1 y0 y1 M) (s : QL D) : Rect (s - x1) (s - x0) y0 y1 (M.map (mrQ s)) := by
  refine ⟨fun t ht => ?_, ?_, ?_, fun px py k1 k2 k3 k4 => ?_⟩
  · obtain ⟨t, hu, rfl⟩ := List.mem_map.mp ht
    obtain ⟨e1, e2, e3, e4, e5, e6⟩ := r.el t hu
    refine ⟨mr1 e2, ?_, e3, e4, e5, e6⟩
    show s - (t.x + t.w) + t.w ≤ s - x0
    grind
  · rw [List.pairwise_map]
    refine r.sp.imp fun {a b} h => ?_
    rcases h with h | h | h | h
    · refine .inr (.inl ?_)
      show s - (b.x + b.w) + b.w ≤ s - (a.x + a.w)
      grind
    · refine .inl ?_
      show s - (a.x + a.w) + a.w ≤ s - (b.x + b.w)
      grind
    · exact .inr (.inr (.inl h))
    · exact .inr (.inr (.inr h))
  · rw [arQ_map (k := 1) (fun t => by show t.w * t.h = 1 * (t.w * t.h); grind), r.ar]; grind
  · obtain ⟨q, hq⟩ : ∃ q, q = s - px := ⟨_, rfl⟩
    have h0 : x0 < q := by rw [hq]; grind
    have h1 : q ≤ x1 := by rw [hq]; grind
    obtain ⟨q', q1, q2, q3⟩ := near_below h0 (M.map (fun t => t.x + t.w) ++ M.map (fun t => t.x))
    obtain ⟨m, m1, m2⟩ := half_between q2
    obtain ⟨t, ht, i1, i2, i3, i4⟩ := r.cov m py (by grind) (by grind) k3 k4
    have j2 : ¬ t.x + t.w < q := fun z => by
      have := q3 (t.x + t.w) (List.mem_append_left _ (List.mem_map.mpr ⟨t, ht, rfl⟩)) z
      grind
    refine ⟨_, List.mem_map_of_mem ht, ?_, ?_, i3, i4⟩
    · show s - (t.x + t.w) ≤ px
      grind
    · show px < s - (t.x + t.w) + t.w
      grind
/-! the law's cuttings -/
theorem map_split {α β : Type} {f : α → β} : ∀ {M : List α} {l r : List β} {t : β}, M.map f = l ++ t :: r → ∃ l' t' r', M = l' ++ t' :: r' ∧ l'.map f = l ∧ f t' = t ∧ r'.map f = r
  | [], l, r, t, h => by simp at h
  | a :: M, [], r, t, h => by
    simp only [List.map_cons, List.nil_append, List.cons.injEq] at h
    exact ⟨[], a, M, rfl, rfl, h.1, h.2⟩
  | a :: M, b :: l, r, t, h => by
    simp only [List.map_cons, List.cons_append, List.cons.injEq] at h
    obtain ⟨l', t', r', e1, e2, e3, e4⟩ := map_split h.2
    exact ⟨a :: l', t', r', by rw [e1]; rfl, by rw [List.map_cons, e2, h.1], e3, e4⟩
theorem rect_halfX {t : TQ D} {s : QL D} (pw : 0 < t.w) (ph : 0 < t.h) (ps : 0 < s) (p1 : 0 < 1 - s) : Rect t.x (t.x + t.w) t.y (t.y + t.h) [⟨t.x, t.y, t.w * s, t.h⟩, ⟨t.x + t.w * s, t.y, t.w - t.w * s, t.h⟩] := by
  have a1 := QL.mul_pos' pw ps
  have a2 := QL.mul_pos' pw p1
  have r1 := rect_one (x := t.x) (y := t.y) a1 ph
  have r2 := rect_one (x := t.x + t.w * s) (y := t.y) (show 0 < t.w - t.w * s by grind) ph
  have e : t.x + t.w * s + (t.w - t.w * s) = t.x + t.w := by grind
  rw [e] at r2
  exact rect_beside (by grind) (by grind) r1 r2
theorem rect_halfY {t : TQ D} {s : QL D} (pw : 0 < t.w) (ph : 0 < t.h) (ps : 0 < s) (p1 : 0 < 1 - s) : Rect t.x (t.x + t.w) t.y (t.y + t.h) [⟨t.x, t.y, t.w, t.h * s⟩, ⟨t.x, t.y + t.h * s, t.w, t.h - t.h * s⟩] := by
  have a1 := QL.mul_pos' ph ps
  have a2 := QL.mul_pos' ph p1
  have r1 := rect_one (x := t.x) (y := t.y) pw a1
  have r2 := rect_one (x := t.x) (y := t.y + t.h * s) pw (show 0 < t.h - t.h * s by grind)
  have e : t.y + t.h * s + (t.h - t.h * s) = t.y + t.h := by grind
  rw [e] at r2
  exact rect_above (by grind) (by grind) r1 r2
theorem rect_wheel {x y u v : QL D} (pu : 0 < u) (pv : 0 < v) : Rect x (x + (u + u + u)) y (y + (v + v + v)) [⟨x, y, u + u, v⟩, ⟨x + (u + u), y, u, v + v⟩, ⟨x + u, y + (v + v), u + u, v⟩, ⟨x, y + v, u, v + v⟩, ⟨x + u, y + v, u, v⟩] := by
  refine ⟨fun t ht => ?_, ?_, ?_, fun px py k1 k2 k3 k4 => ?_⟩
  · simp only [List.mem_cons, List.not_mem_nil, or_false] at ht
    rcases ht with h | h | h | h | h <;> subst h <;> refine ⟨?_, ?_, ?_, ?_, ?_, ?_⟩ <;> dsimp only <;> grind
  · simp only [List.pairwise_cons, List.mem_cons, List.not_mem_nil, or_false, forall_eq_or_imp, forall_eq, sepQ, List.Pairwise.nil, and_true]
    refine ⟨⟨?_, ?_, ?_, ?_⟩, ⟨?_, ?_, ?_⟩, ⟨?_, ?_⟩, ?_, ?_⟩
    · left; grind
    · right; right; left; grind
    · right; right; left; grind
    · right; right; left; grind
    · right; right; left; grind
    · right; left; grind
    · right; left; grind
    · right; left; grind
    · right; right; right; grind
    · left; grind
    · intro _ h; cases h
  · show (u + u) * v + (u * (v + v) + ((u + u) * v + (u * (v + v) + (u * v + 0)))) = _
    grind
  · by_cases c1 : px < x + u
    · by_cases c2 : py < y + v
      · exact ⟨⟨x, y, u + u, v⟩, by simp, by dsimp only; grind, by dsimp only; grind, by dsimp only; grind, by dsimp only; grind⟩
      · exact ⟨⟨x, y + v, u, v + v⟩, by simp, by dsimp only; grind, by dsimp only; grind, by dsimp only; grind, by dsimp only; grind⟩
    · by_cases c3 : px < x + (u + u)
      · by_cases c2 : py < y + v
        · exact ⟨⟨x, y, u + u, v⟩, by simp, by dsimp only; grind, by dsimp only; grind, by dsimp only; grind, by dsimp only; grind⟩
        · by_cases c4 : py < y + (v + v)
          · exact ⟨⟨x + u, y + v, u, v⟩, by simp, by dsimp only; grind, by dsimp only; grind, by dsimp only; grind, by dsimp only; grind⟩
          · exact ⟨⟨x + u, y + (v + v), u + u, v⟩, by simp, by dsimp only; grind, by dsimp only; grind, by dsimp only; grind, by dsimp only; grind⟩
      · by_cases c4 : py < y + (v + v)
        · exact ⟨⟨x + (u + u), y, u, v + v⟩, by simp, by dsimp only; grind, by dsimp only; grind, by dsimp only; grind, by dsimp only; grind⟩
        · exact ⟨⟨x + u, y + (v + v), u + u, v⟩, by simp, by dsimp only; grind, by dsimp only; grind, by dsimp only; grind, by dsimp only; grind⟩
end
/-! cuttings of the law as tiles of a rectangle; more walks of moving -/
section
variable {D : Dt}
theorem third_pos {t : QL D} (h : Gd 2 t.v) (e : t.v = ⟨1, 0, 3⟩) : 0 < t := by
  rw [QL.pos_iff, e, sgL_q0 D.ns rfl]; decide
theorem ix0 (x u : QL D) : x = x + u * ((0 : Int) : QL D) := by rw [QL.int_0]; grind
theorem ix1 (x u : QL D) : x + u = x + u * ((1 : Int) : QL D) := by rw [QL.int_1]; grind
theorem i2q : ((2 : Int) : QL D) = 1 + 1 := by rw [show (2 : Int) = 1 + 1 by decide, QL.int_add, QL.int_1]
theorem ix2 (x u : QL D) : x + (u + u) = x + u * ((2 : Int) : QL D) := by rw [i2q]; grind
theorem im1 (u : QL D) : u = u * ((1 : Int) : QL D) := by rw [QL.int_1]; grind
theorem im2 (u : QL D) : u + u = u * ((2 : Int) : QL D) := by rw [i2q]; grind
theorem cutT_rect (hm : D.d ∈ rootsT) {W H : QL D} (pW : 0 < W) (pH : 0 < H) {k : Nat} {ts : List Tl} (c : CutT (sharesT D.d) D.d W.v H.v k ts) : ∃ M : List (TQ D), M.map tV = ts ∧ Rect 0 W 0 H M := by
  induction c with
  | start =>
    have r := rect_one (x := (0 : QL D)) (y := 0) pW pH
    have e1 : (0 : QL D) + W = W := by grind
    have e2 : (0 : QL D) + H = H := by grind
    rw [e1, e2] at r
    exact ⟨_, rfl, r⟩
  | step l r t ps k1 hp ih =>
    obtain ⟨M, e, rc⟩ := ih
    obtain ⟨l', t', r', rfl, rfl, rfl, rfl⟩ := map_split e
    obtain ⟨-, -, -, -, pw, ph⟩ := rc.el t' (by simp)
    have fin : ∀ ps' : List (TQ D), ps'.map tV = ps → Rect t'.x (t'.x + t'.w) t'.y (t'.y + t'.h) ps' → ∃ M : List (TQ D), M.map tV = l'.map tV ++ r'.map tV ++ ps ∧ Rect 0 W 0 H M := fun ps' e1 e2 =>
      ⟨l' ++ r' ++ ps', by rw [List.map_append, List.map_append, e1], rect_repl rc e2⟩
    rcases hp with ⟨s, hs, hp⟩ | hp
    · obtain ⟨g1, g2, p1, p2⟩ := shares_ok hm s hs
      obtain ⟨S, rfl⟩ : ∃ S : QL D, S.v = s := ⟨⟨s, g1.nf⟩, rfl⟩
      have p1 : 0 < S := QL.pos_iff.mpr p1
      have p2 : 0 < 1 - S := QL.pos_iff.mpr p2
      rcases hp with hp | hp <;> subst hp
      · exact fin _ rfl (rect_halfX pw ph p1 p2)
      · exact fin _ rfl (rect_halfY pw ph p1 p2)
    · subst hp
      have g3 : Gd 2 ⟨1, 0, 3⟩ := gd2 (by decide +kernel)
      obtain ⟨T, eT⟩ : ∃ S : QL D, S.v = ⟨1, 0, 3⟩ := ⟨⟨_, g3.nf⟩, rfl⟩
      have pT : 0 < T := third_pos (by rw [eT]; exact g3) eT
      have t3 : T + T + T = 1 := by
        have := QL.val T
        rw [eT] at this
        have e3 : ((3 : Int) : QL D) = 1 + 1 + 1 := by
          rw [show (3 : Int) = 1 + 1 + 1 by decide, QL.int_add, QL.int_add, QL.int_1]
        have e0 : ((0 : Int) : QL D) = 0 := QL.int_0
        have this : T * ((3 : Int) : QL D) = ((1 : Int) : QL D) + ((0 : Int) : QL D) * QL.w := this
        rw [e3, e0, QL.int_1] at this
        grind
      obtain ⟨u, hu⟩ : ∃ u, u = t'.w * T := ⟨_, rfl⟩
      obtain ⟨v, hv⟩ : ∃ u, u = t'.h * T := ⟨_, rfl⟩
      have pu : 0 < u := hu ▸ QL.mul_pos' pw pT
      have pv : 0 < v := hv ▸ QL.mul_pos' ph pT
      have rw' := rect_wheel (x := t'.x) (y := t'.y) pu pv
      have eu : u + u + u = t'.w := by
        rw [hu]
        have : t'.w * T + t'.w * T + t'.w * T = t'.w * (T + T + T) := by grind
        rw [this, t3]; grind
      have ev' : v + v + v = t'.h := by
        rw [hv]
        have : t'.h * T + t'.h * T + t'.h * T = t'.h * (T + T + T) := by grind
        rw [this, t3]; grind
      rw [eu, ev'] at rw'
      refine fin _ ?_ rw'
      have at' (a b c e : Int) (X Y w h : QL D) (h1 : X = t'.x + u * (a : QL D)) (h2 : Y = t'.y + v * (b : QL D)) (h3 : w = u * (c : QL D)) (h4 : h = v * (e : QL D)) : tV (⟨X, Y, w, h⟩ : TQ D) = wheelAt D.d (tV t') a b c e := by
        subst h1 h2 h3 h4
        show (⟨_, _, _, _⟩ : Tl) = ⟨_, _, _, _⟩
        rw [hu, hv]
        show (⟨addL t'.x.v (mulL D.d (mulL D.d t'.w.v T.v) ⟨a, 0, 1⟩), addL t'.y.v (mulL D.d (mulL D.d t'.h.v T.v) ⟨b, 0, 1⟩), mulL D.d (mulL D.d t'.w.v T.v) ⟨c, 0, 1⟩, mulL D.d (mulL D.d t'.h.v T.v) ⟨e, 0, 1⟩⟩ : Tl) = wheelAt D.d (tV t') a b c e
        rw [eT]; rfl
      show [tV _, tV _, tV _, tV _, tV _] = [_, _, _, _, _]
      rw [at' 0 0 2 1 _ _ _ _ (ix0 _ _) (ix0 _ _) (im2 _) (im1 _),
        at' 2 0 1 2 _ _ _ _ (ix2 _ _) (ix0 _ _) (im1 _) (im2 _),
        at' 1 2 2 1 _ _ _ _ (ix1 _ _) (ix2 _ _) (im2 _) (im1 _),
        at' 0 1 1 2 _ _ _ _ (ix0 _ _) (ix1 _ _) (im1 _) (im2 _),
        at' 1 1 1 1 _ _ _ _ (ix1 _ _) (ix1 _ _) (im1 _) (im1 _)]
end
/-! tiles moved and scaled, lists of one's own -/
section
variable {D : Dt}
theorem dis1 {a w : QL D} (h : 0 < w) (k : a + w ≤ a) : False := by grind
theorem encQ_eq (M : List (TQ D)) : encQ M = .list (M.map fun t => encT (tV t)) := by unfold encQ; rw [List.map_map]; rfl
structure GT (n : Nat) (t : TQ D) : Prop where
  x : Gd n t.x.v
  y : Gd n t.y.v
  w : Gd n t.w.v
  h : Gd n t.h.v
theorem GT.mono {n m : Nat} {t : TQ D} (g : GT n t) (e : n ≤ m) : GT m t := ⟨g.x.mono e, g.y.mono e, g.w.mono e, g.h.mono e⟩
theorem gt_tok {n : Nat} {M : List (TQ D)} (h : ∀ t ∈ M, GT n t) : ∀ t ∈ M.map tV, TOk n n t := fun t ht => by
  obtain ⟨u, hu, rfl⟩ := List.mem_map.mp ht
  have g := h u hu
  exact ⟨g.x, g.y, g.w, g.h⟩
/- tiles at unlike places -/
def DisQ (M : List (TQ D)) : Prop := M.Pairwise fun a b => a.x ≠ b.x ∨ a.y ≠ b.y
theorem dis_symm {a b : TQ D} (h : a.x ≠ b.x ∨ a.y ≠ b.y) : b.x ≠ a.x ∨ b.y ≠ a.y := h.imp Ne.symm Ne.symm
theorem dis_perm {M N : List (TQ D)} (p : N.Perm M) (h : DisQ M) : DisQ N := (List.Perm.pairwise_iff (fun h => dis_symm h) p.symm).mp h
theorem dis_map {f : TQ D → TQ D} {M : List (TQ D)} (h : DisQ M) (hf : ∀ a b : TQ D, (a.x ≠ b.x ∨ a.y ≠ b.y) → (f a).x ≠ (f b).x ∨ (f a).y ≠ (f b).y) : DisQ (M.map f) := by
  unfold DisQ
  rw [List.pairwise_map]
  exact List.Pairwise.imp (fun {a b} k => hf a b k) h
theorem dis_rect {W H : QL D} {M : List (TQ D)} (rc : Rect 0 W 0 H M) : DisQ M := by
  refine rc.sp.imp_of_mem fun {a b} ha hb k => ?_
  refine Classical.byContradiction fun z => ?_
  have ex : a.x = b.x := Classical.byContradiction fun y => z (.inl y)
  have ey : a.y = b.y := Classical.byContradiction fun y => z (.inr y)
  obtain ⟨-, -, -, -, a5, a6⟩ := rc.el a ha
  obtain ⟨-, -, -, -, b5, b6⟩ := rc.el b hb
  rcases k with k | k | k | k
  · rw [ex] at k; exact dis1 a5 k
  · rw [ex] at k; exact dis1 b5 k
  · rw [ey] at k; exact dis1 a6 k
  · rw [ey] at k; exact dis1 b6 k
theorem ord_uniq {M N : List (TQ D)} (p : N.Perm M) (sN : OrdQ N) (sM : OrdQ M) (dis : DisQ M) : N = M := by
  refine List.Perm.eq_of_pairwise (fun a b ha hb h1 h2 => ?_) sN sM p
  rcases (le_iff D.ns (a := tV a) (b := tV b) ⟨a.x.nf, a.y.nf⟩ ⟨b.x.nf, b.y.nf⟩).mp h1 with h | ⟨h, h'⟩
  · have : bef D.d (tV a) (tV b) = false := h2
    rw [h] at this; cases this
  · have ex : a.x = b.x := QL.ext' h
    have ey : a.y = b.y := QL.ext' h'
    have ha' := p.mem_iff.mp ha
    obtain ⟨i, hi, ei⟩ := List.getElem_of_mem ha'
    obtain ⟨j, hj, ej⟩ := List.getElem_of_mem hb
    have dd := List.pairwise_iff_getElem.mp dis
    rcases Nat.lt_trichotomy i j with k | k | k
    · have := dd i j hi hj k
      rw [ei, ej] at this
      rcases this with z | z
      · exact absurd ex z
      · exact absurd ey z
    · subst k
      exact ei.symm.trans ej
    · have := dd j i hj hi k
      rw [ei, ej] at this
      rcases this with z | z
      · exact absurd ex.symm z
      · exact absurd ey.symm z
theorem e_inL (sd : Sz 6 D.d) {n : Nat} (hn : n + n < 2900) {M : List (TQ D)} (h1 : ∀ t ∈ M, GT n t) (hl : M.length ≤ 100000) : ∃ N : List (TQ D), N.Perm M ∧ OrdQ N ∧ s__law_in_order [.int D.d, encQ M] = some (encQ N) := by
  have eo := e_in_order (ts := M.map tV) (n := n) (m := n) D.ns sd (gt_tok h1) hn (by simpa using hl)
  obtain ⟨N, q1, q2, q3⟩ := ordO_lift M
  rw [← q2] at eo
  exact ⟨N, q1, q3, eo⟩
end
section
variable {D : Dt}
theorem noLs_encQ (M : List (TQ D)) : noLs ((M.map tV).map encT) = true := by
  induction M with
  | nil => rfl
  | cons t M ih =>
    show (noL (encT (tV t)) && noLs ((M.map tV).map encT)) = true
    rw [ih]
    rfl
theorem len_encQ (M : List (TQ D)) : ((M.map tV).map encT).length = M.length := by simp
/- the program's moved, scaled: lists of their own -/
/- the law's -/
theorem e_movedL (sd : Sz 6 D.d) {n m : Nat} {U V : QL D} (gU : Gd m U.v) (gV : Gd m V.v) (e : n + m < 7900) {M : List (TQ D)} (h1 : ∀ t ∈ M, GT n t) :
    s__law_moved [.int D.d, encQ M, encL U.v, encL V.v] = some (encQ (M.map (mvQ U V))) := by
  have u : s__law_moved = run [s__law_add] [] 4 5 b__law_moved := rfl
  rw [u]
  refine run_ret rfl (exs_ret (ex_return (ev_fr (comp_of (ds := (M.map tV).map encT) (by simp [encQ]) ?_))))
  rw [show (M.map tV).map encT = M.map (encT ∘ tV) from List.map_map, show ((M.map (mvQ U V)).map tV).map encT = (M.map (mvQ U V)).map (encT ∘ tV) from List.map_map]
  refine compL_map_map (enc := encT ∘ tV) (enc2 := encT ∘ tV) (mvQ U V) ?_
  intro t ht
  have g := h1 t ht
  have t1 := e_law_add g.x gU (by omega)
  have t2 := e_law_add g.y gV (by omega)
  have i0 : ixD ((encT ∘ tV) t) (.int 0) = some (encL t.x.v) := rfl
  have i1 : ixD ((encT ∘ tV) t) (.int 1) = some (encL t.y.v) := rfl
  have i2 : ixD ((encT ∘ tV) t) (.int 2) = some (encL t.w.v) := rfl
  have i3 : ixD ((encT ∘ tV) t) (.int 3) = some (encL t.h.v) := rfl
  generalize (encT ∘ tV) t = Q at i0 i1 i2 i3
  simp [-ixD, i0, i1, i2, i3, t1, t2, sizeLine_eq]
  rfl
end
theorem pl_encQ36 {D : Dt} (M : List (TQ D)) (h : M.length ≤ 1000000) : Pl 3 (encQ M) := by
  unfold encQ
  exact pl_list (f := encT) (by rw [List.length_map]; exact h) fun x _ => pl_encT 0 x
/- what is known of a grid's cells -/
structure Cel14 (d : Int) (t : Tl) : Prop where
  x : Gd 1400 t.x
  y : Gd 1400 t.y
  w : Gd 1400 t.w
  h : Gd 1400 t.h
  pw : 0 < sgL d t.w
  ph : 0 < sgL d t.h
section
variable {D : Dt}
theorem nnq_mul {a b : QL D} (h : 0 ≤ a) (k : 0 ≤ b) : 0 ≤ a * b := by
  by_cases c : a = 0
  · rw [c]; grind
  · by_cases e : b = 0
    · rw [e]; grind
    · have := QL.mul_pos' (a := a) (b := b) (by grind) (by grind)
      grind
end
/-! tiles apart within a rectangle have no more area than it; with as much they fill it -/
section
variable {D : Dt}
noncomputable def mnQ (a b : QL D) : QL D := @ite _ (a < b) (Classical.propDecidable _) a b
noncomputable def mxQ (a b : QL D) : QL D := @ite _ (a < b) (Classical.propDecidable _) b a
theorem mn_cases (a b : QL D) : (a < b ∧ mnQ a b = a) ∨ (b ≤ a ∧ mnQ a b = b) := by
  by_cases c : a < b
  · exact .inl ⟨c, by unfold mnQ; rw [if_pos c]⟩
  · exact .inr ⟨g_nlt c, by unfold mnQ; rw [if_neg c]⟩
theorem mx_cases (a b : QL D) : (a < b ∧ mxQ a b = b) ∨ (b ≤ a ∧ mxQ a b = a) := by
  by_cases c : a < b
  · exact .inl ⟨c, by unfold mxQ; rw [if_pos c]⟩
  · exact .inr ⟨g_nlt c, by unfold mxQ; rw [if_neg c]⟩
noncomputable def pcQ (lo hi : QL D) (t : TQ D) : Option (TQ D) := @ite _ (lo < hi) (Classical.propDecidable _) (some ⟨lo, t.y, hi - lo, t.h⟩) none
noncomputable def lenQ (lo hi : QL D) : QL D := @ite _ (lo < hi) (Classical.propDecidable _) (hi - lo) 0
theorem len_cases (a b : QL D) : (a < b ∧ lenQ a b = b - a) ∨ (b ≤ a ∧ lenQ a b = 0) := by
  by_cases c : a < b
  · exact .inl ⟨c, by unfold lenQ; rw [if_pos c]⟩
  · exact .inr ⟨g_nlt c, by unfold lenQ; rw [if_neg c]⟩
theorem pc_mem {lo hi : QL D} {t u : TQ D} (h : pcQ lo hi t = some u) : lo < hi ∧ u = ⟨lo, t.y, hi - lo, t.h⟩ := by
  unfold pcQ at h
  split at h
  · rename_i c
    exact ⟨c, (Option.some.inj h).symm⟩
  · cases h
theorem three_abs {x w c1 c2 m1 M1 m2 M2 l1 l2 l3 : QL D} (pw : 0 < w) (h : c1 ≤ c2) (h1 : (x + w < c1 ∧ m1 = x + w) ∨ (c1 ≤ x + w ∧ m1 = c1)) (h2 : (x < c1 ∧ M1 = c1) ∨ (c1 ≤ x ∧ M1 = x)) (h3 : (x + w < c2 ∧ m2 = x + w) ∨ (c2 ≤ x + w ∧ m2 = c2)) (h4 : (x < c2 ∧ M2 = c2) ∨ (c2 ≤ x ∧ M2 = x))
    (k1 : (x < m1 ∧ l1 = m1 - x) ∨ (m1 ≤ x ∧ l1 = 0)) (k2 : (M1 < m2 ∧ l2 = m2 - M1) ∨ (m2 ≤ M1 ∧ l2 = 0)) (k3 : (M2 < x + w ∧ l3 = x + w - M2) ∨ (x + w ≤ M2 ∧ l3 = 0)) : l1 + l2 + l3 = w := by
  rcases h1 with ⟨a1, rfl⟩ | ⟨a1, rfl⟩ <;> rcases h2 with ⟨a2, rfl⟩ | ⟨a2, rfl⟩ <;> rcases h3 with ⟨a3, rfl⟩ | ⟨a3, rfl⟩ <;> rcases h4 with ⟨a4, rfl⟩ | ⟨a4, rfl⟩ <;>
    rcases k1 with ⟨b1, rfl⟩ | ⟨b1, rfl⟩ <;> rcases k2 with ⟨b2, rfl⟩ | ⟨b2, rfl⟩ <;> rcases k3 with ⟨b3, rfl⟩ | ⟨b3, rfl⟩ <;> grind
theorem three_len {x w c1 c2 : QL D} (pw : 0 < w) (h : c1 ≤ c2) : lenQ x (mnQ (x + w) c1) + lenQ (mxQ x c1) (mnQ (x + w) c2) + lenQ (mxQ x c2) (x + w) = w :=
  three_abs pw h (mn_cases _ _) (mx_cases _ _) (mn_cases _ _) (mx_cases _ _) (len_cases _ _) (len_cases _ _) (len_cases _ _)
theorem ar_filt {f : TQ D → Option (TQ D)} {g : TQ D → QL D} (hf : ∀ t, (match f t with | some u => u.w * u.h | none => 0) = g t * t.h) : ∀ M : List (TQ D), arQ (M.filterMap f) = (M.map fun t => g t * t.h).foldr (· + ·) 0
  | [] => rfl
  | t :: M => by
    have h := hf t
    have ih := ar_filt hf M
    rw [List.map_cons, List.foldr_cons, ← ih, ← h]
    cases hq : f t with
    | none => rw [List.filterMap_cons_none hq]; show _ = 0 + _; grind
    | some u => rw [List.filterMap_cons_some hq]; rfl
theorem pc_g {lo hi : TQ D → QL D} (t : TQ D) : (match pcQ (lo t) (hi t) t with | some u => u.w * u.h | none => 0) = lenQ (lo t) (hi t) * t.h := by
  unfold pcQ lenQ
  by_cases c : lo t < hi t
  · rw [if_pos c, if_pos c]
  · rw [if_neg c, if_neg c]
    show (0 : QL D) = 0 * t.h
    grind
theorem sumW3 {f g h : TQ D → QL D} (e : ∀ t ∈ ([] : List (TQ D)), True) : ∀ M : List (TQ D), (∀ t ∈ M, f t + g t + h t = t.w) → (M.map fun t => f t * t.h).foldr (· + ·) 0 + (M.map fun t => g t * t.h).foldr (· + ·) 0 + (M.map fun t => h t * t.h).foldr (· + ·) 0 = arQ M
  | [], _ => by show (0 : QL D) + 0 + 0 = 0; grind
  | t :: M, k => by
    have ih := sumW3 e M fun x hx => k x (List.mem_cons_of_mem _ hx)
    have kt := k t List.mem_cons_self
    rw [List.map_cons, List.map_cons, List.map_cons, List.foldr_cons, List.foldr_cons, List.foldr_cons]
    show _ = t.w * t.h + arQ M
    rw [← ih, ← kt]
    grind
structure Sub (t u : TQ D) : Prop where
  y : u.y = t.y
  h : u.h = t.h
  lo : t.x ≤ u.x
  hi : u.x + u.w ≤ t.x + t.w
  p : 0 < u.w
theorem sep_subQ {t t' u u' : TQ D} (a : Sub t u) (b : Sub t' u') (s : sepQ t t') : sepQ u u' := by
  have a1 := a.lo
  have a2 := a.hi
  have b1 := b.lo
  have b2 := b.hi
  rcases s with s | s | s | s
  · exact .inl (g_le a2 (g_le s b1))
  · exact .inr (.inl (g_le b2 (g_le s a1)))
  · exact .inr (.inr (.inl (by rw [a.y, a.h, b.y]; exact s)))
  · exact .inr (.inr (.inr (by rw [b.y, b.h, a.y]; exact s)))
theorem sub_pc {lo hi : QL D} {t u : TQ D} (h : pcQ lo hi t = some u) (h1 : t.x ≤ lo) (h2 : hi ≤ t.x + t.w) : Sub t u ∧ u.x = lo ∧ u.x + u.w = hi := by
  obtain ⟨c, rfl⟩ := pc_mem h
  refine ⟨⟨rfl, rfl, h1, ?_, ?_⟩, rfl, ?_⟩
  · show lo + (hi - lo) ≤ _; grind
  · show 0 < hi - lo; grind
  · show lo + (hi - lo) = hi; grind
theorem mn_le (a b : QL D) : mnQ a b ≤ a ∧ mnQ a b ≤ b := by
  rcases mn_cases a b with ⟨h, e⟩ | ⟨h, e⟩ <;> rw [e] <;> constructor <;> grind
theorem mx_le (a b : QL D) : a ≤ mxQ a b ∧ b ≤ mxQ a b := by
  rcases mx_cases a b with ⟨h, e⟩ | ⟨h, e⟩ <;> rw [e] <;> constructor <;> grind
theorem ar_part (p : TQ D → Bool) : ∀ M : List (TQ D), arQ (M.filter p) + arQ (M.filter fun t => !p t) = arQ M
  | [] => by show (0 : QL D) + 0 = 0; grind
  | t :: M => by
    have ih := ar_part p M
    cases c : p t with
    | true =>
      rw [List.filter_cons_of_pos c, List.filter_cons_of_neg (by simp [c])]
      show t.w * t.h + arQ (M.filter p) + _ = t.w * t.h + arQ M
      rw [← ih]; grind
    | false =>
      rw [List.filter_cons_of_neg (by simp [c]), List.filter_cons_of_pos (by simp [c])]
      show arQ (M.filter p) + (t.w * t.h + _) = t.w * t.h + arQ M
      rw [← ih]; grind
structure Apt (x0 x1 y0 y1 : QL D) (M : List (TQ D)) : Prop where
  el : ∀ t ∈ M, x0 ≤ t.x ∧ t.x + t.w ≤ x1 ∧ y0 ≤ t.y ∧ t.y + t.h ≤ y1 ∧ 0 < t.w ∧ 0 < t.h
  sp : M.Pairwise sepQ
theorem apt_map {f : TQ D → Option (TQ D)} {x0 x1 y0 y1 a b : QL D} {M : List (TQ D)} (m : Apt x0 x1 y0 y1 M) (hf : ∀ t ∈ M, ∀ u, f t = some u → Sub t u ∧ a ≤ u.x ∧ u.x + u.w ≤ b) : Apt a b y0 y1 (M.filterMap f) := by
  refine ⟨fun u hu => ?_, ?_⟩
  · obtain ⟨t, ht, e⟩ := List.mem_filterMap.mp hu
    obtain ⟨s, h1, h2⟩ := hf t ht u e
    obtain ⟨e1, e2, e3, e4, e5, e6⟩ := m.el t ht
    exact ⟨h1, h2, by rw [s.y]; exact e3, by rw [s.y, s.h]; exact e4, s.p, by rw [s.h]; exact e6⟩
  · rw [List.pairwise_filterMap]
    refine m.sp.imp_of_mem fun {t t'} ht ht' k u hu u' hu' => ?_
    exact sep_subQ (hf t ht u hu).1 (hf t' ht' u' hu').1 k
theorem pack_eq {x0 x1 y0 y1 x y w h L B A R M' : QL D} (e : L + (B + A) + R = M') (hL : L ≤ (x - x0) * (y1 - y0)) (hB : B ≤ (x + w - x) * (y - y0)) (hA : A ≤ (x + w - x) * (y1 - (y + h))) (hR : R ≤ (x1 - (x + w)) * (y1 - y0)) : w * h + M' ≤ (x1 - x0) * (y1 - y0) := by
  rw [← e]; grind
theorem pack : ∀ (n : Nat) (M : List (TQ D)), M.length ≤ n → ∀ x0 x1 y0 y1 : QL D, x0 ≤ x1 → y0 ≤ y1 → Apt x0 x1 y0 y1 M → arQ M ≤ (x1 - x0) * (y1 - y0)
  | _, [], _, x0, x1, y0, y1, h1, h2, _ => nnq_mul (a := x1 - x0) (b := y1 - y0) (by grind) (by grind)
  | 0, T :: M, h, _, _, _, _, _, _, _ => absurd h (by simp)
  | n + 1, T :: M, hn, x0, x1, y0, y1, h1, h2, a => by
    have hn' : M.length ≤ n := by rw [List.length_cons] at hn; omega
    obtain ⟨t1, t2, t3, t4, t5, t6⟩ := a.el T List.mem_cons_self
    have sp := List.pairwise_cons.mp a.sp
    have am : Apt x0 x1 y0 y1 M := ⟨fun t ht => a.el t (List.mem_cons_of_mem _ ht), sp.2⟩
    have cw : T.x ≤ T.x + T.w := by grind
    let gL : TQ D → QL D := fun t => lenQ t.x (mnQ (t.x + t.w) T.x)
    let gM : TQ D → QL D := fun t => lenQ (mxQ t.x T.x) (mnQ (t.x + t.w) (T.x + T.w))
    let gR : TQ D → QL D := fun t => lenQ (mxQ t.x (T.x + T.w)) (t.x + t.w)
    let fL : TQ D → Option (TQ D) := fun t => pcQ t.x (mnQ (t.x + t.w) T.x) t
    let fM : TQ D → Option (TQ D) := fun t => pcQ (mxQ t.x T.x) (mnQ (t.x + t.w) (T.x + T.w)) t
    let fR : TQ D → Option (TQ D) := fun t => pcQ (mxQ t.x (T.x + T.w)) (t.x + t.w) t
    have aL := ar_filt (f := fL) (g := gL) (fun t => pc_g (lo := fun t => t.x) (hi := fun t => mnQ (t.x + t.w) T.x) t) M
    have aM := ar_filt (f := fM) (g := gM) (fun t => pc_g (lo := fun t => mxQ t.x T.x) (hi := fun t => mnQ (t.x + t.w) (T.x + T.w)) t) M
    have aR := ar_filt (f := fR) (g := gR) (fun t => pc_g (lo := fun t => mxQ t.x (T.x + T.w)) (hi := fun t => t.x + t.w) t) M
    have s3 := sumW3 (f := gL) (g := gM) (h := gR) (fun _ _ => trivial) M fun t ht => three_len (am.el t ht).2.2.2.2.1 cw
    rw [← aL, ← aM, ← aR] at s3
    have mL : Apt x0 T.x y0 y1 (M.filterMap fL) := apt_map am fun t ht u hu => by
      obtain ⟨s, e1, e2⟩ := sub_pc hu (by grind) (mn_le _ _).1
      exact ⟨s, by rw [e1]; exact (am.el t ht).1, by rw [e2]; exact (mn_le _ _).2⟩
    have mR : Apt (T.x + T.w) x1 y0 y1 (M.filterMap fR) := apt_map am fun t ht u hu => by
      obtain ⟨s, e1, e2⟩ := sub_pc hu (mx_le _ _).1 (by grind)
      exact ⟨s, by rw [e1]; exact (mx_le _ _).2, by rw [e2]; exact (am.el t ht).2.1⟩
    have mM : Apt T.x (T.x + T.w) y0 y1 (M.filterMap fM) := apt_map am fun t ht u hu => by
      obtain ⟨s, e1, e2⟩ := sub_pc hu (mx_le _ _).1 (mn_le _ _).1
      exact ⟨s, by rw [e1]; exact (mx_le _ _).2, by rw [e2]; exact (mn_le _ _).2⟩
    obtain ⟨Md, hMd⟩ : ∃ Md, Md = M.filterMap fM := ⟨_, rfl⟩
    have lo : ∀ u ∈ Md, T.y + T.h ≤ u.y ∨ u.y + u.h ≤ T.y := by
      intro u hu
      rw [hMd] at hu
      obtain ⟨t, ht, e⟩ := List.mem_filterMap.mp hu
      obtain ⟨s, e1, e2⟩ := sub_pc e (mx_le _ _).1 (mn_le _ _).1
      have q1 := (mx_le t.x T.x).2
      have q2 := (mn_le (t.x + t.w) (T.x + T.w)).2
      rw [← e1] at q1
      rw [← e2] at q2
      have s1 := s.lo
      have s2 := s.hi
      have s4 := s.p
      rcases sp.1 t ht with k | k | k | k
      · exact absurd k (by grind)
      · exact absurd k (by grind)
      · exact .inl (by rw [s.y]; exact k)
      · exact .inr (by rw [s.y, s.h]; exact k)
    let p : TQ D → Bool := fun u => @decide (u.y + u.h ≤ T.y) (Classical.propDecidable _)
    have pp : ∀ u, p u = true ↔ u.y + u.h ≤ T.y := fun u => @decide_eq_true_iff _ (Classical.propDecidable _)
    have ap := ar_part p Md
    rw [← hMd] at s3 mM
    have mB : Apt T.x (T.x + T.w) y0 T.y (Md.filter p) := ⟨fun u hu => by
      obtain ⟨h1, h2⟩ := List.mem_filter.mp hu
      obtain ⟨e1, e2, e3, e4, e5, e6⟩ := mM.el u h1
      exact ⟨e1, e2, e3, (pp u).mp h2, e5, e6⟩, mM.sp.filter _⟩
    have mA : Apt T.x (T.x + T.w) (T.y + T.h) y1 (Md.filter fun u => !p u) := ⟨fun u hu => by
      obtain ⟨h1, h2⟩ := List.mem_filter.mp hu
      obtain ⟨e1, e2, e3, e4, e5, e6⟩ := mM.el u h1
      have : ¬ u.y + u.h ≤ T.y := fun z => by
        have := (pp u).mpr z
        rw [this] at h2; cases h2
      rcases lo u h1 with k | k
      · exact ⟨e1, e2, k, e4, e5, e6⟩
      · exact absurd k this, mM.sp.filter _⟩
    have lM : Md.length ≤ n := by rw [hMd]; exact Nat.le_trans (List.length_filterMap_le _ _) hn'
    have bL := pack n _ (Nat.le_trans (List.length_filterMap_le fL M) hn') x0 T.x y0 y1 t1 h2 mL
    have bR := pack n _ (Nat.le_trans (List.length_filterMap_le fR M) hn') (T.x + T.w) x1 y0 y1 t2 h2 mR
    have bB := pack n _ (Nat.le_trans (List.length_filter_le p Md) lM) T.x (T.x + T.w) y0 T.y cw t3 mB
    have bA := pack n _ (Nat.le_trans (List.length_filter_le (fun u => !p u) Md) lM) T.x (T.x + T.w) (T.y + T.h) y1 cw t4 mA
    rw [← ap] at s3
    show T.w * T.h + arQ M ≤ _
    exact pack_eq s3 bL bB bA bR
theorem near_above {q x1 : QL D} (h : q < x1) : ∀ E : List (QL D), ∃ q', q < q' ∧ q' ≤ x1 ∧ ∀ e ∈ E, q < e → q' ≤ e
  | [] => ⟨x1, h, by grind, fun _ h => absurd h (by simp)⟩
  | e :: E => by
    obtain ⟨q', h1, h2, h3⟩ := near_above h E
    by_cases c : q < e ∧ e < q'
    · exact ⟨e, c.1, by grind, fun a ha hq => by
        rcases List.mem_cons.mp ha with z | z
        · rw [z]; grind
        · have := h3 a z hq; grind⟩
    · refine ⟨q', h1, h2, fun a ha hq => ?_⟩
      rcases List.mem_cons.mp ha with z | z
      · subst z
        by_cases c2 : a < q'
        · exact absurd ⟨hq, c2⟩ c
        · exact g_nlt c2
      · exact h3 a z hq
/- as much area: all is filled -/
theorem apt_rect {x0 x1 y0 y1 : QL D} {M : List (TQ D)} (h1 : x0 ≤ x1) (h2 : y0 ≤ y1) (a : Apt x0 x1 y0 y1 M) (ar : arQ M = (x1 - x0) * (y1 - y0)) : Rect x0 x1 y0 y1 M := by
  refine ⟨a.el, a.sp, ar, fun px py k1 k2 k3 k4 => ?_⟩
  refine Classical.byContradiction fun z => ?_
  obtain ⟨qx, a1, a2, a3⟩ := near_above k2 (M.map fun t => t.x)
  obtain ⟨qy, b1, b2, b3⟩ := near_above k4 (M.map fun t => t.y)
  let K : TQ D := ⟨px, py, qx - px, qy - py⟩
  have ex : px + (qx - px) = qx := by grind
  have ey : py + (qy - py) = qy := by grind
  have pw : 0 < qx - px := by grind
  have ph : 0 < qy - py := by grind
  have aK : Apt x0 x1 y0 y1 (K :: M) := by
    refine ⟨fun t ht => ?_, List.pairwise_cons.mpr ⟨fun t ht => ?_, a.sp⟩⟩
    · rcases List.mem_cons.mp ht with ht | ht
      · subst ht
        exact ⟨k1, by show px + (qx - px) ≤ x1; rw [ex]; exact a2, k3, by show py + (qy - py) ≤ y1; rw [ey]; exact b2, pw, ph⟩
      · exact a.el t ht
    · by_cases c1 : px < t.x
      · refine .inl ?_
        show px + (qx - px) ≤ t.x
        rw [ex]; exact a3 t.x (List.mem_map.mpr ⟨t, ht, rfl⟩) c1
      · by_cases c2 : py < t.y
        · refine .inr (.inr (.inl ?_))
          show py + (qy - py) ≤ t.y
          rw [ey]; exact b3 t.y (List.mem_map.mpr ⟨t, ht, rfl⟩) c2
        · by_cases c3 : px < t.x + t.w
          · by_cases c4 : py < t.y + t.h
            · exact absurd ⟨t, ht, g_nlt c1, c3, g_nlt c2, c4⟩ z
            · exact .inr (.inr (.inr (g_nlt c4)))
          · exact .inr (.inl (g_nlt c3))
  have := pack _ (K :: M) (Nat.le_refl _) x0 x1 y0 y1 h1 h2 aK
  have e : arQ (K :: M) = (qx - px) * (qy - py) + arQ M := rfl
  rw [e, ar] at this
  have pp := QL.mul_pos' pw ph
  generalize (qx - px) * (qy - py) = V at this pp
  grind
end
/-! what is known when the tiles did lie flat -/
section
variable {D : Dt}
def laQ : List (Lv D) → QL D
  | [] => 0
  | l :: r => (l.b - l.a) * l.h + laQ r
theorem la_app : ∀ (l r : List (Lv D)), laQ (l ++ r) = laQ l + laQ r
  | [], r => by show laQ r = 0 + laQ r; grind
  | a :: l, r => by
    show (a.b - a.a) * a.h + laQ (l ++ r) = (a.b - a.a) * a.h + laQ l + laQ r
    rw [la_app l r]; grind
theorem la_flat {y : QL D} : ∀ {ls : List (Lv D)} {p q : QL D}, Chn p ls q → (∀ l ∈ ls, l.h = y) → laQ ls = (q - p) * y
  | [], p, q, h, _ => by have h : p = q := h; subst h; show (0 : QL D) = (p - p) * y; grind
  | l :: r, p, q, ⟨h1, h2, h3⟩, k => by
    have ih := la_flat h3 fun x hx => k x (List.mem_cons_of_mem _ hx)
    have e := k l List.mem_cons_self
    show (l.b - l.a) * l.h + laQ r = (q - p) * y
    rw [ih, e, h1]; grind
structure GoodP (W : QL D) (dn : List (TQ D)) (ls : List (Lv D)) : Prop where
  ch : Chn 0 ls W
  nn : ∀ l ∈ ls, 0 ≤ l.h
  tp : ∀ t ∈ dn, ∀ l ∈ ls, t.x < l.b → l.a < t.x + t.w → t.y + t.h ≤ l.h
  el : ∀ t ∈ dn, 0 ≤ t.x ∧ t.x + t.w ≤ W ∧ 0 ≤ t.y ∧ 0 < t.w ∧ 0 < t.h
  sp : dn.Pairwise sepQ
  ar : laQ ls = arQ dn
theorem goodp_start {W : QL D} (pW : 0 < W) : GoodP W [] [⟨0, W, 0⟩] := by
  refine ⟨⟨rfl, pW, rfl⟩, fun l hl => ?_, fun t ht => absurd ht (by simp), fun t ht => absurd ht (by simp), .nil, ?_⟩
  · rw [List.mem_singleton.mp hl]
    show (0 : QL D) ≤ 0
    grind
  · show (W - 0) * 0 + 0 = (0 : QL D)
    grind
theorem over_at {a b c e : QL D} (h1 : a < e) (h2 : c < b) (h3 : a < b) (h4 : c < e) : ∃ p, a ≤ p ∧ p < b ∧ c ≤ p ∧ p < e := by
  by_cases k : a < c
  · exact ⟨c, by grind, h2, by grind, h4⟩
  · exact ⟨a, by grind, h3, g_nlt k, h1⟩
theorem la_new {m m2 x w y h S : QL D} (f1 f2 : QL D) (h1 : f1 = (x - m) * y) (h2 : f2 = (m2 - (x + w)) * y) (hB : S = (m2 - m) * y) : f1 + ((x + w - x) * (y + h) + 0) + f2 = S + w * h := by
  rw [h1, h2, hB]; grind
theorem goodp_step {W : QL D} {dn : List (TQ D)} {T : TQ D} {A B C : List (Lv D)} {m m2 : QL D} (g : GoodP W dn (A ++ B ++ C)) (pw : 0 < T.w) (ph : 0 < T.h) (t1 : 0 ≤ T.x) (t2 : T.x + T.w ≤ W)
    (k1 : Chn 0 A m) (k2 : Chn m B m2) (k3 : Chn m2 C W) (h1 : m ≤ T.x) (h2 : T.x + T.w ≤ m2) (hA : ∀ l ∈ A, l.b ≤ T.x) (hB : ∀ l ∈ B, T.x < l.b) (hB2 : ∀ l ∈ B, l.a < T.x + T.w) (hC : ∀ l ∈ C, T.x + T.w ≤ l.a) (fl : ∀ l ∈ B, l.h = T.y) :
    GoodP W (dn ++ [T]) (A ++ lefL m T ++ [⟨T.x, T.x + T.w, T.y + T.h⟩] ++ (rigL m2 T ++ C)) := by
  have mB : m < m2 := by grind
  -- a point of [m, m2) lies in a level of B
  have inB : ∀ px, m ≤ px → px < m2 → ∃ l ∈ B, l.a ≤ px ∧ px < l.b := fun px a b => chn_at k2 a b
  have y0 : 0 ≤ T.y := by
    obtain ⟨l, hl, -, -⟩ := inB m (by grind) mB
    rw [← fl l hl]; exact g.nn l (by simp [hl])
  -- tops of what lies below
  have top : ∀ t ∈ dn, ∀ a b, m ≤ a → b ≤ m2 → a < b → t.x < b → a < t.x + t.w → t.y + t.h ≤ T.y := by
    intro t ht a b ha hb hab q1 q2
    obtain ⟨e1, e2, e3, e4, e5⟩ := g.el t ht
    obtain ⟨p, p1, p2, p3, p4⟩ := over_at (a := a) (b := b) (c := t.x) (e := t.x + t.w) q2 q1 hab (lt_rw e4)
    obtain ⟨l, hl, l1, l2⟩ := inB p (g_le ha p1) (g_ltle p2 hb)
    rw [← fl l hl]
    exact g.tp t ht l (by simp [hl]) (g_lelt p3 l2) (g_lelt l1 p4)
  have sepT : ∀ t ∈ dn, sepQ t T := by
    intro t ht
    by_cases q1 : t.x < T.x + T.w
    · by_cases q2 : T.x < t.x + t.w
      · exact .inr (.inr (.inl (top t ht T.x (T.x + T.w) h1 h2 (lt_rw pw) q1 q2)))
      · exact .inl (g_nlt q2)
    · exact .inr (.inl (g_nlt q1))
  have lefH : ∀ l ∈ lefL m T, l = ⟨m, T.x, T.y⟩ ∧ m < T.x := by
    intro l hl
    unfold lefL at hl
    split at hl
    · rename_i c; exact ⟨List.mem_singleton.mp hl, c⟩
    · cases hl
  have rigH : ∀ l ∈ rigL m2 T, l = ⟨T.x + T.w, m2, T.y⟩ ∧ T.x + T.w < m2 := by
    intro l hl
    unfold rigL at hl
    split at hl
    · rename_i c; exact ⟨List.mem_singleton.mp hl, c⟩
    · cases hl
  refine ⟨?_, fun l hl => ?_, fun t ht l hl q1 q2 => ?_, fun t ht => ?_, ?_, ?_⟩
  · refine chn_app.mpr ⟨T.x + T.w, chn_app.mpr ⟨T.x, chn_app.mpr ⟨m, k1, ?_⟩, rfl, lt_rw pw, rfl⟩, chn_app.mpr ⟨m2, ?_, k3⟩⟩
    · unfold lefL
      by_cases c : m < T.x
      · rw [if_pos c]; exact ⟨rfl, c, rfl⟩
      · rw [if_neg c]; show m = T.x; grind
    · unfold rigL
      by_cases c : T.x + T.w < m2
      · rw [if_pos c]; exact ⟨rfl, c, rfl⟩
      · rw [if_neg c]; show T.x + T.w = m2; grind
  · rcases List.mem_append.mp hl with hl | hl
    · rcases List.mem_append.mp hl with hl | hl
      · rcases List.mem_append.mp hl with hl | hl
        · exact g.nn l (by simp [hl])
        · rw [(lefH l hl).1]; exact y0
      · rw [List.mem_singleton.mp hl]
        exact QL.nn_add' y0 (by grind)
    · rcases List.mem_append.mp hl with hl | hl
      · rw [(rigH l hl).1]; exact y0
      · exact g.nn l (by simp [hl])
  · have ht' : t ∈ dn ∨ t = T := by
      rcases List.mem_append.mp ht with h | h
      · exact .inl h
      · exact .inr (List.mem_singleton.mp h)
    rcases List.mem_append.mp hl with hl | hl
    · rcases List.mem_append.mp hl with hl | hl
      · rcases List.mem_append.mp hl with hl | hl
        · rcases ht' with h | h
          · exact g.tp t h l (by simp [hl]) q1 q2
          · subst h
            have := hA l (by assumption)
            exact (g_abs q1 this).elim
        · obtain ⟨e, c⟩ := lefH l hl
          subst e
          rcases ht' with h | h
          · exact top t h m T.x (by grind) (g_le (show T.x ≤ T.x + T.w by grind) h2) c q1 q2
          · subst h; exact (g_abs q1 (by grind)).elim
      · rw [List.mem_singleton.mp hl] at q1 q2 ⊢
        rcases ht' with h | h
        · have := top t h T.x (T.x + T.w) h1 h2 (lt_rw pw) q1 q2
          show t.y + t.h ≤ T.y + T.h
          grind
        · subst h; show t.y + t.h ≤ t.y + t.h; grind
    · rcases List.mem_append.mp hl with hl | hl
      · obtain ⟨e, c⟩ := rigH l hl
        subst e
        rcases ht' with h | h
        · exact top t h (T.x + T.w) m2 (g_le h1 (show T.x ≤ T.x + T.w by grind)) (by grind) c q1 q2
        · subst h; exact (g_abs q2 (by grind)).elim
      · rcases ht' with h | h
        · exact g.tp t h l (by simp [hl]) q1 q2
        · subst h
          have := hC l (by assumption)
          exact (g_abs q2 this).elim
  · rcases List.mem_append.mp ht with h | h
    · exact g.el t h
    · rw [List.mem_singleton.mp h]; exact ⟨t1, t2, y0, pw, ph⟩
  · rw [List.pairwise_append]
    exact ⟨g.sp, List.pairwise_singleton _ _, fun t ht u hu => by rw [List.mem_singleton.mp hu]; exact sepT t ht⟩
  · have old := g.ar
    rw [la_app, la_app, la_flat k2 fl] at old
    rw [la_app, la_app, la_app, la_app, arQ_app, ← old]
    have f1 : laQ (lefL m T) = (T.x - m) * T.y := by
      unfold lefL
      by_cases c : m < T.x
      · rw [if_pos c]; show (T.x - m) * T.y + 0 = _; grind
      · rw [if_neg c]
        have : T.x = m := by grind
        rw [this]; show (0 : QL D) = (m - m) * T.y; grind
    have f2 : laQ (rigL m2 T) = (m2 - (T.x + T.w)) * T.y := by
      unfold rigL
      by_cases c : T.x + T.w < m2
      · rw [if_pos c]; show (m2 - (T.x + T.w)) * T.y + 0 = _; grind
      · rw [if_neg c]
        have : m2 = T.x + T.w := by grind
        rw [this]; show (0 : QL D) = (T.x + T.w - (T.x + T.w)) * T.y; grind
    rw [f1, f2]
    show laQ A + _ + ((T.x + T.w - T.x) * (T.y + T.h) + 0) + (_ + laQ C) = laQ A + _ + laQ C + (T.w * T.h + 0)
    grind
/- all levels come to H: a rectangle filled -/
theorem goodp_end {W H : QL D} {M : List (TQ D)} {ls : List (Lv D)} (g : GoodP W M ls) (h : ∀ l ∈ ls, l.h = H) : Apt 0 W 0 H M ∧ arQ M = W * H := by
  refine ⟨⟨fun t ht => ?_, g.sp⟩, ?_⟩
  · obtain ⟨e1, e2, e3, e4, e5⟩ := g.el t ht
    obtain ⟨l, hl, l1, l2⟩ := chn_at g.ch e1 (g_ltle (lt_rw e4) e2)
    have := g.tp t ht l hl l2 (g_lelt l1 (lt_rw e4))
    rw [h l hl] at this
    exact ⟨e1, e2, e3, this, e4, e5⟩
  · rw [← g.ar, la_flat g.ch h]; grind
end
/-! the program's is_cutting on any tiles: exactly when they fill the sheet in order -/
theorem forB_dich {Γ : List Sem1} {G : List PL.D} {tg : Tg} {b : Sms} {I : Sto → Prop} {P : PL.D → Prop} {r : PL.D} : ∀ (ds : List PL.D), (∀ v ∈ ds, ∀ s, I s → ∃ s1, bindTg tg v s = some s1 ∧ ((P v ∧ ∃ s2, exs Γ G b s1 = some (.next s2) ∧ I s2) ∨ (¬ P v ∧ exs Γ G b s1 = some (.ret r)))) →
    ∀ s, I s → ((∀ v ∈ ds, P v) ∧ ∃ s', forB Γ G tg b ds s = some (.next s') ∧ I s') ∨ (¬ (∀ v ∈ ds, P v) ∧ forB Γ G tg b ds s = some (.ret r))
  | [], _, s, hs => .inl ⟨fun _ h => absurd h (by simp), s, rfl, hs⟩
  | v :: ds, h, s, hs => by
    obtain ⟨s1, e1, k⟩ := h v List.mem_cons_self s hs
    rcases k with ⟨p, s2, e2, i2⟩ | ⟨p, e2⟩
    · rcases forB_dich ds (fun w hw => h w (List.mem_cons_of_mem _ hw)) s2 i2 with ⟨q, s', e3, i3⟩ | ⟨q, e3⟩
      · refine .inl ⟨fun w hw => ?_, s', forB_cons e1 e2 e3, i3⟩
        rcases List.mem_cons.mp hw with z | z
        · rw [z]; exact p
        · exact q w z
      · exact .inr ⟨fun z => q fun w hw => z w (List.mem_cons_of_mem _ hw), forB_cons e1 e2 e3⟩
    · exact .inr ⟨fun z => p (z v List.mem_cons_self), forB_ret e1 e2⟩
section
variable {D : Dt}
def AdjQ (M : List (TQ D)) : Prop := ∀ i (h : i + 1 < M.length), bef D.d (tV (M[i]'(by omega))) (tV M[i + 1]) = true
theorem adj_of {M : List (TQ D)} (h : M.Pairwise fun a b => bef D.d (tV a) (tV b) = true) : AdjQ M := fun i hi => List.pairwise_iff_getElem.mp h i (i + 1) (by omega) hi (by omega)
theorem nfQ (t : TQ D) : NfT (tV t) := ⟨t.x.nf, t.y.nf⟩
theorem adj_pw {M : List (TQ D)} (h : AdjQ M) : M.Pairwise fun a b => bef D.d (tV a) (tV b) = true := by
  rw [List.pairwise_iff_getElem]
  have key : ∀ n i, (hn : i + n + 1 < M.length) → bef D.d (tV (M[i]'(by omega))) (tV (M[i + n + 1]'hn)) = true := by
    intro n
    induction n with
    | zero => intro i hn; exact h i hn
    | succ n ih =>
      intro i hn
      have a := ih i (by omega)
      have b := h (i + n + 1) (by omega)
      exact bef_tr D.ns (nfQ _) (nfQ _) (nfQ _) a b
  intro i j hi hj hij
  have := key (j - i - 1) i (by omega)
  have e : i + (j - i - 1) + 1 = j := by omega
  simpa [e] using this
theorem sg1_pos {x : QL D} : sgL D.d x.v = 1 ↔ 0 < x := by
  rw [QL.pos_iff]
  rcases sgL_tri D.d x.v with k | k | k <;> omega
end
/-! the law's judge of cuttings on any tiles -/
section
variable {D : Dt}
structure G9 (t : TQ D) : Prop where
  x : Gd 900 t.x.v
  y : Gd 900 t.y.v
  w : Gd 900 t.w.v
  h : Gd 900 t.h.v
theorem e_endsX {t : TQ D} (g : G9 t) : s__law_ends [encT (tV t)] = some (.tuple [encL (t.x + t.w).v, encL (t.y + t.h).v]) := by
  have a1 := e_law_add g.x g.w (by decide)
  have a2 := e_law_add g.y g.h (by decide)
  rw [show addL t.x.v t.w.v = (t.x + t.w).v from rfl] at a1
  rw [show addL t.y.v t.h.v = (t.y + t.h).v from rfl] at a2
  have i0 : ixD (encT (tV t)) (.int 0) = some (encL t.x.v) := rfl
  have i1 : ixD (encT (tV t)) (.int 1) = some (encL t.y.v) := rfl
  have i2 : ixD (encT (tV t)) (.int 2) = some (encL t.w.v) := rfl
  have i3 : ixD (encT (tV t)) (.int 3) = some (encL t.h.v) := rfl
  simp [-ixD, s__law_ends, b__law_ends, i0, i1, i2, i3, a1, a2, sizeLine_eq]
theorem less_q {a b : QL D} : decide (sgL D.d (subL b.v a.v) = 1) = true ↔ a < b := by
  rw [decide_eq_true_eq]; exact sg_eq1
theorem e_lessX (sd : Sz 6 D.d) {n m : Nat} {a b : QL D} (ga : Gd n a.v) (gb : Gd m b.v) (e : n + m < 2900) : ∃ B : Bool, s__law_less [.int D.d, encL a.v, encL b.v] = some (.bool B) ∧ (B = true ↔ a < b) := ⟨_, e_law_less D.ns sd ga gb e, less_q⟩
end
section
variable {D : Dt}
end
/-! both judges of cuttings say the same -/
section
variable {D : Dt}
structure GN (M : List (TQ D)) : Prop where
  gt : ∀ t ∈ M, (Gd 880 t.x.v ∧ Gd 880 t.y.v) ∧ Gd 80 t.w.v ∧ Gd 80 t.h.v
  len : M.length ≤ 40
theorem fold_gd (sd : Sz 6 D.d) {n : Nat} : ∀ (L : List (TQ D)), (∀ t ∈ L, Gd n t.w.v ∧ Gd n t.h.v) → Gd ((n + n + 8) * L.length + 1) (arQ L).v
  | [], _ => gd_whl (n := 1) (p := 0) (by unfold Sz; decide) (by decide)
  | t :: L, h => by
    obtain ⟨g1, g2⟩ := h t List.mem_cons_self
    have ih := fold_gd sd L fun x hx => h x (List.mem_cons_of_mem _ hx)
    have k := gd_add (gd_mul sd g1 g2) ih
    have e : (arQ (t :: L)).v = addL (mulL D.d t.w.v t.h.v) (arQ L).v := rfl
    rw [e]
    refine k.mono ?_
    rw [List.length_cons, Nat.mul_add]
    omega
end
def nfB (n : Nat) (a : Ln) : Bool := decide (0 < a.s) && decide (g3 a.p a.q a.s = 1) && decide (a.p.natAbs < 2 ^ n) && decide (a.q.natAbs < 2 ^ n) && decide (a.s.natAbs < 2 ^ n)
theorem nfB_gd {n : Nat} {a : Ln} (h : nfB n a = true) : Gd n a := by
  simp only [nfB, Bool.and_eq_true, decide_eq_true_eq] at h
  obtain ⟨⟨⟨⟨h1, h2⟩, h3⟩, h4⟩, h5⟩ := h
  exact ⟨⟨h1, h2⟩, h3, h4, h5⟩
theorem pl_shaped {n : Nat} {d : D} (h : Pl n d) (hn : n ≤ 30) : SeqAt.shaped d = true := by
  obtain ⟨a1, a2, _⟩ := pl_good n d h
  cases h <;> simp [SeqAt.shaped, a1] <;> first | omega | (simp at a2; omega) | skip
theorem inD_encLs (b : Ln) (L : List Ln) (hL : L.length ≤ 1000) : inD (encL b) (.list (L.map encL)) = some (decide (b ∈ L)) := by
  show (if SeqAt.shaped (encL b) && SeqAt.shaped (.list (L.map encL)) then some ((L.map encL).any fun z => PyData.eqv z (encL b)) else none) = _
  rw [pl_shaped (pl_encL 1 b) (by decide), pl_shaped (pl_list (n := 2) (xs := L) (by omega) fun x _ => pl_encL 1 x) (by decide)]
  show some _ = some _
  congr 1
  rw [Bool.eq_iff_iff, List.any_eq_true, decide_eq_true_eq]
  constructor
  · rintro ⟨z, hz, e⟩
    obtain ⟨x, hx, rfl⟩ := List.mem_map.mp hz
    rw [eqv_encL, decide_eq_true_eq] at e
    rw [← e]; exact hx
  · intro h
    exact ⟨encL b, List.mem_map.mpr ⟨b, h, rfl⟩, by rw [eqv_encL]; simp⟩
section
variable {D : Dt}
theorem sgv1 {x y : QL D} : sgL D.d (subL x.v y.v) = 1 ↔ y < x := by
  rw [QL.lt_sub, QL.pos_iff]
  show _ ↔ 0 < sgL D.d (subL x.v y.v)
  unfold sgL
  rw [sgI_one, sgI_gt]
theorem sgvm {x y : QL D} : sgL D.d (subL x.v y.v) = -1 ↔ x < y := by
  have : sgL D.d (x - y).v = -1 ↔ ¬ 0 ≤ x - y := sg_m1
  rw [show subL x.v y.v = (x - y).v from rfl, this]
  constructor <;> intro h <;> grind
def ltB (a b : QL D) : Bool := decide (sgL D.d (subL b.v a.v) = 1)
theorem ltB_iff {a b : QL D} : ltB a b = true ↔ a < b := by
  unfold ltB
  rw [decide_eq_true_eq]
  exact sgv1
theorem ltB_no {a b : QL D} : ltB a b = false ↔ ¬ a < b := by
  rw [← ltB_iff]
  cases ltB a b <;> simp
theorem ltB_m (a b : QL D) : decide (sgL D.d (subL a.v b.v) = -1) = ltB a b := by
  rw [Bool.eq_iff_iff, decide_eq_true_eq, ltB_iff]
  exact sgvm
theorem mem_v {x : QL D} {F : List (QL D)} : x.v ∈ F.map QL.v ↔ x ∈ F := by
  rw [List.mem_map]
  exact ⟨fun ⟨y, h, e⟩ => QL.ext' e ▸ h, fun h => ⟨x, h, rfl⟩⟩
def SrtU (F : List (QL D)) : Prop := F.Pairwise fun a b => a < b
theorem lt_trq {a b c : QL D} (h : a < b) (k : b < c) : a < c := by grind
theorem lt_nlt {a b : QL D} (h : ¬ b < a) (k : b ≠ a) : a < b := by grind
theorem lt_irq {a : QL D} (h : a < a) : False := by grind
theorem srt_split (x : QL D) : ∀ {F : List (QL D)}, SrtU F → ∃ A B, F = A ++ B ∧ (∀ a ∈ A, a < x) ∧ ∀ b ∈ B, ¬ b < x
  | [], _ => ⟨[], [], rfl, fun _ h => absurd h (by simp), fun _ h => absurd h (by simp)⟩
  | f :: r, h => by
    have h' := List.pairwise_cons.mp h
    by_cases c : f < x
    · obtain ⟨A, B, e, a, b⟩ := srt_split x h'.2
      exact ⟨f :: A, B, by rw [e]; rfl, fun y hy => by
        rcases List.mem_cons.mp hy with rfl | hy
        · exact c
        · exact a y hy, b⟩
    · exact ⟨[], f :: r, rfl, fun _ h => absurd h (by simp), fun y hy z => by
        rcases List.mem_cons.mp hy with rfl | hy
        · exact c z
        · exact c (lt_trq (h'.1 y hy) z)⟩
theorem filt_split {x : QL D} {A B : List (QL D)} (a : ∀ y ∈ A, y < x) (b : ∀ y ∈ B, ¬ y < x) : (A ++ B).filter (fun y => ltB y x) = A := by
  rw [List.filter_append, List.filter_eq_self.mpr fun y hy => ltB_iff.mpr (a y hy), List.filter_eq_nil_iff.mpr fun y hy => by rw [ltB_iff]; exact b y hy, List.append_nil]
def insU (F : List (QL D)) (x : QL D) : List (QL D) := if x.v ∈ F.map QL.v then F else F.filter (fun y => ltB y x) ++ [x] ++ F.drop (F.filter fun y => ltB y x).length
theorem insU_eq {F A B : List (QL D)} {x : QL D} (e : F = A ++ B) (a : ∀ y ∈ A, y < x) (b : ∀ y ∈ B, ¬ y < x) : insU F x = if x.v ∈ F.map QL.v then F else A ++ [x] ++ B := by
  unfold insU
  have f : F.filter (fun y => ltB y x) = A := by rw [e]; exact filt_split a b
  rw [f]
  by_cases c : x.v ∈ F.map QL.v
  · rw [if_pos c, if_pos c]
  · rw [if_neg c, if_neg c, e]
    simp
theorem insU_srt {F : List (QL D)} (s : SrtU F) (x : QL D) : SrtU (insU F x) ∧ ∀ y, y ∈ insU F x ↔ y ∈ F ∨ y = x := by
  obtain ⟨A, B, e, a, b⟩ := srt_split x s
  rw [insU_eq e a b]
  by_cases c : x ∈ F
  · rw [if_pos (mem_v.mpr c)]
    exact ⟨s, fun y => ⟨.inl, fun h => h.elim id fun z => z ▸ c⟩⟩
  · rw [if_neg fun z => c (mem_v.mp z)]
    subst e
    have s' := List.pairwise_append.mp s
    refine ⟨?_, fun y => by
      simp only [List.mem_append, List.mem_singleton]
      constructor
      · rintro ((h | h) | h)
        · exact .inl (.inl h)
        · exact .inr h
        · exact .inl (.inr h)
      · rintro ((h | h) | h)
        · exact .inl (.inl h)
        · exact .inr h
        · exact .inl (.inr h)⟩
    refine List.pairwise_append.mpr ⟨List.pairwise_append.mpr ⟨s'.1, List.pairwise_singleton _ _, fun p hp q hq => by rw [List.mem_singleton.mp hq]; exact a p hp⟩, s'.2.1, fun p hp q hq => ?_⟩
    rcases List.mem_append.mp hp with hp | hp
    · exact s'.2.2 p hp q hq
    · rw [List.mem_singleton.mp hp]
      exact lt_nlt (b q hq) fun z => c (List.mem_append_right _ (z ▸ hq))
def ascU (xs : List (QL D)) : List (QL D) := xs.foldl insU []
theorem foldU : ∀ (xs F : List (QL D)), SrtU F → SrtU (xs.foldl insU F) ∧ ∀ y, y ∈ xs.foldl insU F ↔ y ∈ F ∨ y ∈ xs
  | [], F, s => ⟨s, fun y => by simp⟩
  | x :: xs, F, s => by
    obtain ⟨s1, m1⟩ := insU_srt s x
    obtain ⟨s2, m2⟩ := foldU xs (insU F x) s1
    exact ⟨s2, fun y => by
      show y ∈ xs.foldl insU (insU F x) ↔ _
      rw [m2, m1, List.mem_cons, or_assoc]⟩
theorem asc_srt (xs : List (QL D)) : SrtU (ascU xs) := (foldU xs [] .nil).1
theorem asc_mem {xs : List (QL D)} {y : QL D} : y ∈ ascU xs ↔ y ∈ xs := by
  have := (foldU xs [] .nil).2 y
  simpa [ascU] using this
theorem asc_len (xs : List (QL D)) : (ascU xs).length ≤ xs.length := by
  have key : ∀ (xs F : List (QL D)), SrtU F → (xs.foldl insU F).length ≤ F.length + xs.length := by
    intro xs
    induction xs with
    | nil => intro F _; simp
    | cons x xs ih =>
      intro F s
      have h := ih (insU F x) (insU_srt s x).1
      obtain ⟨A, B, e, a, b⟩ := srt_split x s
      have : (insU F x).length ≤ F.length + 1 := by
        rw [insU_eq e a b]
        split
        · omega
        · rw [e]; simp; omega
      simp only [List.foldl_cons, List.length_cons]
      omega
  simpa [ascU] using key xs [] .nil
theorem srt_nodup {F : List (QL D)} (s : SrtU F) : F.Nodup := List.Pairwise.imp (S := fun a b => a ≠ b) (fun {a b} h z => lt_irq (a := b) (by rw [z] at h; exact h)) s
theorem srt_uniq {F G : List (QL D)} (s : SrtU F) (t : SrtU G) (h : ∀ y, y ∈ F ↔ y ∈ G) : F = G :=
  List.Perm.eq_of_pairwise (fun a b _ _ h k => (lt_irq (lt_trq h k)).elim) s t ((List.perm_ext_iff_of_nodup (srt_nodup s) (srt_nodup t)).mpr h)
theorem asc_perm {xs ys : List (QL D)} (h : ∀ y, y ∈ xs ↔ y ∈ ys) : ascU xs = ascU ys := srt_uniq (asc_srt _) (asc_srt _) fun y => by rw [asc_mem, asc_mem, h]
/-! the lines that no tile crosses -/
def noC (s e : TQ D → QL D) (M : List (TQ D)) (at_ : QL D) : Bool := M.all fun t => !(ltB (s t) at_ && ltB at_ (e t))
def lnQ (s e : TQ D → QL D) (M : List (TQ D)) : List (QL D) := ((ascU (M.map s)).drop 1).filter (noC s e M)
theorem noC_perm {s e : TQ D → QL D} {M N : List (TQ D)} (p : N.Perm M) (a : QL D) : noC s e N a = noC s e M a := by
  unfold noC
  rw [Bool.eq_iff_iff, List.all_eq_true, List.all_eq_true]
  exact ⟨fun h t ht => h t (p.mem_iff.mpr ht), fun h t ht => h t (p.mem_iff.mp ht)⟩
theorem ln_perm {s e : TQ D → QL D} {M N : List (TQ D)} (p : N.Perm M) : lnQ s e N = lnQ s e M := by
  unfold lnQ
  rw [asc_perm (xs := N.map s) (ys := M.map s) fun y => (p.map s).mem_iff]
  congr 1
  exact funext fun a => noC_perm p a
theorem ln_map {s e s' e' : TQ D → QL D} {f : TQ D → TQ D} (h1 : ∀ t, s (f t) = s' t) (h2 : ∀ t, e (f t) = e' t) (M : List (TQ D)) : lnQ s e (M.map f) = lnQ s' e' M := by
  unfold lnQ
  rw [List.map_map, show s ∘ f = s' from funext h1]
  congr 1
  exact funext fun a => by
    unfold noC
    rw [List.all_map]
    congr 1
    exact funext fun t => by
      show (!(ltB (s (f t)) a && ltB a (e (f t)))) = _
      rw [h1, h2]
theorem ln_len {s e : TQ D → QL D} {M : List (TQ D)} (h : 1 ≤ M.length) : (lnQ s e M).length < M.length := by
  have a := asc_len (M.map s)
  rw [List.length_map] at a
  have b := List.length_filter_le (noC s e M) ((ascU (M.map s)).drop 1)
  rw [List.length_drop] at b
  unfold lnQ
  omega
/- the least start left out -/
theorem ln_least {s e : TQ D → QL D} {M : List (TQ D)} {l : QL D} (hm : l ∈ M.map s) (hl : ∀ t ∈ M, ¬ s t < l) : (ascU (M.map s)).filter (fun a => !decide (a.v = l.v) && noC s e M a) = lnQ s e M := by
  unfold lnQ
  have sr := asc_srt (M.map s)
  have hm' := asc_mem.mpr hm
  have hl' : ∀ y ∈ ascU (M.map s), ¬ y < l := fun y hy => by
    obtain ⟨t, ht, rfl⟩ := List.mem_map.mp (asc_mem.mp hy)
    exact hl t ht
  cases hA : ascU (M.map s) with
  | nil => rw [hA] at hm'; cases hm'
  | cons h r =>
    rw [hA] at sr hm' hl'
    have sr' := List.pairwise_cons.mp sr
    have : h = l := by
      rcases List.mem_cons.mp hm' with z | z
      · exact z.symm
      · exact absurd (sr'.1 l z) (hl' h List.mem_cons_self)
    subst this
    rw [List.filter_cons]
    simp only [decide_true, Bool.not_true, Bool.false_and, Bool.false_eq_true, if_false, List.drop_succ_cons, List.drop_zero]
    refine List.filter_congr fun a ha => ?_
    have : a.v ≠ h.v := fun z => by
      have := QL.ext' z
      subst this
      exact lt_irq (sr'.1 _ ha)
    simp [this]
end
section
variable {D : Dt}
def eX (x : QL D) : PL.D := encL x.v
theorem map_eX (F : List (QL D)) : F.map eX = (F.map QL.v).map encL := by rw [List.map_map]; rfl
theorem inD_eX (x : QL D) (F : List (QL D)) (h : F.length ≤ 1000) : inD (eX x) (.list (F.map eX)) = some (decide (x.v ∈ F.map QL.v)) := by
  rw [map_eX]
  exact inD_encLs x.v (F.map QL.v) (by simpa using h)
theorem insU_len {F : List (QL D)} (s : SrtU F) (x : QL D) : (insU F x).length ≤ F.length + 1 := by
  obtain ⟨A, B, e, a, b⟩ := srt_split x s
  rw [insU_eq e a b]
  split
  · omega
  · rw [e]; simp; omega
theorem asc_take {xs : List (QL D)} {i : Nat} {x : QL D} (h : xs[i]? = some x) : ascU (xs.take (i + 1)) = insU (ascU (xs.take i)) x := by
  unfold ascU
  rw [List.take_succ, h, List.foldl_append]; rfl
theorem e_law_sorted (sd : Sz 6 D.d) {n : Nat} (hn : n + n < 2900) {xs : List (QL D)} (g : ∀ x ∈ xs, Gd n x.v) (len : xs.length ≤ 500) : s__law_sorted [.int D.d, .list (xs.map eX)] = some (.list ((ascU xs).map eX)) := by
  obtain ⟨s1, f1, x3, x4, e1⟩ := forB_inv (Γ := [s__law_less]) (G := []) (tg := .name 3) (b := b__law_sorted_1) (ds := xs.map eX) (st := [.val (.int D.d), .val (.list (xs.map eX)), .val (.list []), .no, .no, .no])
    (fun i s => ∃ x3 x4, s = [.val (.int D.d), .val (.list (xs.map eX)), .val (.list ((ascU (xs.take i)).map eX)), x3, x4, .no]) ⟨_, _, rfl⟩ (by
      rintro i v s hv ⟨x3, x4, rfl⟩
      rw [List.getElem?_map] at hv
      obtain ⟨x, hx1, rfl⟩ := Option.map_eq_some_iff.mp hv
      obtain ⟨hi, hx2⟩ := List.getElem?_eq_some_iff.mp hx1
      have hmem : x ∈ xs := hx2 ▸ List.getElem_mem hi
      have lF : (ascU (xs.take i)).length ≤ 500 := by
        have := asc_len (xs.take i)
        rw [List.length_take] at this
        omega
      have gF : ∀ y ∈ ascU (xs.take i), Gd n y.v := fun y hy => g y (List.mem_of_mem_take (asc_mem.mp hy))
      rw [asc_take hx1]
      obtain ⟨F, hF⟩ : ∃ F, F = ascU (xs.take i) := ⟨_, rfl⟩
      rw [← hF] at lF gF ⊢
      have ib := inD_eX x F (by omega)
      by_cases c : x.v ∈ F.map QL.v
      · have eI : insU F x = F := by unfold insU; rw [if_pos c]
        rw [eI]
        refine ⟨_, [.val (.int D.d), .val (.list (xs.map eX)), .val (.list (F.map eX)), .val (eX x), x4, .no], rfl, exs_step (ex_else (by simp [-inD, ib, c]) rfl) rfl, _, _, rfl⟩
      · obtain ⟨less, hless⟩ : ∃ less, less = F.filter fun y => ltB y x := ⟨_, rfl⟩
        have hll : less.length ≤ F.length := by rw [hless]; exact List.length_filter_le _ _
        have eI : insU F x = less ++ [x] ++ F.drop less.length := by unfold insU; rw [if_neg c, ← hless]
        have hc : evF [s__law_less] [] (.comp (.var 5) (.name 5) (.seq (.var 2)) (.yes (.call 0 (.cons (.var 0) (.cons (.var 5) (.cons (.var 3) .nil))))) [5]) [.val (.int D.d), .val (.list (xs.map eX)), .val (.list (F.map eX)), .val (eX x), x4, .no] = some (less.map eX) := by
          refine comp_of (ds := F.map eX) rfl ?_
          rw [hless]
          refine compL_filter_map _ fun y hy => ?_
          have tb : s__law_less [.int D.d, eX y, eX x] = some (.bool (ltB y x)) := e_law_less D.ns sd (gF y hy) (g x hmem) hn
          cases cb : ltB y x <;> rw [cb] at tb <;> simp [tb]
        have h1 : o2D .add (.list (less.map eX)) (.list [eX x]) = some (.list (less.map eX ++ [eX x])) := add_list (by simp; omega)
        have h2 : o2D .add (.list (less.map eX ++ [eX x])) (.list ((F.drop less.length).map eX)) = some (.list ((insU F x).map eX)) := by
          rw [add_list (by simp; omega), eI]
          simp only [List.map_append, List.map_cons, List.map_nil]
        refine ⟨_, [.val (.int D.d), .val (.list (xs.map eX)), .val (.list ((insU F x).map eX)), .val (eX x), .val (.list (less.map eX)), .no], rfl, exs_step (ex_then (by simp [-inD, ib, c]) ?_) rfl, _, _, rfl⟩
        refine exs_step (ex_setF hc) (exs_frz (exs_step (ex_set (ev_o2 (ev_o2 rfl (y := .list [eX x]) (by simp [sizeLine_eq]) h1) (y := .list ((F.drop less.length).map eX)) ?_ h2)) rfl))
        rw [← cut_from eX F less.length hll]
        simp)
  subst e1
  rw [List.length_map, List.take_length] at f1
  refine run_ret rfl (exs_step (ex_set (d := .list []) (by simp)) (exs_step (ex_for rfl rfl f1) (exs_ret (ex_return rfl))))
theorem e_ascending (sd : Sz 6 D.d) {n : Nat} (hn : n + n < 2900) {xs : List (QL D)} (g : ∀ x ∈ xs, Gd n x.v) (len : xs.length ≤ 500) : s_ascending [.int D.d, .list (xs.map eX)] = some (.list ((ascU xs).map eX)) := by
  obtain ⟨s1, f1, x3, x4, e1⟩ := forB_inv (Γ := [s_compare]) (G := []) (tg := .name 3) (b := b_ascending_1) (ds := xs.map eX) (st := [.val (.int D.d), .val (.list (xs.map eX)), .own [], .no, .no, .no])
    (fun i s => ∃ x3 x4, s = [.val (.int D.d), .val (.list (xs.map eX)), .own ((ascU (xs.take i)).map eX), x3, x4, .no]) ⟨_, _, rfl⟩ (by
      rintro i v s hv ⟨x3, x4, rfl⟩
      rw [List.getElem?_map] at hv
      obtain ⟨x, hx1, rfl⟩ := Option.map_eq_some_iff.mp hv
      obtain ⟨hi, hx2⟩ := List.getElem?_eq_some_iff.mp hx1
      have hmem : x ∈ xs := hx2 ▸ List.getElem_mem hi
      have lF : (ascU (xs.take i)).length ≤ 500 := by
        have := asc_len (xs.take i)
        rw [List.length_take] at this
        omega
      have gF : ∀ y ∈ ascU (xs.take i), Gd n y.v := fun y hy => g y (List.mem_of_mem_take (asc_mem.mp hy))
      rw [asc_take hx1]
      have sF := asc_srt (xs.take i)
      obtain ⟨F, hF⟩ : ∃ F, F = ascU (xs.take i) := ⟨_, rfl⟩
      rw [← hF] at lF gF sF ⊢
      have ib := inD_eX x F (by omega)
      obtain ⟨A, B, eF, a, b⟩ := srt_split x sF
      have hless : F.filter (fun y => ltB y x) = A := by rw [eF]; exact filt_split a b
      have hc : evF [s_compare] [] (.comp (.var 5) (.name 5) (.slot 2) (.yes (.o2 .eq (.call 0 (.cons (.var 0) (.cons (.var 5) (.cons (.var 3) .nil)))) (.o1 .neg (.lit (.int 1))))) [5]) [.val (.int D.d), .val (.list (xs.map eX)), .own (F.map eX), .val (eX x), x4, .no] = some (A.map eX) := by
        refine comp_of (ds := F.map eX) rfl ?_
        rw [← hless]
        refine compL_filter_map _ fun y hy => ?_
        have tb : s_compare [.int D.d, eX y, eX x] = some (.int (sgL D.d (subL y.v x.v))) := e_compare D.ns sd (gF y hy) (g x hmem) hn
        have lb := ltB_m y x
        cases cb : ltB y x <;> rw [cb] at lb <;> simp at lb <;> simp [tb, lb]
      by_cases c : x.v ∈ F.map QL.v
      · have eI : insU F x = F := by unfold insU; rw [if_pos c]
        rw [eI]
        refine ⟨_, [.val (.int D.d), .val (.list (xs.map eX)), .own (F.map eX), .val (eX x), .val (.list (A.map eX)), .no], rfl, exs_step (ex_setF hc) (exs_frz (exs_step (ex_else (by simp [-inD, ib, c]) rfl) rfl)), _, _, rfl⟩
      · have eI : insU F x = A ++ [x] ++ B := by rw [insU_eq eF a b, if_neg c]
        refine ⟨_, [.val (.int D.d), .val (.list (xs.map eX)), .own ((insU F x).map eX), .val (eX x), .val (.list (A.map eX)), .no], rfl, exs_step (ex_setF hc) (exs_frz (exs_step (ex_then (by simp [-inD, ib, c]) (exs_step ?_ rfl)) rfl)), _, _, rfl⟩
        have lA : A.length ≤ 500 := by rw [eF, List.length_append] at lF; omega
        have lB : A.length + B.length ≤ 500 := by rw [eF, List.length_append] at lF; omega
        rw [eI, eF]
        have q1 : (A.length : Int).natAbs < 4611686018427387904 := by omega
        have q2 : A.length + B.length < 16777216 := by omega
        have q3 : A.length < 4611686018427387904 := by omega
        simp [sizeLine_eq, q3, q2])
  subst e1
  rw [List.length_map, List.take_length] at f1
  refine run_ret rfl (exs_step (ex_setF (ds := []) (by simp)) (exs_step (ex_for rfl rfl f1) (exs_frz (exs_ret (ex_return rfl)))))
end
section
variable {D : Dt}
/- one of the two ways that lines lie -/
structure Way (D : Dt) where
  k : Nat
  c : PL.D
  s : TQ D → QL D
  e : TQ D → QL D
def wayX (D : Dt) : Way D := ⟨0, .str "x", fun t => t.x, fun t => t.x + t.w⟩
def wayY (D : Dt) : Way D := ⟨1, .str "y", fun t => t.y, fun t => t.y + t.h⟩
structure WayOk (w : Way D) : Prop where
  side : s_side_at [w.c] = some (.int (w.k : Int))
  at_s : ∀ t : TQ D, ixD (encT (tV t)) (.int (w.k : Int)) = some (eX (w.s t))
  at_l : ∀ t : TQ D, ∃ l : QL D, ixD (encT (tV t)) (.int ((w.k : Int) + 2)) = some (eX l) ∧ w.e t = w.s t + l ∧ ∀ n, GT n t → Gd n l.v
  gs : ∀ n (t : TQ D), GT n t → Gd n (w.s t).v
  at_e : ∀ t : TQ D, ixD (.tuple [eX (t.x + t.w), eX (t.y + t.h)]) (.int (w.k : Int)) = some (eX (w.e t))
theorem sk_x : PyData.strOk (Str.ofString "x") = true := by decide +kernel
theorem sk_y : PyData.strOk (Str.ofString "y") = true := by decide +kernel
theorem ne_xy : PyData.eqv (.str (Str.ofString "x")) (.str (Str.ofString "y")) = false := by decide +kernel
theorem sideX : s_side_at [.str "x"] = some (.int ((0 : Nat) : Int)) := by simp [s_side_at, b_side_at, eqOk_str sk_x sk_y, ne_xy]
theorem sideY : s_side_at [.str "y"] = some (.int ((1 : Nat) : Int)) := by simp [s_side_at, b_side_at, eqOk_str sk_y sk_y]
theorem okX : WayOk (wayX D) := ⟨sideX, fun t => rfl, fun t => ⟨t.w, rfl, rfl, fun n g => g.w⟩, fun n t g => g.x, fun t => rfl⟩
theorem okY : WayOk (wayY D) := ⟨sideY, fun t => rfl, fun t => ⟨t.h, rfl, rfl, fun n g => g.h⟩, fun n t g => g.y, fun t => rfl⟩
theorem gt_end {w : Way D} (o : WayOk w) {n : Nat} {t : TQ D} (g : GT n t) : Gd (n + n + 1) (w.e t).v := by
  obtain ⟨l, -, e, h⟩ := o.at_l t
  rw [e]
  exact gd_add (o.gs n t g) (h n g)
theorem e_start_of {w : Way D} (o : WayOk w) (t : TQ D) : s_start_of [w.c, encT (tV t)] = some (eX (w.s t)) := by
  have i := o.at_s t
  have s := o.side
  generalize encT (tV t) = Q at i ⊢
  simp [-ixD, s_start_of, b_start_of, s, i]
theorem e_end_of {w : Way D} (o : WayOk w) {n : Nat} (hn : n + n < 7900) {t : TQ D} (g : GT n t) : s_end_of [w.c, encT (tV t)] = some (eX (w.e t)) := by
  have i := o.at_s t
  have s := o.side
  obtain ⟨l, il, e, h⟩ := o.at_l t
  have p : s_plus [eX (w.s t), eX l] = some (eX (w.e t)) := by
    rw [e]
    exact e_plus (o.gs n t g) (h n g) (by omega)
  generalize encT (tV t) = Q at i il ⊢
  simp [-ixD, s_end_of, b_end_of, s, i, il, p]
theorem e_crosses (sd : Sz 6 D.d) {w : Way D} (o : WayOk w) {n m : Nat} (hn : n + n + 1 + m < 2900) {t : TQ D} (g : GT n t) {a : QL D} (ga : Gd m a.v) : s_crosses [.int D.d, w.c, eX a, encT (tV t)] = some (.bool (ltB (w.s t) a && ltB a (w.e t))) := by
  have s1 := e_start_of o t
  have s2 := e_end_of o (by omega) g
  have c1 : s_compare [.int D.d, eX (w.s t), eX a] = some (.int (sgL D.d (subL (w.s t).v a.v))) := e_compare D.ns sd (o.gs n t g) ga (by omega)
  have c2 : s_compare [.int D.d, eX a, eX (w.e t)] = some (.int (sgL D.d (subL a.v (w.e t).v))) := e_compare D.ns sd ga (gt_end o g) (by omega)
  have b1 := ltB_m (w.s t) a
  have b2 := ltB_m a (w.e t)
  generalize encT (tV t) = Q at s1 s2 ⊢
  cases x1 : ltB (w.s t) a <;> cases x2 : ltB a (w.e t) <;> rw [x1] at b1 <;> rw [x2] at b2 <;> simp at b1 b2 <;> simp [s_crosses, b_crosses, s1, s2, c1, c2, b1, b2]
theorem e_is_line (sd : Sz 6 D.d) {w : Way D} (o : WayOk w) {n m : Nat} (hn : n + n + 1 + m < 2900) {M : List (TQ D)} (g : ∀ t ∈ M, GT n t) {a : QL D} (ga : Gd m a.v) : s_is_line [.int D.d, w.c, eX a, encQ M] = some (.bool (noC w.s w.e M a)) := by
  let S : Sl → Sto := fun x => [.val (.int D.d), .val w.c, .val (eX a), .val (encQ M), x]
  have key : ∀ (L : List (TQ D)), (∀ t ∈ L, GT n t) → ∀ x, (noC w.s w.e L a = true ∧ ∃ x', forB [s_crosses] [] (.name 4) b_is_line_1 (L.map fun t => encT (tV t)) (S x) = some (.next (S x'))) ∨ (noC w.s w.e L a = false ∧ forB [s_crosses] [] (.name 4) b_is_line_1 (L.map fun t => encT (tV t)) (S x) = some (.ret (.bool false))) := by
    intro L
    induction L with
    | nil => intro _ x; exact .inl ⟨rfl, x, rfl⟩
    | cons t L ih =>
      intro h x
      have c := e_crosses sd o hn (h t List.mem_cons_self) ga
      have hc : noC w.s w.e (t :: L) a = (!(ltB (w.s t) a && ltB a (w.e t)) && noC w.s w.e L a) := rfl
      rw [hc]
      cases b : (ltB (w.s t) a && ltB a (w.e t)) with
      | true =>
        rw [b] at c
        refine .inr ⟨rfl, forB_ret (s1 := S (.val (encT (tV t)))) rfl ?_⟩
        generalize encT (tV t) = Q at c ⊢
        exact exs_ret (ex_then (by simp [S, c]) (exs_ret (ex_return rfl)))
      | false =>
        rw [b] at c
        have st : exs [s_crosses] [] b_is_line_1 (S (.val (encT (tV t)))) = some (.next (S (.val (encT (tV t))))) := by
          generalize encT (tV t) = Q at c ⊢
          exact exs_step (ex_else (by simp [S, c]) rfl) rfl
        rcases ih (fun u hu => h u (List.mem_cons_of_mem _ hu)) (.val (encT (tV t))) with ⟨e1, x', e2⟩ | ⟨e1, e2⟩
        · exact .inl ⟨by rw [e1]; rfl, x', forB_cons (s1 := S (.val (encT (tV t)))) rfl st e2⟩
        · exact .inr ⟨by rw [e1]; rfl, forB_cons (s1 := S (.val (encT (tV t)))) rfl st e2⟩
  have eM : seqL (encQ M) = some (M.map fun t => encT (tV t)) := by rw [encQ_eq]; rfl
  rcases key M g .no with ⟨e1, x', e2⟩ | ⟨e1, e2⟩
  · rw [e1]
    exact run_ret rfl (exs_step (ex_for (by simp [-seqL, eM]) rfl e2) (exs_ret (ex_return rfl)))
  · rw [e1]
    exact run_ret rfl (exs_ret (ex_for (by simp [-seqL, eM]) rfl e2))
theorem e_least_start (sd : Sz 6 D.d) {w : Way D} (o : WayOk w) {n : Nat} (hn : n + n < 2900) {M : List (TQ D)} (g : ∀ t ∈ M, GT n t) (hne : M ≠ []) : ∃ l : QL D, l ∈ M.map w.s ∧ (∀ t ∈ M, ¬ w.s t < l) ∧ s_least_start [.int D.d, w.c, encQ M] = some (eX l) := by
  obtain ⟨t0, M', rfl⟩ : ∃ t0 M', M = t0 :: M' := by
    cases M with
    | nil => exact absurd rfl hne
    | cons a b => exact ⟨a, b, rfl⟩
  obtain ⟨N, hN⟩ : ∃ N, N = t0 :: M' := ⟨_, rfl⟩
  rw [← hN] at g ⊢
  have m0 : t0 ∈ N := by rw [hN]; exact List.mem_cons_self
  obtain ⟨s1, f1, ⟨l, x4, hm, hl, e1⟩⟩ := forB_inv (Γ := [s_start_of, s_compare]) (G := []) (tg := .name 4) (b := b_least_start_1) (ds := N.map fun t => encT (tV t)) (st := [.val (.int D.d), .val w.c, .val (encQ N), .val (eX (w.s t0)), .no])
    (fun i s => ∃ l x4, l ∈ N.map w.s ∧ (∀ t ∈ N.take i, ¬ w.s t < l) ∧ s = [.val (.int D.d), .val w.c, .val (encQ N), .val (eX l), x4]) ⟨w.s t0, .no, List.mem_map_of_mem m0, fun t ht => absurd ht (by simp), rfl⟩ (by
      rintro i v s hv ⟨l, x4, hm, hl, rfl⟩
      rw [List.getElem?_map] at hv
      obtain ⟨t, ht1, rfl⟩ := Option.map_eq_some_iff.mp hv
      obtain ⟨hi, ht2⟩ := List.getElem?_eq_some_iff.mp ht1
      have hmem : t ∈ N := ht2 ▸ List.getElem_mem hi
      have gl : Gd n l.v := by
        obtain ⟨u, hu, rfl⟩ := List.mem_map.mp hm
        exact o.gs n u (g u hu)
      have s1 := e_start_of o t
      have c1 : s_compare [.int D.d, eX (w.s t), eX l] = some (.int (sgL D.d (subL (w.s t).v l.v))) := e_compare D.ns sd (o.gs n t (g t hmem)) gl hn
      have tk : N.take (i + 1) = N.take i ++ [t] := by rw [List.take_succ, ht1]; rfl
      by_cases c : w.s t < l
      · have z : sgL D.d (subL (w.s t).v l.v) = -1 := sgvm.mpr c
        refine ⟨_, [.val (.int D.d), .val w.c, .val (encQ N), .val (eX (w.s t)), .val (encT (tV t))], rfl, ?_, w.s t, _, List.mem_map_of_mem hmem, fun u hu => ?_, rfl⟩
        · generalize encT (tV t) = Q at s1 ⊢
          exact exs_step (ex_then (by simp [s1, c1, z]) (exs_step (ex_set (d := eX (w.s t)) (by simp [s1])) rfl)) rfl
        · rw [tk] at hu
          rcases List.mem_append.mp hu with hu | hu
          · exact fun y => hl u hu (lt_trq y c)
          · rw [List.mem_singleton.mp hu]; exact fun y => lt_irq y
      · have z : sgL D.d (subL (w.s t).v l.v) ≠ -1 := fun y => c (sgvm.mp y)
        refine ⟨_, [.val (.int D.d), .val w.c, .val (encQ N), .val (eX l), .val (encT (tV t))], rfl, ?_, l, _, hm, fun u hu => ?_, rfl⟩
        · generalize encT (tV t) = Q at s1 ⊢
          exact exs_step (ex_else (by simp [s1, c1, z]) rfl) rfl
        · rw [tk] at hu
          rcases List.mem_append.mp hu with hu | hu
          · exact hl u hu
          · rw [List.mem_singleton.mp hu]; exact c)
  subst e1
  rw [List.length_map, List.take_length] at hl
  refine ⟨l, hm, hl, ?_⟩
  have eM : seqL (encQ N) = some (N.map fun t => encT (tV t)) := by rw [encQ_eq]; rfl
  have i0 : ixD (encQ N) (.int 0) = some (encT (tV t0)) := by
    rw [hN, encQ_eq]
    show atI _ _ = _
    simp
  have s0 := e_start_of o t0
  refine run_ret rfl (exs_step (ex_set (d := eX (w.s t0)) ?_) (exs_step (ex_for (by simp [-seqL, eM]) rfl f1) (exs_ret (ex_return rfl))))
  generalize encT (tV t0) = Q at i0 s0
  simp [-ixD, i0, s0]
theorem e_lines_through (sd : Sz 6 D.d) {w : Way D} (o : WayOk w) {n : Nat} (hn : n + n + 1 + n < 2900) {M : List (TQ D)} (g : ∀ t ∈ M, GT n t) (hne : M ≠ []) (len : M.length ≤ 500) : s_lines_through [.int D.d, w.c, encQ M] = some (.list ((lnQ w.s w.e M).map eX)) := by
  obtain ⟨l, hm, hl, e1⟩ := e_least_start sd o (by omega) g hne
  have eM : seqL (encQ M) = some (M.map fun t => encT (tV t)) := by rw [encQ_eq]; rfl
  have gl : Gd n l.v := by
    obtain ⟨u, hu, rfl⟩ := List.mem_map.mp hm
    exact o.gs n u (g u hu)
  have gs : ∀ x ∈ M.map w.s, Gd n x.v := fun x hx => by
    obtain ⟨u, hu, rfl⟩ := List.mem_map.mp hx
    exact o.gs n u (g u hu)
  have ga : ∀ x ∈ ascU (M.map w.s), Gd n x.v := fun x hx => gs x (asc_mem.mp hx)
  have e2 : s_ascending [.int D.d, .list ((M.map w.s).map eX)] = some (.list ((ascU (M.map w.s)).map eX)) := e_ascending sd (by omega) gs (by simpa using len)
  have c1 : evF [s_least_start, s_ascending, s_start_of, s_is_line] [] (.comp (.call 2 (.cons (.var 1) (.cons (.var 6) .nil))) (.name 6) (.seq (.var 2)) .no [6]) [.val (.int D.d), .val w.c, .val (encQ M), .val (eX l), .no, .no, .no] = some ((M.map w.s).map eX) := by
    refine comp_of (ds := M.map fun t => encT (tV t)) (by simp [-seqL, eM]) ?_
    refine compL_map_map w.s fun t ht => ?_
    have st := e_start_of o t
    generalize encT (tV t) = Q at st ⊢
    simp [st]
  have c2 : evF [s_least_start, s_ascending, s_start_of, s_is_line] [] (.comp (.var 5) (.name 5) (.seq (.var 4)) (.yes (.and (.cons (.o2 .ne (.var 5) (.var 3)) (.cons (.call 3 (.cons (.var 0) (.cons (.var 1) (.cons (.var 5) (.cons (.var 2) .nil))))) .nil)))) [5]) [.val (.int D.d), .val w.c, .val (encQ M), .val (eX l), .val (.list ((ascU (M.map w.s)).map eX)), .no, .no] = some ((lnQ w.s w.e M).map eX) := by
    refine comp_of (ds := (ascU (M.map w.s)).map eX) rfl ?_
    rw [← ln_least hm hl]
    refine compL_filter_map _ fun y hy => ?_
    have il := e_is_line sd o hn g (ga y hy)
    have ek : eqOk (eX y) (eX l) = true := eqOk_encL y.v l.v
    have ev' : PyData.eqv (eX y) (eX l) = decide (y.v = l.v) := eqv_encL y.v l.v
    cases cb : noC w.s w.e M y <;> rw [cb] at il <;> by_cases z : y.v = l.v <;> simp [il, ek, ev', z]
  have key : ∀ (q : Ex) (st : Sto) (x : PL.D), ev [s_least_start, s_ascending, s_start_of, s_is_line] [] (.var 0) st = some (.int D.d) → ev [s_least_start, s_ascending, s_start_of, s_is_line] [] q st = some x → evs [s_least_start, s_ascending, s_start_of, s_is_line] [] (.cons (.var 0) (.cons q .nil)) st = some [.int D.d, x] := by
    intro q st x h0 hq
    simp only [evs, hq, h0]
    rfl
  refine run_ret rfl (exs_step (ex_set (d := eX l) (by simp [e1])) (exs_step (ex_set (d := .list ((ascU (M.map w.s)).map eX)) ?_) (exs_ret (ex_return (by simp [-evF, c2])))))
  exact ev_call (key _ _ _ rfl (ev_fr c1)) rfl e2
def lnD (w : Way D) (M : List (TQ D)) : PL.D := .list ((lnQ w.s w.e M).map eX)
theorem e_lines_of (sd : Sz 6 D.d) {n : Nat} (hn : n + n + 1 + n < 2900) {M : List (TQ D)} (g : ∀ t ∈ M, GT n t) (hne : M ≠ []) (len : M.length ≤ 500) (S : PL.D) : s_lines_of [.int D.d, S, encQ M] = some (.tuple [lnD (wayX D) M, lnD (wayY D) M]) := by
  have h1 : s_lines_through [.int D.d, .str "x", encQ M] = some (lnD (wayX D) M) := e_lines_through sd okX hn g hne len
  have h2 : s_lines_through [.int D.d, .str "y", encQ M] = some (lnD (wayY D) M) := e_lines_through sd okY hn g hne len
  refine run_ret rfl (exs_ret (ex_return ?_))
  simp [h1, h2, sizeLine_eq]
theorem pl_eX {F : List (QL D)} (h : F.length ≤ 1000000) : Pl 3 (.list (F.map eX)) := pl_list (n := 2) h fun x _ => pl_encL 1 x.v
theorem pl_nil3 : Pl 3 (.list []) := .list [] (by decide) (by simp)
theorem eq_nilQ {M : List (TQ D)} (h : M.length ≤ 1000000) : o2D .eq (.list (M.map fun t => encT (tV t))) (.list []) = some (.bool M.isEmpty) := by
  have k : eqOk (.list (M.map fun t => encT (tV t))) (.list []) = true := pl_eqOk (n := 3) (pl_list (n := 2) h fun t _ => pl_encT 0 (tV t)) pl_nil3 (by decide)
  simp only [o2D]
  rw [k]
  cases M <;> rfl
theorem e_law_lines (sd : Sz 6 D.d) {w : Way D} (o : WayOk w) {n : Nat} (hn : n + n + 1 + n < 2900) {M : List (TQ D)} (g : ∀ t ∈ M, GT n t) (len : M.length ≤ 500) : s__law_lines [.int D.d, encQ M, .int (w.k : Int)] = some (.list ((lnQ w.s w.e M).map eX)) := by
  have eM : seqL (encQ M) = some (M.map fun t => encT (tV t)) := by rw [encQ_eq]; rfl
  have gs : ∀ x ∈ M.map w.s, Gd n x.v := fun x hx => by
    obtain ⟨u, hu, rfl⟩ := List.mem_map.mp hx
    exact o.gs n u (g u hu)
  have ga : ∀ x ∈ ascU (M.map w.s), Gd n x.v := fun x hx => gs x (asc_mem.mp hx)
  have e2 : s__law_sorted [.int D.d, .list ((M.map w.s).map eX)] = some (.list ((ascU (M.map w.s)).map eX)) := e_law_sorted sd (by omega) gs (by simpa using len)
  have en : ∀ t ∈ M, ∃ X : PL.D, s__law_ends [encT (tV t)] = some X ∧ ixD X (.int (w.k : Int)) = some (eX (w.e t)) := fun t ht => by
    have gt := g t ht
    have a1 := e_law_add gt.x gt.w (by omega)
    have a2 := e_law_add gt.y gt.h (by omega)
    rw [show addL t.x.v t.w.v = (t.x + t.w).v from rfl] at a1
    rw [show addL t.y.v t.h.v = (t.y + t.h).v from rfl] at a2
    have i0 : ixD (encT (tV t)) (.int 0) = some (encL t.x.v) := rfl
    have i1 : ixD (encT (tV t)) (.int 1) = some (encL t.y.v) := rfl
    have i2 : ixD (encT (tV t)) (.int 2) = some (encL t.w.v) := rfl
    have i3 : ixD (encT (tV t)) (.int 3) = some (encL t.h.v) := rfl
    exact ⟨.tuple [eX (t.x + t.w), eX (t.y + t.h)], by simp [-ixD, s__law_ends, b__law_ends, i0, i1, i2, i3, a1, a2, sizeLine_eq, eX], o.at_e t⟩
  obtain ⟨A, hA⟩ : ∃ A, A = ascU (M.map w.s) := ⟨_, rfl⟩
  have lA : A.length ≤ 500 := by
    have := asc_len (M.map w.s)
    rw [List.length_map, ← hA] at this
    omega
  rw [← hA] at ga e2
  have cut : cutL (A.map eX) (some 1) none = (A.drop 1).map eX := by
    exact cut_from' eX A 1
  let G3 : List Sem1 := [s__law_sorted, s__law_less, s__law_ends]
  let S : List (QL D) → Sl → Sl → Sto := fun F x5 x6 => [.val (.int D.d), .val (encQ M), .val (.int (w.k : Int)), .val (.list (A.map eX)), .own (F.map eX), x5, x6, .no]
  have c1 : evF G3 [] (.comp (.ix (.var 7) (.var 2)) (.name 7) (.seq (.var 1)) .no [7]) [.val (.int D.d), .val (encQ M), .val (.int (w.k : Int)), .no, .no, .no, .no, .no] = some ((M.map w.s).map eX) := by
    refine comp_of (ds := M.map fun t => encT (tV t)) (by simp [-seqL, eM]) ?_
    refine compL_map_map w.s fun t ht => ?_
    have st := o.at_s t
    generalize encT (tV t) = Q at st ⊢
    simp [-ixD, st]
  obtain ⟨s1, f1, x5, x6, e1⟩ := forB_inv (Γ := G3) (G := []) (tg := .name 5) (b := b__law_lines_1) (ds := (A.drop 1).map eX) (st := [.val (.int D.d), .val (encQ M), .val (.int (w.k : Int)), .val (.list (A.map eX)), .own [], .no, .no, .no])
    (fun i s => ∃ x5 x6, s = S (((A.drop 1).take i).filter (noC w.s w.e M)) x5 x6) ⟨_, _, rfl⟩ (by
      rintro i v s hv ⟨x5, x6, rfl⟩
      rw [List.getElem?_map] at hv
      obtain ⟨a, ha1, rfl⟩ := Option.map_eq_some_iff.mp hv
      obtain ⟨hi, ha2⟩ := List.getElem?_eq_some_iff.mp ha1
      have hmem : a ∈ A := List.mem_of_mem_drop (ha2 ▸ List.getElem_mem hi)
      have lF : (((A.drop 1).take i).filter (noC w.s w.e M)).length ≤ 500 := by
        have h1 := List.length_filter_le (noC w.s w.e M) ((A.drop 1).take i)
        have h2 := List.length_take_le i (A.drop 1)
        have h3 := List.length_drop (i := 1) (l := A)
        omega
      have tk : ((A.drop 1).take (i + 1)).filter (noC w.s w.e M) = ((A.drop 1).take i).filter (noC w.s w.e M) ++ (if noC w.s w.e M a then [a] else []) := by
        rw [List.take_succ, ha1, List.filter_append]
        congr 1
        show List.filter _ [a] = _
        cases c : noC w.s w.e M a <;> simp [c]
      rw [tk]
      generalize ((A.drop 1).take i).filter (noC w.s w.e M) = F at lF ⊢
      obtain ⟨C, hC⟩ : ∃ C, C = M.filter fun t => ltB (w.s t) a && ltB a (w.e t) := ⟨_, rfl⟩
      have lC : C.length ≤ 500 := by rw [hC]; exact Nat.le_trans (List.length_filter_le _ _) len
      have hb : noC w.s w.e M a = C.isEmpty := by
        rw [hC, Bool.eq_iff_iff, List.isEmpty_iff, List.filter_eq_nil_iff]
        unfold noC
        rw [List.all_eq_true]
        exact ⟨fun h t ht => by have := h t ht; rw [Bool.not_eq_true'] at this; rw [this]; decide, fun h t ht => by rw [Bool.not_eq_true']; exact Bool.eq_false_iff.mpr (h t ht)⟩
      have hc : evF G3 [] (.comp (.var 7) (.name 7) (.seq (.var 1)) (.yes (.and (.cons (.call 1 (.cons (.var 0) (.cons (.ix (.var 7) (.var 2)) (.cons (.var 5) .nil)))) (.cons (.call 1 (.cons (.var 0) (.cons (.var 5) (.cons (.ix (.call 2 (.cons (.var 7) .nil)) (.var 2)) .nil)))) .nil)))) [7]) (S F (.val (eX a)) x6) = some (C.map fun t => encT (tV t)) := by
        refine comp_of (ds := M.map fun t => encT (tV t)) (by simp [-seqL, S, eM]) ?_
        rw [hC]
        refine compL_filter_map _ fun t ht => ?_
        obtain ⟨X, x1, x2⟩ := en t ht
        have st := o.at_s t
        have l1 : s__law_less [.int D.d, eX (w.s t), eX a] = some (.bool (ltB (w.s t) a)) := e_law_less D.ns sd (o.gs n t (g t ht)) (ga a hmem) (by omega)
        have l2 : s__law_less [.int D.d, eX a, eX (w.e t)] = some (.bool (ltB a (w.e t))) := e_law_less D.ns sd (ga a hmem) (gt_end o (g t ht)) (by omega)
        generalize encT (tV t) = Q at st x1 ⊢
        cases b1 : ltB (w.s t) a <;> cases b2 : ltB a (w.e t) <;> rw [b1] at l1 <;> rw [b2] at l2 <;> simp [-ixD, S, G3, st, x1, x2, l1, l2]
      have en := eq_nilQ (M := C) (by omega)
      rw [← hb] at en
      refine ⟨_, S (F ++ if noC w.s w.e M a then [a] else []) (.val (eX a)) (.val (.list (C.map fun t => encT (tV t)))), rfl, ?_, _, _, rfl⟩
      refine exs_step (ex_setF hc) (exs_frz ?_)
      generalize (C.map fun t => encT (tV t)) = Y at en ⊢
      cases cb : noC w.s w.e M a with
      | true =>
        rw [cb] at en
        have q1 : F.length < 16777216 := by omega
        exact exs_step (ex_then (by simp [-o2D, S, en]) (exs_step (by simp [S, sizeLine_eq, q1]) rfl)) rfl
      | false =>
        rw [cb] at en
        exact exs_step (ex_else (by simp [-o2D, S, en]) (by simp [S])) rfl)
  subst e1
  have tkA : (A.drop 1).take ((A.drop 1).map eX).length = A.drop 1 := by rw [List.length_map, List.take_length]
  rw [tkA] at f1
  have key : ∀ (q : Ex) (st : Sto) (x : PL.D), ev G3 [] (.var 0) st = some (.int D.d) → ev G3 [] q st = some x → evs G3 [] (.cons (.var 0) (.cons q .nil)) st = some [.int D.d, x] := by
    intro q st x h0 hq
    simp only [evs, hq, h0]
    rfl
  refine run_ret rfl (exs_step (ex_set (d := .list (A.map eX)) (ev_call (key _ _ _ rfl (ev_fr c1)) rfl e2)) (exs_step (ex_setF (ds := []) (by simp)) (exs_step (ex_for (ds := (A.drop 1).map eX) (by rw [← cut]; simp) rfl f1) (exs_frz (exs_ret (ex_return ?_))))))
  unfold lnQ
  rw [← hA]
  rfl
end
section
variable {D : Dt}
theorem e_turnedL (M : List (TQ D)) : s__law_turned [encQ M] = some (encQ (M.map tnQ)) := by
  have u : s__law_turned = run [] [] 1 2 b__law_turned := rfl
  rw [u]
  refine run_ret rfl (exs_ret (ex_return (ev_fr (comp_of (ds := (M.map tV).map encT) (by simp [encQ]) ?_))))
  rw [show (M.map tV).map encT = M.map (encT ∘ tV) from List.map_map, show ((M.map tnQ).map tV).map encT = (M.map tnQ).map (encT ∘ tV) from List.map_map]
  refine compL_map_map (enc := encT ∘ tV) (enc2 := encT ∘ tV) tnQ ?_
  intro t ht
  have i0 : ixD ((encT ∘ tV) t) (.int 0) = some (encL t.x.v) := rfl
  have i1 : ixD ((encT ∘ tV) t) (.int 1) = some (encL t.y.v) := rfl
  have i2 : ixD ((encT ∘ tV) t) (.int 2) = some (encL t.w.v) := rfl
  have i3 : ixD ((encT ∘ tV) t) (.int 3) = some (encL t.h.v) := rfl
  generalize (encT ∘ tV) t = Q at i0 i1 i2 i3
  simp [-ixD, i0, i1, i2, i3, sizeLine_eq]
  rfl
theorem noL_encL (a : Ln) : noL (encL a) = true := rfl
theorem noLs_eX (F : List (QL D)) : noLs (F.map eX) = true := by
  induction F with
  | nil => rfl
  | cons x F ih =>
    show (noL (encL x.v) && noLs (F.map eX)) = true
    rw [ih]
    rfl
theorem lsIn_encQ (L : List (TQ D)) : lsIn (encQ L) = [(L.map tV).map encT] := by
  show (L.map tV).map encT :: lsIns ((L.map tV).map encT) = _
  rw [noL_in.go _ (noLs_encQ L)]
theorem noDc_encQ (L : List (TQ D)) : noDc (encQ L) = true := by
  show noDcs ((L.map tV).map encT) = true
  exact noLs_dc _ (noLs_encQ L)
theorem lsIn_eX (F : List (QL D)) : lsIns (F.map eX) = [] := noL_in.go _ (noLs_eX F)
def twoD (M : List (TQ D)) : PL.D := .tuple [lnD (wayX D) M, lnD (wayY D) M]
theorem apart_ln {d : Int} {a b : Ln} {M : List (TQ D)} (h : 1 ≤ M.length) : apart [.int d, .tuple [encL a, encL b], encQ M] (twoD M) = true := by
  have q1 := lsIn_encQ M
  have n1 := noDc_encQ M
  have l1 : ((M.map tV).map encT).length = M.length := by simp
  have w1 := ln_len (s := (wayX D).s) (e := (wayX D).e) h
  have w2 := ln_len (s := (wayY D).s) (e := (wayY D).e) h
  have q2 := lsIn_eX (lnQ (wayX D).s (wayX D).e M)
  have q3 := lsIn_eX (lnQ (wayY D).s (wayY D).e M)
  have l2 : ((lnQ (wayX D).s (wayX D).e M).map eX).length < M.length := by rw [List.length_map]; exact w1
  have l3 : ((lnQ (wayY D).s (wayY D).e M).map eX).length < M.length := by rw [List.length_map]; exact w2
  unfold twoD lnD
  generalize encQ M = X1 at *
  generalize (M.map tV).map encT = Y1 at *
  generalize (lnQ (wayX D).s (wayX D).e M).map eX = Y2 at *
  generalize (lnQ (wayY D).s (wayY D).e M).map eX = Y3 at *
  have e2 : ¬ Y2.length = Y1.length := by omega
  have e3 : ¬ Y3.length = Y1.length := by omega
  simp [apart, encL, q1, q2, q3, n1, apL, e2, e3]
theorem lf1_two {M : List (TQ D)} (h1 : 1 ≤ M.length) (h : M.length ≤ 1000) : lf1 (twoD M) = true := by
  have w1 := ln_len (s := (wayX D).s) (e := (wayX D).e) h1
  have w2 := ln_len (s := (wayY D).s) (e := (wayY D).e) h1
  have n2 := noLs_eX (lnQ (wayX D).s (wayX D).e M)
  have n3 := noLs_eX (lnQ (wayY D).s (wayY D).e M)
  have l2 : ((lnQ (wayX D).s (wayX D).e M).map eX).length ≤ 1000000 := by rw [List.length_map]; omega
  have l3 : ((lnQ (wayY D).s (wayY D).e M).map eX).length ≤ 1000000 := by rw [List.length_map]; omega
  unfold twoD lnD
  generalize (lnQ (wayX D).s (wayX D).e M).map eX = Y2 at *
  generalize (lnQ (wayY D).s (wayY D).e M).map eX = Y3 at *
  simp [n2, n3, l2, l3]
theorem pl_two {M : List (TQ D)} (h1 : 1 ≤ M.length) (h : M.length ≤ 1000) : Pl 4 (twoD M) := by
  have w1 := ln_len (s := (wayX D).s) (e := (wayX D).e) h1
  have w2 := ln_len (s := (wayY D).s) (e := (wayY D).e) h1
  refine .tuple _ (by simp) fun y hy => ?_
  simp only [List.mem_cons, List.not_mem_nil, or_false] at hy
  rcases hy with rfl | rfl
  · exact pl_eX (by omega)
  · exact pl_eX (by omega)
theorem pl_encQ41 (M : List (TQ D)) (h : M.length ≤ 1000000) : Pl 3 (encQ M) := by
  unfold encQ
  exact pl_list (f := encT) (by rw [List.length_map]; exact h) fun x _ => pl_encT 0 x
def G41 : List Sem1 := [s__law_lines, s__law_copied, s_lines_of, s__law_is_length, s__law_in_order, s__law_turned]
theorem e_way (a0 a1 a2 a3 a4 a5 a7 a8 : Sl) (F : List (QL D)) : exs G41 [] b__law_told_1 [a0, a1, a2, a3, a4, a5, .val (.list (F.map eX)), a7, a8] = some (.next [a0, a1, a2, a3, a4, a5, .val (.list (F.map eX)), a7, a8]) := by
  have cp : evF G41 [] (.comp (.var 8) (.name 8) (.seq (.var 6)) (.yes (.not (.call 3 (.cons (.var 8) .nil)))) [8]) [a0, a1, a2, a3, a4, a5, .val (.list (F.map eX)), a7, a8] = some ([] : List PL.D) := by
    refine comp_of (ds := F.map eX) (by simp) ?_
    have := compL_filter_map (f := fun dd => (bindTg (.name 8) dd (wipeS [a0, a1, a2, a3, a4, a5, .val (.list (F.map eX)), a7, a8] [8])).bind fun st1 => (evC G41 [] (.yes (.not (.call 3 (.cons (.var 8) .nil)))) st1).bind fun b => if b then (ev G41 [] (.var 8) st1).map some else some none) (enc := eX) (xs := F) (fun _ => false) fun x _ => by
      have e : s__law_is_length [eX x] = some (.bool true) := e_is_length x.nf
      simp [G41, e]
    rw [this]
    simp
  have ek : eqOk (.list []) (.list []) = true := by simp [eqOk, PyData.canLay0, PyData.canLayAll0, PyData.depth, PyData.depthAll]
  have ev' : PyData.eqv (.list []) (.list []) = true := by simp [PyData.eqv, PyData.eqvAll]
  have en : evF G41 [] (.lst .nil) [a0, a1, a2, a3, a4, a5, .val (.list (F.map eX)), a7, a8] = some ([] : List PL.D) := rfl
  exact exs_step (ex_else (b := .nil) (by simp [-evF, cp, en, ek, ev']) rfl) rfl
theorem told41 (sd : Sz 6 D.d) {n : Nat} (hn : n + n + 1 + n < 2900) {a b : Ln} {M : List (TQ D)} (g : ∀ t ∈ M, GT n t) (h1 : 1 ≤ M.length) (len : M.length ≤ 500) : s__law_told [.int D.d, .tuple [encL a, encL b], encQ M] = some (twoD M) := by
  have hne : M ≠ [] := fun z => by rw [z] at h1; simp at h1
  have k0 : s__law_lines [.int D.d, encQ M, .int 0] = some (lnD (wayX D) M) := e_law_lines sd okX hn g len
  have k1 : s__law_lines [.int D.d, encQ M, .int 1] = some (lnD (wayY D) M) := e_law_lines sd okY hn g len
  have cp : s__law_copied [encQ M] = some (encQ M) := e_copied (M.map tV)
  have lo : s_lines_of [.int D.d, .tuple [encL a, encL b], encQ M] = some (twoD M) := e_lines_of sd hn g hne len _
  have tL := e_turnedL M
  have g2 : ∀ t ∈ M.map tnQ, GT n t := fun t ht => by
    obtain ⟨u, hu, rfl⟩ := List.mem_map.mp ht
    have g := g u hu
    exact ⟨g.y, g.x, g.h, g.w⟩
  obtain ⟨N, p, -, io⟩ := e_inL sd (by omega) g2 (by rw [List.length_map]; omega)
  have lN : N.length = M.length := by rw [p.length_eq, List.length_map]
  have lo2 : s_lines_of [.int D.d, .tuple [encL b, encL a], encQ N] = some (twoD N) := e_lines_of sd hn (fun t ht => g2 t (p.mem_iff.mp ht)) (fun z => by rw [z] at lN; simp at lN; omega) (by omega) _
  have sw1 : lnD (wayX D) N = lnD (wayY D) M := by
    exact congrArg (fun L => PyData.list (L.map eX)) ((ln_perm p).trans (ln_map (f := tnQ) (fun t => rfl) (fun t => rfl) M))
  have sw2 : lnD (wayY D) N = lnD (wayX D) M := by
    exact congrArg (fun L => PyData.list (L.map eX)) ((ln_perm p).trans (ln_map (f := tnQ) (fun t => rfl) (fun t => rfl) M))
  have lo2 : s_lines_of [.int D.d, .tuple [encL b, encL a], encQ N] = some (.tuple [lnD (wayY D) M, lnD (wayX D) M]) := by
    rw [lo2]; unfold twoD; rw [sw1, sw2]
  have pM := pl_encQ41 M (by omega)
  have eM1 := pl_eqOk pM pM (by decide)
  have eM2 := pl_eqv pM
  have pT := pl_two (M := M) h1 (by omega)
  have eT1 := pl_eqOk pT pT (by decide)
  have eT2 := pl_eqv pT
  have pT' : Pl 4 (.tuple [lnD (wayY D) M, lnD (wayX D) M]) := by
    have := pl_two (M := N) (by omega) (by omega)
    unfold twoD at this
    rw [sw1, sw2] at this
    exact this
  have eR1 := pl_eqOk pT' pT' (by decide)
  have eR2 := pl_eqv pT'
  have ap := apart_ln (d := D.d) (a := a) (b := b) h1
  have lf := lf1_two (M := M) h1 (by omega)
  have nx := noLs_eX (lnQ (wayX D).s (wayX D).e M)
  have ny := noLs_eX (lnQ (wayY D).s (wayY D).e M)
  unfold twoD at *
  have u : s__law_told = run G41 [] 3 9 b__law_told := rfl
  rw [u]
  refine run_ret rfl ?_
  refine exs_step (ex_set (d := .tuple [lnD (wayX D) M, lnD (wayY D) M]) (by simp [G41, k0, k1, sizeLine_eq])) ?_
  refine exs_step (ex_set (d := encQ M) (by simp [G41, cp])) ?_
  refine exs_mark ?_
  refine exs_step (ex_setN (evN_call (as := [.int D.d, .tuple [encL a, encL b], encQ M]) (by simp [-ixD]) rfl lo lf ap)) ?_
  refine exs_step (ex_else (b := .nil) (by simp [eM1, eM2, eT1, eT2, isI_tuple, kitB]) rfl) ?_
  refine exs_step (ex_for (ds := [lnD (wayX D) M, lnD (wayY D) M]) rfl rfl (forB_cons rfl (e_way _ _ _ _ _ _ _ _ (lnQ (wayX D).s (wayX D).e M)) (forB_cons rfl (e_way _ _ _ _ _ _ _ _ (lnQ (wayY D).s (wayY D).e M)) rfl))) ?_
  refine exs_step (ex_set (d := encQ N) (by simp [G41, tL, io])) ?_
  refine exs_step (ex_else (b := .nil) (by simp [G41, lo2, eR1, eR2]) rfl) ?_
  refine exs_muts rfl ?_ ?_
  · unfold lnD
    generalize (lnQ (wayX D).s (wayX D).e M).map eX = Y2 at *
    generalize (lnQ (wayY D).s (wayY D).e M).map eX = Y3 at *
    simp [nx, ny]
  refine exs_step (ex_else (b := .nil) (by simp [G41, lo, eT1, eT2]) rfl) ?_
  exact exs_ret (ex_return rfl)
end
section
variable {D : Dt}
theorem noC_no {s e : TQ D → QL D} {M : List (TQ D)} {a : QL D} {u : TQ D} (hu : u ∈ M) (k1 : s u < a) (k2 : a < e u) : noC s e M a = false := by
  rw [← Bool.not_eq_true]
  intro z
  unfold noC at z
  rw [List.all_eq_true] at z
  have := z u hu
  rw [ltB_iff.mpr k1, ltB_iff.mpr k2] at this
  exact absurd this (by decide)
theorem noC_yes {s e : TQ D → QL D} {M : List (TQ D)} {a : QL D} (h : ∀ t ∈ M, s t < a → a < e t → False) : noC s e M a = true := by
  unfold noC
  rw [List.all_eq_true]
  intro t ht
  cases b1 : ltB (s t) a with
  | false => rfl
  | true =>
    cases b2 : ltB a (e t) with
    | false => rfl
    | true => exact (h t ht (ltB_iff.mp b1) (ltB_iff.mp b2)).elim
theorem ln_nil {s e : TQ D → QL D} {M : List (TQ D)} {l : QL D} (hm : l ∈ M.map s) (hl : ∀ t ∈ M, ¬ s t < l) (hc : ∀ t ∈ M, s t = l ∨ ∃ u ∈ M, s u < s t ∧ s t < e u) : lnQ s e M = [] := by
  rw [← ln_least hm hl, List.filter_eq_nil_iff]
  intro a ha
  obtain ⟨t, ht, rfl⟩ := List.mem_map.mp (asc_mem.mp ha)
  rcases hc t ht with e1 | ⟨u, hu, k1, k2⟩
  · rw [e1]; simp
  · rw [noC_no hu k1 k2]; simp
theorem ln_mem {s e : TQ D → QL D} {M : List (TQ D)} {l a : QL D} (hm : l ∈ M.map s) (hl : ∀ t ∈ M, ¬ s t < l) (ha : a ∈ M.map s) (hn : a ≠ l) (hc : ∀ t ∈ M, s t < a → a < e t → False) : a ∈ lnQ s e M := by
  rw [← ln_least hm hl, List.mem_filter]
  refine ⟨asc_mem.mpr ha, ?_⟩
  rw [noC_yes hc]
  have : a.v ≠ l.v := fun z => hn (QL.ext' z)
  simp [this]
theorem ln_grid {s e : TQ D → QL D} {M : List (TQ D)} {k : QL D} (pk : 0 < k) {n : Nat} (h1 : ∀ t ∈ M, ∃ c : Nat, c < n ∧ s t = k * ((c : Int) : QL D) ∧ e t = k * ((c : Int) : QL D) + k) (h2 : ∀ c : Nat, c < n → ∃ t ∈ M, s t = k * ((c : Int) : QL D)) :
    lnQ s e M = ((List.range n).map fun c : Nat => k * ((c : Int) : QL D)).drop 1 := by
  obtain ⟨A, hA⟩ : ∃ A, A = (List.range n).map fun c : Nat => k * ((c : Int) : QL D) := ⟨_, rfl⟩
  have sA : SrtU A := by
    rw [hA]
    unfold SrtU
    rw [List.pairwise_map]
    exact List.pairwise_lt_range.imp fun {a b} h => mul_lt pk (show ((a : Nat) : Int) < (b : Int) by omega)
  have eA : ascU (M.map s) = A := by
    refine srt_uniq (asc_srt _) sA fun y => ?_
    rw [asc_mem, hA, List.mem_map, List.mem_map]
    constructor
    · rintro ⟨t, ht, rfl⟩
      obtain ⟨c, hc, e1, -⟩ := h1 t ht
      exact ⟨c, List.mem_range.mpr hc, e1.symm⟩
    · rintro ⟨c, hc, rfl⟩
      obtain ⟨t, ht, e1⟩ := h2 c (List.mem_range.mp hc)
      exact ⟨t, ht, e1⟩
  rw [← hA]
  unfold lnQ
  rw [eA]
  refine List.filter_eq_self.mpr fun a ha => noC_yes fun t ht k1 k2 => ?_
  have ha := List.mem_of_mem_drop ha
  rw [hA] at ha
  obtain ⟨c, hc, rfl⟩ := List.mem_map.mp ha
  obtain ⟨c', hc', e1, e2⟩ := h1 t ht
  rw [e1] at k1
  rw [e2] at k2
  by_cases z : c' < c
  · have := add_one_le pk (show (c' : Int) + 1 ≤ (c : Int) by omega)
    exact g_abs k2 this
  · have := mul_le pk (show (c : Int) ≤ (c' : Int) by omega)
    exact g_abs k1 this
theorem gridQ_has {w h : QL D} {cols : Nat} {c l : Nat} (hc : c < cols) : ∀ {r : Nat}, l < r → (⟨w * ((c : Int) : QL D), h * ((l : Int) : QL D), w, h⟩ : TQ D) ∈ gridQ w h cols r
  | 0, hl => absurd hl (by omega)
  | r + 1, hl => by
    rw [gridQ]
    by_cases e : l = r
    · subst e
      exact List.mem_append_right _ (List.mem_map.mpr ⟨c, List.mem_range.mpr hc, rfl⟩)
    · exact List.mem_append_left _ (gridQ_has hc (by omega))
/- a grid has a line between each two columns and rows -/
theorem grid_lines {w h : QL D} (pw : 0 < w) (ph : 0 < h) {cols rows : Nat} (c1 : 1 ≤ cols) (r1 : 1 ≤ rows) : (lnQ (wayX D).s (wayX D).e (gridQ w h cols rows)).length = cols - 1 ∧ (lnQ (wayY D).s (wayY D).e (gridQ w h cols rows)).length = rows - 1 := by
  constructor
  · rw [ln_grid pw (n := cols) (fun t ht => by
      obtain ⟨c, l, h1, h2, rfl⟩ := gridQ_mem ht
      exact ⟨c, h1, rfl, rfl⟩) (fun c hc => ⟨_, gridQ_has hc (show 0 < rows by omega), rfl⟩)]
    simp
  · rw [ln_grid ph (n := rows) (fun t ht => by
      obtain ⟨c, l, h1, h2, rfl⟩ := gridQ_mem ht
      exact ⟨l, h2, rfl, rfl⟩) (fun c hc => ⟨_, gridQ_has (show 0 < cols by omega) hc, rfl⟩)]
    simp
theorem lt_ne {a b : QL D} (h : a < b) : b ≠ a := by grind
theorem le_le {a b : QL D} (h : a ≤ b) (k : b ≤ a) : a = b := by grind
theorem add_le0 {a b W : QL D} (h : a + b ≤ W) (p : 0 < b) (k : W < a + b) : False := by grind
theorem ge_add {a W : QL D} (h : 0 ≤ a) (k : a + W < W) : False := by grind
theorem zero_addW {a W : QL D} (h : a = 0) : a + W = W := by grind
/- where two cuttings meet is a line -/
theorem seam {W K H : QL D} (pW : 0 < W) (pK : 0 < K) (pH : 0 < H) {L M N : List (TQ D)} (r : Rect 0 W 0 H L) (s : Rect 0 K 0 H M) (p : N.Perm (L ++ M.map (mvQ W 0))) : W ∈ lnQ (wayX D).s (wayX D).e N := by
  rw [ln_perm p]
  have le0 : (0 : QL D) ≤ 0 := by grind
  obtain ⟨t, ht, k⟩ := r.cov 0 0 le0 pW le0 pH
  obtain ⟨u, hu, k'⟩ := s.cov 0 0 le0 pK le0 pH
  have t0 : t.x = 0 := le_le k.1 (r.el t ht).1
  have u0 : u.x = 0 := le_le k'.1 (s.el u hu).1
  refine ln_mem (l := 0) ?_ ?_ ?_ (lt_ne pW) ?_
  · exact List.mem_map.mpr ⟨t, List.mem_append_left _ ht, t0⟩
  · intro a ha z
    rcases List.mem_append.mp ha with ha | ha
    · exact g_abs z (r.el a ha).1
    · obtain ⟨b, hb, rfl⟩ := List.mem_map.mp ha
      have h1 := (s.el b hb).1
      have z : b.x + W < 0 := z
      exact absurd z (by grind)
  · exact List.mem_map.mpr ⟨mvQ W 0 u, List.mem_append_right _ (List.mem_map_of_mem hu), zero_addW u0⟩
  · intro a ha k1 k2
    rcases List.mem_append.mp ha with ha | ha
    · obtain ⟨-, h2, -, -, h5, -⟩ := r.el a ha
      exact add_le0 h2 h5 k2
    · obtain ⟨b, hb, rfl⟩ := List.mem_map.mp ha
      exact ge_add (s.el b hb).1 k1
/- a wheel has no lines -/
theorem wheel_lines {u v : QL D} (pu : 0 < u) (pv : 0 < v) : lnQ (wayX D).s (wayX D).e [(⟨0, 0, u + u, v⟩ : TQ D), ⟨0 + (u + u), 0, u, v + v⟩, ⟨0 + u, 0 + (v + v), u + u, v⟩, ⟨0, 0 + v, u, v + v⟩, ⟨0 + u, 0 + v, u, v⟩] = [] ∧
    lnQ (wayY D).s (wayY D).e [(⟨0, 0, u + u, v⟩ : TQ D), ⟨0 + (u + u), 0, u, v + v⟩, ⟨0 + u, 0 + (v + v), u + u, v⟩, ⟨0, 0 + v, u, v + v⟩, ⟨0 + u, 0 + v, u, v⟩] = [] := by
  have a1 : (0 : QL D) < 0 + u ∧ 0 + u < 0 + (u + u) := by grind
  have a2 : (0 : QL D) < 0 + v ∧ 0 + v < 0 + (v + v) := by grind
  have a3 : 0 + u < 0 + (u + u) ∧ 0 + (u + u) < 0 + u + (u + u) := by grind
  have a4 : 0 + v < 0 + (v + v) ∧ 0 + (v + v) < 0 + v + (v + v) := by grind
  have n1 : ¬ (0 : QL D) < 0 := by grind
  have n2 : ¬ 0 + u < 0 := by grind
  have n3 : ¬ 0 + (u + u) < 0 := by grind
  have n4 : ¬ 0 + v < 0 := by grind
  have n5 : ¬ 0 + (v + v) < 0 := by grind
  constructor
  · refine ln_nil (l := 0) (List.mem_map.mpr ⟨_, List.mem_cons_self, rfl⟩) (fun t ht => ?_) fun t ht => ?_
    · simp only [List.mem_cons, List.not_mem_nil, or_false] at ht
      rcases ht with rfl | rfl | rfl | rfl | rfl
      · exact n1
      · exact n3
      · exact n2
      · exact n1
      · exact n2
    · simp only [List.mem_cons, List.not_mem_nil, or_false] at ht
      rcases ht with rfl | rfl | rfl | rfl | rfl
      · exact .inl rfl
      · exact .inr ⟨⟨0 + u, 0 + (v + v), u + u, v⟩, by simp, a3.1, a3.2⟩
      · exact .inr ⟨⟨0, 0, u + u, v⟩, by simp, a1.1, a1.2⟩
      · exact .inl rfl
      · exact .inr ⟨⟨0, 0, u + u, v⟩, by simp, a1.1, a1.2⟩
  · refine ln_nil (l := 0) (List.mem_map.mpr ⟨_, List.mem_cons_self, rfl⟩) (fun t ht => ?_) fun t ht => ?_
    · simp only [List.mem_cons, List.not_mem_nil, or_false] at ht
      rcases ht with rfl | rfl | rfl | rfl | rfl
      · exact n1
      · exact n1
      · exact n5
      · exact n4
      · exact n4
    · simp only [List.mem_cons, List.not_mem_nil, or_false] at ht
      rcases ht with rfl | rfl | rfl | rfl | rfl
      · exact .inl rfl
      · exact .inl rfl
      · exact .inr ⟨⟨0, 0 + v, u, v + v⟩, by simp, a4.1, a4.2⟩
      · exact .inr ⟨⟨0 + (u + u), 0, u, v + v⟩, by simp, a2.1, a2.2⟩
      · exact .inr ⟨⟨0 + (u + u), 0, u, v + v⟩, by simp, a2.1, a2.2⟩
/- the law's wheel -/
theorem wheel_list {W H : QL D} (pW : 0 < W) (pH : 0 < H) : ∃ u v : QL D, 0 < u ∧ 0 < v ∧ [(⟨0, 0, u + u, v⟩ : TQ D), ⟨0 + (u + u), 0, u, v + v⟩, ⟨0 + u, 0 + (v + v), u + u, v⟩, ⟨0, 0 + v, u, v + v⟩, ⟨0 + u, 0 + v, u, v⟩].map tV = wheelT D.d (tV (⟨0, 0, W, H⟩ : TQ D)) := by
  have g3 : Gd 2 ⟨1, 0, 3⟩ := gd2 (by decide +kernel)
  obtain ⟨T, eT⟩ : ∃ S : QL D, S.v = ⟨1, 0, 3⟩ := ⟨⟨_, g3.nf⟩, rfl⟩
  have pT : 0 < T := third_pos (by rw [eT]; exact g3) eT
  obtain ⟨u, hu⟩ : ∃ u, u = W * T := ⟨_, rfl⟩
  obtain ⟨v, hv⟩ : ∃ u, u = H * T := ⟨_, rfl⟩
  refine ⟨u, v, hu ▸ QL.mul_pos' pW pT, hv ▸ QL.mul_pos' pH pT, ?_⟩
  have at' (a b c e : Int) (X Y w h : QL D) (h1 : X = 0 + u * (a : QL D)) (h2 : Y = 0 + v * (b : QL D)) (h3 : w = u * (c : QL D)) (h4 : h = v * (e : QL D)) : tV (⟨X, Y, w, h⟩ : TQ D) = wheelAt D.d (tV (⟨0, 0, W, H⟩ : TQ D)) a b c e := by
    subst h1 h2 h3 h4
    show (⟨_, _, _, _⟩ : Tl) = ⟨_, _, _, _⟩
    rw [hu, hv]
    show (⟨addL (0 : QL D).v (mulL D.d (mulL D.d W.v T.v) ⟨a, 0, 1⟩), addL (0 : QL D).v (mulL D.d (mulL D.d H.v T.v) ⟨b, 0, 1⟩), mulL D.d (mulL D.d W.v T.v) ⟨c, 0, 1⟩, mulL D.d (mulL D.d H.v T.v) ⟨e, 0, 1⟩⟩ : Tl) = wheelAt D.d (tV (⟨0, 0, W, H⟩ : TQ D)) a b c e
    rw [eT]; rfl
  show [tV _, tV _, tV _, tV _, tV _] = [_, _, _, _, _]
  rw [at' 0 0 2 1 _ _ _ _ (ix0 _ _) (ix0 _ _) (im2 _) (im1 _),
    at' 2 0 1 2 _ _ _ _ (ix2 _ _) (ix0 _ _) (im1 _) (im2 _),
    at' 1 2 2 1 _ _ _ _ (ix1 _ _) (ix2 _ _) (im2 _) (im1 _),
    at' 0 1 1 2 _ _ _ _ (ix0 _ _) (ix1 _ _) (im1 _) (im2 _),
    at' 1 1 1 1 _ _ _ _ (ix1 _ _) (ix1 _ _) (im1 _) (im1 _)]
end
theorem e_law_grid {n : Nat} {d : Int} (hd : NS d) (sd : Sz 6 d) {W H : Ln} (gW : Gd n W) (gH : Gd n H) (hn : n < 3000) {cols rows : Nat} (c1 : 1 ≤ cols) (r1 : 1 ≤ rows) (cr : cols ≤ 2000) (rr : rows ≤ 2000) (hcr : cols * rows ≤ 1000000) :
    s__law_grid [.int d, .tuple [encL W, encL H], .int cols, .int rows] = some (.list ((gridT d (divL d W ⟨cols, 0, 1⟩) (divL d H ⟨rows, 0, 1⟩) cols rows).map encT)) := by
  have p11 : (2 : Nat) ^ 11 = 2048 := by decide
  have gw (k : Nat) (hk : k ≤ 2000) : Gd 12 ⟨(k : Int), 0, 1⟩ := gd_whole (n := 11) (by unfold Sz; omega)
  have nz (k : Nat) (hk : 1 ≤ k) : (⟨(k : Int), 0, 1⟩ : Ln) ≠ ⟨0, 0, 1⟩ := fun z => by
    have := congrArg Ln.p z
    have : (k : Int) = 0 := this
    omega
  have nn (k : Nat) (hk : 1 ≤ k) (hk2 : k ≤ 2000) := norm_ne hd (gw k hk2).nf (nz k hk)
  have o1 := e_law_by sd gW (gw cols cr) (nn cols c1 cr) (by omega)
  have o2 := e_law_by sd gH (gw rows rr) (nn rows r1 rr) (by omega)
  obtain ⟨w, hw⟩ : ∃ w, w = divL d W ⟨cols, 0, 1⟩ := ⟨_, rfl⟩
  obtain ⟨h, hh⟩ : ∃ h, h = divL d H ⟨rows, 0, 1⟩ := ⟨_, rfl⟩
  have kw : Gd (n + 38) w := hw ▸ (gd_div hd sd gW (gw cols cr) (nz cols c1)).mono (by omega)
  have kh : Gd (n + 38) h := hh ▸ (gd_div hd sd gH (gw rows rr) (nz rows r1)).mono (by omega)
  rw [← hw] at o1
  rw [← hh] at o2
  rw [← hw, ← hh]
  have ewh (k : Nat) : (.tuple [.int (k : Int), .int 0, .int 1] : D) = encL ⟨(k : Int), 0, 1⟩ := rfl
  have tm (k : Nat) (hk : k ≤ 2000) : s__law_times [.int d, encL w, encL ⟨(k : Int), 0, 1⟩] = some (encL (mulL d w ⟨(k : Int), 0, 1⟩)) := e_law_times sd kw (gw k hk) (by omega)
  have th (k : Nat) (hk : k ≤ 2000) : s__law_times [.int d, encL h, encL ⟨(k : Int), 0, 1⟩] = some (encL (mulL d h ⟨(k : Int), 0, 1⟩)) := e_law_times sd kh (gw k hk) (by omega)
  let S (x4 x5 x8 : Sl) : Sto := [.val (.int d), .val (.tuple [encL W, encL H]), .val (.int cols), .val (.int rows), x4, x5, .val (encL w), .val (encL h), x8]
  let GR : List Sem1 := [s__law_by, s__law_times]
  have rC : rngOk 0 (cols : Int) = true := rng_of (by decide) (by decide) (by omega) (by omega)
  have rR : rngOk 0 (rows : Int) = true := rng_of (by decide) (by decide) (by omega) (by omega)
  have turn : ∀ r : Nat, r < rows → ∀ x8, exs GR [] b__law_grid_1 (S (.val (.list ((gridT d w h cols r).map encT))) (.val (.int r)) x8) = some (.next (S (.val (.list ((gridT d w h cols (r + 1)).map encT))) (.val (.int r)) x8)) := by
    intro r hr x8
    have t8 := th r (by omega)
    have cp : evF GR [] (.comp (.tup (.cons (.call 1 (.cons (.var 0) (.cons (.var 6) (.cons (.tup (.cons (.var 8) (.cons (.lit (.int 0)) (.cons (.lit (.int 1)) .nil)))) .nil)))) (.cons (.call 1 (.cons (.var 0) (.cons (.var 7) (.cons (.tup (.cons (.var 5) (.cons (.lit (.int 0)) (.cons (.lit (.int 1)) .nil)))) .nil)))) (.cons (.var 6) (.cons (.var 7) .nil))))) (.name 8) (.rng1 (.var 2)) .no [8]) (S (.val (.list ((gridT d w h cols r).map encT))) (.val (.int r)) x8) = some ((rowT d w h cols r).map encT) := by
      refine comp_of (ds := rngL 0 cols) (by simp [S, rC]) ?_
      rw [rngL_nat, rowT, List.map_map]
      have : ∀ f : D → Option (Option D), (∀ c : Nat, c < cols → f (.int c) = some (some (encT (cellT d w h c r)))) → compL f ((List.range cols).map fun k : Nat => (.int (k : Int) : D)) = some ((List.range cols).map (encT ∘ fun c => cellT d w h c r)) := by
        intro f hf
        have key : ∀ ks : List Nat, (∀ k ∈ ks, k < cols) → compL f (ks.map fun k : Nat => (.int (k : Int) : D)) = some (ks.map (encT ∘ fun c => cellT d w h c r)) := by
          intro ks
          induction ks with
          | nil => intro _; rfl
          | cons k ks ih =>
            intro hk
            have e := ih fun x hx => hk x (List.mem_cons_of_mem _ hx)
            simp only [List.map_cons, compL, hf k (hk k List.mem_cons_self), e]
            rfl
        exact key _ fun k hk => List.mem_range.mp hk
      refine this _ fun c hc => ?_
      have t := tm c (by omega)
      simp [S, GR, ewh, t, t8, cellT, encT, sizeLine_eq]
    have hlen : (gridT d w h cols r).length + (rowT d w h cols r).length ≤ 1000000 := by
      rw [gridT_len, rowT, List.length_map, List.length_range]
      have : cols * r + cols = cols * (r + 1) := (Nat.mul_succ cols r).symm
      have : cols * (r + 1) ≤ cols * rows := Nat.mul_le_mul_left _ hr
      omega
    have ad : o2D .add (.list ((gridT d w h cols r).map encT)) (.list ((rowT d w h cols r).map encT)) = some (.list ((gridT d w h cols (r + 1)).map encT)) := by
      rw [gridT, List.map_append]
      exact add_list (by simpa using hlen)
    exact exs_step (ex_set (ev_o2 (x := .list ((gridT d w h cols r).map encT)) (by simp [S]) (ev_fr cp) ad)) rfl
  have loop : ∀ k : Nat, k ≤ rows → ∀ x5 x8, ∃ y5, forB GR [] (.name 5) b__law_grid_1 ((List.range' (rows - k) k).map fun i : Nat => (.int (i : Int) : D)) (S (.val (.list ((gridT d w h cols (rows - k)).map encT))) x5 x8) = some (.next (S (.val (.list ((gridT d w h cols rows).map encT))) y5 x8)) := by
    intro k
    induction k with
    | zero => intro _ x5 x8; exact ⟨x5, rfl⟩
    | succ k ih =>
      intro hk x5 x8
      have t := turn (rows - (k + 1)) (by omega) x8
      rw [show rows - (k + 1) + 1 = rows - k by omega] at t
      obtain ⟨y5, e⟩ := ih (by omega) (.val (.int ((rows - (k + 1) : Nat) : Int))) x8
      refine ⟨y5, ?_⟩
      rw [List.range'_succ, show rows - (k + 1) + 1 = rows - k by omega]
      exact forB_cons rfl t e
  have u : s__law_grid = run GR [] 4 9 b__law_grid := rfl
  rw [u]
  obtain ⟨y5, lp⟩ := loop rows (Nat.le_refl _) .no .no
  rw [Nat.sub_self, ← List.range_eq_range', ← rngL_nat] at lp
  refine run_ret rfl ?_
  refine exs_step (st' := S .no .no .no) (by simp [S, GR, ewh, o1, o2, sizeLine_eq]) ?_
  refine exs_step (ex_set (d := .list []) (by simp)) ?_
  refine exs_step (ex_for (ds := rngL 0 rows) (by simp [S, rR]) rfl lp) ?_
  exact exs_ret (ex_return rfl)
theorem known41 : s_lines_of [.int 2, .tuple [encL ⟨1, 0, 1⟩, encL ⟨1, 0, 1⟩], .list [.tuple [encL ⟨0, 0, 1⟩, encL ⟨0, 0, 1⟩, encL ⟨1, 0, 2⟩, encL ⟨1, 0, 1⟩], .tuple [encL ⟨1, 0, 2⟩, encL ⟨0, 0, 1⟩, encL ⟨1, 0, 2⟩, encL ⟨1, 0, 2⟩], .tuple [encL ⟨1, 0, 2⟩, encL ⟨1, 0, 2⟩, encL ⟨1, 0, 2⟩, encL ⟨1, 0, 2⟩]]] = some (.tuple [.list [encL ⟨1, 0, 2⟩], .list []]) ∧
    s_lines_of [.int 2, .tuple [encL ⟨1, 0, 1⟩, encL ⟨1, 0, 1⟩], .list [.tuple [encL ⟨0, 0, 1⟩, encL ⟨0, 0, 1⟩, encL ⟨1, 0, 1⟩, encL ⟨1, 0, 1⟩]]] = some (.tuple [.list [], .list []]) := by
  have g2 {x : Ln} (h : nfB 3 x = true) : Gd 3 x := nfB_gd h
  have z0 : Gd 3 ⟨0, 0, 1⟩ := g2 (by decide +kernel)
  have z1 : Gd 3 ⟨1, 0, 1⟩ := g2 (by decide +kernel)
  have zh : Gd 3 ⟨1, 0, 2⟩ := g2 (by decide +kernel)
  obtain ⟨D, hD⟩ : ∃ D : Dt, D.d = 2 := ⟨⟨2, ⟨1, by decide⟩⟩, rfl⟩
  have sd : Sz 6 D.d := by rw [hD]; unfold Sz; decide
  let z : QL D := ⟨⟨0, 0, 1⟩, z0.nf⟩
  let o : QL D := ⟨⟨1, 0, 1⟩, z1.nf⟩
  let f : QL D := ⟨⟨1, 0, 2⟩, zh.nf⟩
  have hz : z = 0 := QL.ext' rfl
  have pf : 0 < f := QL.pos_iff.mpr (by show 0 < sgL D.d ⟨1, 0, 2⟩; rw [hD]; decide +kernel)
  have fo : f < o := by
    rw [QL.lt_sub, QL.pos_iff]
    show 0 < sgL D.d (subL ⟨1, 0, 1⟩ ⟨1, 0, 2⟩)
    rw [hD]; decide +kernel
  have c0 : f * (((0 : Nat) : Int) : QL D) = z := by rw [cast_zero, hz]
  have c1 : f * (((1 : Nat) : Int) : QL D) = f := by
    rw [cast_succ, cast_zero]; grind
  have zf : z + f = f := by rw [hz]; grind
  have zo : z + o = o := by rw [hz]; grind
  have pzf : z < f := by rw [hz]; exact pf
  have nz : ¬ z < z := fun h => lt_irq h
  have nf : ¬ f < z := fun h => lt_irq (lt_trq h pzf)
  let M : List (TQ D) := [⟨z, z, f, o⟩, ⟨f, z, f, f⟩, ⟨f, f, f, f⟩]
  have lx : lnQ (wayX D).s (wayX D).e M = [f] := by
    rw [ln_grid pf (n := 2) (fun t ht => by
      simp only [M, List.mem_cons, List.not_mem_nil, or_false] at ht
      rcases ht with rfl | rfl | rfl
      · exact ⟨0, by decide, c0.symm, by rw [c0]; rfl⟩
      · exact ⟨1, by decide, c1.symm, by rw [c1]; rfl⟩
      · exact ⟨1, by decide, c1.symm, by rw [c1]; rfl⟩) (fun c hc => by
      match c, hc with
      | 0, _ => exact ⟨⟨z, z, f, o⟩, by simp [M], c0.symm⟩
      | 1, _ => exact ⟨⟨f, z, f, f⟩, by simp [M], c1.symm⟩)]
    show [f * (((1 : Nat) : Int) : QL D)] = [f]
    rw [c1]
  have ly : lnQ (wayY D).s (wayY D).e M = [] := by
    refine ln_nil (l := z) (List.mem_map.mpr ⟨_, List.mem_cons_self, rfl⟩) (fun t ht => ?_) fun t ht => ?_
    · simp only [M, List.mem_cons, List.not_mem_nil, or_false] at ht
      rcases ht with rfl | rfl | rfl
      · exact nz
      · exact nz
      · exact nf
    · simp only [M, List.mem_cons, List.not_mem_nil, or_false] at ht
      rcases ht with rfl | rfl | rfl
      · exact .inl rfl
      · exact .inl rfl
      · exact .inr ⟨⟨z, z, f, o⟩, by simp [M], pzf, by show f < z + o; rw [zo]; exact fo⟩
  have gM : ∀ t ∈ M, GT 3 t := fun t ht => by
    simp only [M, List.mem_cons, List.not_mem_nil, or_false] at ht
    rcases ht with rfl | rfl | rfl
    · exact ⟨z0, z0, zh, z1⟩
    · exact ⟨zh, z0, zh, zh⟩
    · exact ⟨zh, zh, zh, zh⟩
  let N : List (TQ D) := [⟨z, z, o, o⟩]
  have nx : lnQ (wayX D).s (wayX D).e N = [] := ln_nil (l := z) (List.mem_map.mpr ⟨_, List.mem_cons_self, rfl⟩) (fun t ht => by rw [List.mem_singleton.mp ht]; exact nz) fun t ht => by rw [List.mem_singleton.mp ht]; exact .inl rfl
  have ny : lnQ (wayY D).s (wayY D).e N = [] := ln_nil (l := z) (List.mem_map.mpr ⟨_, List.mem_cons_self, rfl⟩) (fun t ht => by rw [List.mem_singleton.mp ht]; exact nz) fun t ht => by rw [List.mem_singleton.mp ht]; exact .inl rfl
  have gN : ∀ t ∈ N, GT 3 t := fun t ht => by rw [List.mem_singleton.mp ht]; exact ⟨z0, z0, z1, z1⟩
  constructor
  · have e := e_lines_of sd (by decide) gM (by simp [M]) (by simp [M]) (.tuple [encL ⟨1, 0, 1⟩, encL ⟨1, 0, 1⟩])
    unfold lnD at e
    rw [lx, ly, hD] at e
    exact e
  · have e := e_lines_of sd (by decide) gN (by simp [N]) (by simp [N]) (.tuple [encL ⟨1, 0, 1⟩, encL ⟨1, 0, 1⟩])
    unfold lnD at e
    rw [nx, ny, hD] at e
    exact e
section
variable {D : Dt}
theorem tiles41 (hm : D.d ∈ rootsT) {W H : QL D} (gW : Gd 6 W.v) (gH : Gd 6 H.v) (pW : 0 < W) (pH : 0 < H) (X : List Int) (hX : X.length = 6) (h0 : DrOk X) (many : Nat) (hmany : many ≤ 8) :
    ∃ M : List (TQ D), Rect 0 W 0 H M ∧ (∀ t ∈ M, GT 800 t) ∧ (many ≤ 3 → ∀ t ∈ M, GT 200 t) ∧ 1 ≤ M.length ∧ M.length ≤ 33 ∧ s__law_tiles [.int D.d, .tuple [encL W.v, encL H.v], .list (X.map .int), .int (many : Int)] = some (encQ M) := by
  obtain ⟨ts, ct, et⟩ := e_tiles hm gW gH X h0 hX many (by omega)
  have ok := ct.ok D.ns.pos (shares_small hm) gW gH
  have cl := ct.len
  obtain ⟨M0, e0, rc0⟩ := cutT_rect hm pW pH ct
  obtain ⟨M, pM, eM, -⟩ := ordO_lift M0
  have rc := rect_perm pM.symm rc0
  have lM : M.length = ts.length := by
    have := congrArg List.length e0
    rw [List.length_map] at this
    rw [pM.length_eq]; exact this
  have okM : ∀ t ∈ M, TOk (6 + 7 * many) (6 + 25 * many + 9 * (many * many)) (tV t) := fun t ht => ok (tV t) (by rw [← e0]; exact List.mem_map_of_mem (pM.mem_iff.mp ht))
  have mm : many * many ≤ 64 := Nat.mul_le_mul hmany hmany
  refine ⟨M, rc, fun t ht => ?_, fun h3 t ht => ?_, by omega, by omega, ?_⟩
  · have o := okM t ht
    exact ⟨o.x.mono (by omega), o.y.mono (by omega), o.w.mono (by omega), o.h.mono (by omega)⟩
  · have m3 : many * many ≤ 9 := Nat.mul_le_mul h3 h3
    have o := okM t ht
    exact ⟨o.x.mono (by omega), o.y.mono (by omega), o.w.mono (by omega), o.h.mono (by omega)⟩
  · rw [et]
    unfold encQ
    rw [eM, e0]
end
theorem law_true (ns : List Int) (hl : ns.length ≤ 63) : s_law [.dict [(.none, .list (ns.map .int))]] = some (.bool true) := by
  obtain ⟨l, hlen, hdr, hdw⟩ := e_draws ns 40 (by decide)
  have at' : ∀ i : Nat, i < 40 → ∃ v, atI l (i : Int) = some v := fun i hi => by
    obtain ⟨v, -, -, h⟩ := at_nat hdr (i := i) (by omega)
    exact ⟨v, h⟩
  obtain ⟨v0, hv0⟩ := at' 0 (by decide)
  obtain ⟨v13, hv13⟩ := at' 13 (by decide)
  obtain ⟨v14, hv14⟩ := at' 14 (by decide)
  obtain ⟨v24, hv24⟩ := at' 24 (by decide)
  obtain ⟨v25, hv25⟩ := at' 25 (by decide)
  obtain ⟨v26, hv26⟩ := at' 26 (by decide)
  obtain ⟨v27, hv27⟩ := at' 27 (by decide)
  have hv0 : atI l 0 = some v0 := hv0
  have hv13 : atI l 13 = some v13 := hv13
  have hv14 : atI l 14 = some v14 := hv14
  have hv24 : atI l 24 = some v24 := hv24
  have hv25 : atI l 25 = some v25 := hv25
  have hv26 : atI l 26 = some v26 := hv26
  have hv27 : atI l 27 = some v27 := hv27
  obtain ⟨d, hm, er⟩ := e_law_root v0
  obtain ⟨hd, sd⟩ := rootT_ns hm
  have f13 := fmod_bd v13 (m := 5) (by decide)
  have f24 := fmod_bd v24 (m := 4) (by decide)
  have cut6 : ∀ i : Nat, i + 6 ≤ 40 → ∃ xs : List Int, xs.length = 6 ∧ (∀ x ∈ xs, x ∈ l) ∧ cutL (l.map PyData.int) (some (i : Int)) (some ((i : Int) + 6)) = xs.map .int := fun i hi => by
    have := cut_ints l i (i + 6) (by omega) (by omega)
    rw [show ((i + 6 : Nat) : Int) = (i : Int) + 6 by omega] at this
    exact ⟨_, by simp; omega, fun x hx => List.mem_of_mem_drop (List.mem_of_mem_take hx), this⟩
  obtain ⟨X1, hX1, -, k1⟩ := cut6 1 (by decide)
  have k1 : cutL (l.map PyData.int) (some 1) (some 7) = X1.map .int := k1
  obtain ⟨X2, hX2, mX2, k2⟩ := cut6 7 (by decide)
  have k2 : cutL (l.map PyData.int) (some 7) (some 13) = X2.map .int := k2
  obtain ⟨X3, hX3, mX3, k3⟩ := cut6 18 (by decide)
  have k3 : cutL (l.map PyData.int) (some 18) (some 24) = X3.map .int := k3
  obtain ⟨a4, b4, c4, -, -, -, k4⟩ := dig3 l 15 (by omega)
  have k4 : cutL (l.map PyData.int) (some 15) (some 18) = [.int a4, .int b4, .int c4] := k4
  obtain ⟨w, h, gw, gh, pw, ph, es⟩ := e_sheet hd sd X1 (by omega)
  obtain ⟨k, gk, pk, ek⟩ := e_law_above hd sd a4 b4 c4 []
  obtain ⟨D, rfl⟩ : ∃ D : Dt, D.d = d := ⟨⟨d, hd⟩, rfl⟩
  obtain ⟨W, rfl⟩ : ∃ W : QL D, W.v = w := ⟨⟨w, gw.nf⟩, rfl⟩
  obtain ⟨H, rfl⟩ : ∃ W : QL D, W.v = h := ⟨⟨h, gh.nf⟩, rfl⟩
  obtain ⟨K, rfl⟩ : ∃ W : QL D, W.v = k := ⟨⟨k, gk.nf⟩, rfl⟩
  have pW : 0 < W := QL.pos_iff.mpr pw
  have pH : 0 < H := QL.pos_iff.mpr ph
  have pK : 0 < K := QL.pos_iff.mpr pk
  obtain ⟨q, hq⟩ : ∃ q : Int, q = (if v14.fmod 8 = 3 then 1 else 0) := ⟨_, rfl⟩
  have hq01 : q = 0 ∨ q = 1 := by rw [hq]; split <;> simp
  have m4 : mulOk 4 q = true := mulOk_bd (by decide) (by decide) (by omega) (by omega)
  obtain ⟨many, hmany, hmany'⟩ : ∃ n : Nat, v13.fmod 5 + 4 * q = (n : Int) ∧ n ≤ 8 := ⟨(v13.fmod 5 + 4 * q).toNat, by omega, by omega⟩
  obtain ⟨n24, e24, l24⟩ : ∃ n : Nat, v24.fmod 4 = (n : Int) ∧ n ≤ 3 := ⟨(v24.fmod 4).toNat, by omega, by omega⟩
  have dr : ∀ {X : List Int}, (∀ x ∈ X, x ∈ l) → DrOk X := fun h x hx => hdr x (h x hx)
  obtain ⟨L, rL, gL, -, L1, lL, tL⟩ := tiles41 hm gw gh pW pH X2 hX2 (dr mX2) many hmany'
  obtain ⟨M, rM, -, gM, M1, lM, tM⟩ := tiles41 hm gk gh pK pH X3 hX3 (dr mX3) n24 (by omega)
  have gM := gM l24
  have t1 := told41 sd (n := 800) (by decide) (a := W.v) (b := H.v) gL L1 (by omega)
  -- beside each other
  have gz : Gd 6 (⟨0, 0, 1⟩ : Ln) := gd_whl (n := 6) (p := 0) (by unfold Sz; decide) (by decide)
  have mv : s__law_moved [.int D.d, encQ M, encL W.v, encL (0 : QL D).v] = some (encQ (M.map (mvQ W 0))) := e_movedL sd (gw.mono (show 6 ≤ 60 by decide)) (gz.mono (show 6 ≤ 60 by decide)) (show 200 + 60 < 7900 by omega) gM
  have gJ : ∀ t ∈ L ++ M.map (mvQ W 0), GT 800 t := fun t ht => by
    rcases List.mem_append.mp ht with ht | ht
    · exact gL t ht
    · obtain ⟨u, hu, rfl⟩ := List.mem_map.mp ht
      have g := gM u hu
      exact ⟨(gd_add g.x gw).mono (by decide), (gd_add g.y (show Gd 6 (0 : QL D).v from gz)).mono (by decide), g.w.mono (by decide), g.h.mono (by decide)⟩
  obtain ⟨N, pN, -, io⟩ := e_inL sd (n := 800) (by omega) gJ (by simp; omega)
  have lN : N.length = L.length + M.length := by rw [pN.length_eq, List.length_append, List.length_map]
  have t2 := told41 sd (n := 800) (by decide) (a := (W + K).v) (b := H.v) (M := N) (fun t ht => gJ t (pN.mem_iff.mp ht)) (by omega) (by omega)
  have sm := seam pW pK pH rL rM pN
  have wl := ln_len (s := (wayX D).s) (e := (wayX D).e) (M := N) (by omega)
  have inW : inD (encL W.v) (lnD (wayX D) N) = some true := by
    have := inD_eX W (lnQ (wayX D).s (wayX D).e N) (by omega)
    rw [decide_eq_true (mem_v.mpr sm)] at this
    exact this
  have ad := e_law_add gw gk (by decide)
  rw [show addL W.v K.v = (W + K).v from rfl] at ad
  have eL : encQ L = .list ((L.map tV).map encT) := rfl
  have eJ : encQ (L ++ M.map (mvQ W 0)) = .list ((L.map tV).map encT ++ ((M.map (mvQ W 0)).map tV).map encT) := by
    unfold encQ
    rw [List.map_append, List.map_append]
  rw [eJ] at io
  have adq : o2D .add (encQ L) (encQ (M.map (mvQ W 0))) = some (.list ((L.map tV).map encT ++ ((M.map (mvQ W 0)).map tV).map encT)) := add_list (by simp; omega)
  obtain ⟨JJ, hJ⟩ : ∃ JJ, JJ = (L.map tV).map encT ++ ((M.map (mvQ W 0)).map tV).map encT := ⟨_, rfl⟩
  rw [← hJ] at io adq
  -- a grid
  obtain ⟨cols, rows, hcr, hc1, hc2, hr1, hr2⟩ : ∃ cols rows : Nat, ((v27.fmod 16 = 3 → 1 + v25.fmod 10 = (cols : Int) ∧ 1 + v26.fmod 6 = (rows : Int)) ∧ (¬ v27.fmod 16 = 3 → 1 + v25.fmod 5 = (cols : Int) ∧ 1 + v26.fmod 4 = (rows : Int))) ∧ 1 ≤ cols ∧ cols ≤ 10 ∧ 1 ≤ rows ∧ rows ≤ 6 := by
    have g1 := fmod_bd v25 (m := 10) (by decide)
    have g2 := fmod_bd v26 (m := 6) (by decide)
    have g3 := fmod_bd v25 (m := 5) (by decide)
    have g4 := fmod_bd v26 (m := 4) (by decide)
    by_cases c : v27.fmod 16 = 3
    · exact ⟨(1 + v25.fmod 10).toNat, (1 + v26.fmod 6).toNat, ⟨fun _ => ⟨by omega, by omega⟩, fun h => absurd c h⟩, by omega, by omega, by omega, by omega⟩
    · exact ⟨(1 + v25.fmod 5).toNat, (1 + v26.fmod 4).toNat, ⟨fun h => absurd h c, fun _ => ⟨by omega, by omega⟩⟩, by omega, by omega, by omega, by omega⟩
  have zA : (((cols : Int)) : QL D) ≠ 0 := QL.int_ne (by omega)
  have zB : (((rows : Int)) : QL D) ≠ 0 := QL.int_ne (by omega)
  have lcr : cols * rows ≤ 60 := Nat.mul_le_mul hc2 hr2
  have lcr1 : 1 ≤ cols * rows := Nat.mul_le_mul hc1 hr1
  have eg := e_law_grid D.ns sd gw gh (by decide) hc1 hr1 (by omega) (by omega) (cols := cols) (rows := rows) (by omega)
  rw [show divL D.d W.v ⟨(cols : Int), 0, 1⟩ = (W / ((cols : Int) : QL D)).v from divL_v W _ zA, show divL D.d H.v ⟨(rows : Int), 0, 1⟩ = (H / ((rows : Int) : QL D)).v from divL_v H _ zB, ← gridQ_tV] at eg
  have wh : ∀ n : Nat, n ≤ 12 → Gd 5 (((n : Int) : QL D)).v := fun n hn => by
    have p5 : (2 : Nat) ^ 5 = 32 := by decide
    exact gd_whl (n := 5) (p := (n : Int)) (by unfold Sz; omega) (by decide)
  have gww : Gd 60 (W / ((cols : Int) : QL D)).v := by
    rw [← divL_v W _ zA]
    exact (gd_div D.ns sd gw (wh cols (by omega)) (QL.ne_zero.mp zA)).mono (by decide)
  have ghh : Gd 60 (H / ((rows : Int) : QL D)).v := by
    rw [← divL_v H _ zB]
    exact (gd_div D.ns sd gh (wh rows (by omega)) (QL.ne_zero.mp zB)).mono (by decide)
  have pw' := div_pos' pW (QL.int_pos (D := D) (i := (cols : Int)) (by omega))
  have ph' := div_pos' pH (QL.int_pos (D := D) (i := (rows : Int)) (by omega))
  obtain ⟨n1, n2⟩ := grid_lines pw' ph' hc1 hr1
  obtain ⟨C, hC⟩ : ∃ C, C = gridQ (W / ((cols : Int) : QL D)) (H / ((rows : Int) : QL D)) cols rows := ⟨_, rfl⟩
  rw [← hC] at eg n1 n2
  have lC : C.length = cols * rows := by rw [hC, gridQ_len]
  have eg : s__law_grid [.int D.d, .tuple [encL W.v, encL H.v], .int (cols : Int), .int (rows : Int)] = some (encQ C) := eg
  have gC : ∀ t ∈ C, GT 800 t := fun t ht => by
    rw [hC] at ht
    obtain ⟨c, r, h1, h2, rfl⟩ := gridQ_mem ht
    exact ⟨(gd_mul sd gww (wh c (by omega))).mono (by decide), (gd_mul sd ghh (wh r (by omega))).mono (by decide), gww.mono (by decide), ghh.mono (by decide)⟩
  have t3 := told41 sd (n := 800) (by decide) (a := W.v) (b := H.v) gC (by omega) (by omega)
  -- a wheel
  have oT : TOk 6 6 (tV (⟨0, 0, W, H⟩ : TQ D)) := ⟨gz, gz, gw, gh⟩
  have ew := e_wheel sd oT (by decide)
  obtain ⟨u, v, pu, pv, eP⟩ := wheel_list pW pH
  obtain ⟨x0, y0⟩ := wheel_lines pu pv
  obtain ⟨PQ, hPQ⟩ : ∃ PQ, PQ = [(⟨0, 0, u + u, v⟩ : TQ D), ⟨0 + (u + u), 0, u, v + v⟩, ⟨0 + u, 0 + (v + v), u + u, v⟩, ⟨0, 0 + v, u, v + v⟩, ⟨0 + u, 0 + v, u, v⟩] := ⟨_, rfl⟩
  have lP : PQ.length = 5 := by rw [hPQ]; rfl
  rw [← hPQ] at eP x0 y0
  have gP : ∀ t ∈ PQ, GT 100 t := fun t ht => by
    have o := wheel_ok D.ns.pos oT (tV t) (by rw [← eP]; exact List.mem_map_of_mem ht)
    exact ⟨o.x.mono (by decide), o.y.mono (by decide), o.w.mono (by decide), o.h.mono (by decide)⟩
  obtain ⟨Nw, pw1, -, eNw⟩ := e_inL sd (show 100 + 100 < 2900 by decide) gP (by omega)
  have lNw : Nw.length = 5 := by rw [pw1.length_eq]; exact lP
  have ew' : s__law_wheel [.int D.d, .tuple [encL ⟨0, 0, 1⟩, encL ⟨0, 0, 1⟩, encL W.v, encL H.v]] = some (encQ PQ) := by
    unfold encQ
    rw [eP]
    exact ew
  have t4 := told41 sd (n := 100) (by decide) (a := W.v) (b := H.v) (M := Nw) (fun t ht => gP t (pw1.mem_iff.mp ht)) (by omega) (by omega)
  have t4 : s__law_told [.int D.d, .tuple [encL W.v, encL H.v], encQ Nw] = some (.tuple [.list [], .list []]) := by
    rw [t4]
    unfold twoD lnD
    rw [ln_perm pw1, ln_perm pw1, x0, y0]
    rfl
  have e3l (p q s : Int) : (.tuple [.int p, .int q, .int s] : PL.D) = encL ⟨p, q, s⟩ := rfl
  have i0 (a b : PL.D) : ixD (.tuple [a, b]) (.int 0) = some a := rfl
  have i1 (a b : PL.D) : ixD (.tuple [a, b]) (.int 1) = some b := rfl
  have w0 : encL (0 : QL D).v = encL ⟨0, 0, 1⟩ := rfl
  rw [w0] at mv
  have pE : Pl 4 (.tuple [.list [], .list []]) := by
    refine .tuple _ (by simp) fun y hy => ?_
    simp only [List.mem_cons, List.not_mem_nil, or_false] at hy
    rcases hy with rfl | rfl <;> exact pl_nil3
  have eE1 := pl_eqOk pE pE (by decide)
  have eE2 := pl_eqv pE
  have pF : Pl 4 (.tuple [.list [encL ⟨1, 0, 2⟩], .list []]) := by
    refine .tuple _ (by simp) fun y hy => ?_
    simp only [List.mem_cons, List.not_mem_nil, or_false] at hy
    rcases hy with rfl | rfl
    · exact .list _ (by simp) fun z hz => by rw [List.mem_singleton.mp hz]; exact pl_encL 1 _
    · exact pl_nil3
  have eF1 := pl_eqOk pF pF (by decide)
  have eF2 := pl_eqv pF
  have pG : Pl 1 (.list [.int ((cols : Int) - 1), .int ((rows : Int) - 1)]) := by
    refine .list _ (by simp) fun y hy => ?_
    simp only [List.mem_cons, List.not_mem_nil, or_false] at hy
    rcases hy with rfl | rfl <;> exact .int _
  have eG1 := pl_eqOk pG pG (by decide)
  have eG2 := pl_eqv pG
  have ln1 : ((lnQ (wayX D).s (wayX D).e C).length : Int) = (cols : Int) - 1 := by rw [n1]; omega
  have ln2 : ((lnQ (wayY D).s (wayY D).e C).length : Int) = (rows : Int) - 1 := by rw [n2]; omega
  have le1 : ∀ st : Sto, o1D .len (lnD (wayX D) C) = some (.int ((cols : Int) - 1)) := fun _ => by
    unfold lnD
    rw [← ln1]
    simp
  have le2 : ∀ st : Sto, o1D .len (lnD (wayY D) C) = some (.int ((rows : Int) - 1)) := fun _ => by
    unfold lnD
    rw [← ln2]
    simp
  have le1 := le1 []
  have le2 := le2 []
  obtain ⟨kn1, kn2⟩ := known41
  unfold twoD at t1 t2 t3
  generalize lnD (wayX D) C = C1 at t3 le1
  generalize lnD (wayY D) C = C2 at t3 le2
  generalize lnD (wayX D) N = N1 at t2 inW
  generalize lnD (wayY D) N = N2 at t2
  generalize lnD (wayX D) L = L1' at t1
  generalize lnD (wayY D) L = L2' at t1
  refine run_ret rfl ?_
  refine exs_step (ex_set (ev_call (f := s__law_draws) rfl rfl hdw)) ?_
  refine exs_step (ex_set (d := .int D.d) (by simp [hv0, er])) ?_
  refine exs_step (ex_set (d := .tuple [encL W.v, encL H.v]) (by simp [k1, es])) ?_
  refine exs_step (ex_set (d := encQ L) (by simp [k2, hv13, hv14, tL, hmany, ← hq, m4])) ?_
  refine exs_step (ex_else (b := .nil) (by simp [t1, isD]) rfl) ?_
  refine exs_step (ex_set (d := .tuple [encL K.v, encL H.v]) (by simp [-ixD, i1, k4, ek, sizeLine_eq])) ?_
  refine exs_step (ex_set (d := encQ M) (by simp [k3, hv24, e24, tM])) ?_
  refine exs_step (ex_set (d := .tuple [encL (W + K).v, encL H.v]) (by simp [-ixD, i0, i1, ad, sizeLine_eq])) ?_
  refine exs_step (ex_set (d := encQ N) (by simp [-ixD, -o2D, i0, e3l, mv, adq, io, sizeLine_eq])) ?_
  refine exs_step (ex_set (d := .tuple [N1, N2]) (by simp [t2])) ?_
  refine exs_step (ex_else (b := .nil) (by simp [-ixD, -inD, isD, i0, inW]) rfl) ?_
  refine exs_step (ex_par2 (x := .int (1 + v25.fmod 5)) (y := .int (1 + v26.fmod 4)) (by simp [hv25]) (by simp [hv26])) ?_
  let st : Sto := [.val (.dict [(.none, .list (ns.map .int))]), .val (.list (l.map .int)), .val (.int D.d), .val (.tuple [encL W.v, encL H.v]), .val (encQ L), .val (.tuple [encL K.v, encL H.v]), .val (encQ M), .val (.tuple [encL (W + K).v, encL H.v]), .val (encQ N), .val (.tuple [N1, N2]), .no, .val (.int (cols : Int)), .val (.int (rows : Int)), .no, .no, .no]
  refine exs_step (show ex _ [] _ _ = some (.next st) from ?_) ?_
  · by_cases c : v27.fmod 16 = 3
    · obtain ⟨q1, q2⟩ := hcr.1 c
      refine ex_then (by simp [hv27, c]) (exs_step (ex_par2 (x := .int (1 + v25.fmod 10)) (y := .int (1 + v26.fmod 6)) (by simp [hv25]) (by simp [hv26])) ?_)
      rw [q1, q2]; rfl
    · obtain ⟨q1, q2⟩ := hcr.2 c
      refine ex_else (by simp [hv27, c]) ?_
      rw [q1, q2]; rfl
  refine exs_step (ex_set (d := .tuple [C1, C2]) (by simp [-ixD, st, eg, t3])) ?_
  refine exs_step (ex_else (b := .nil) (by simp [-ixD, -o1D, st, isD, i0, i1, le1, le2, eG1, eG2, sizeLine_eq]) rfl) ?_
  refine exs_step (ex_set (d := encQ Nw) (by simp [-ixD, st, i0, i1, e3l, ew', eNw, sizeLine_eq])) ?_
  refine exs_step (ex_else (b := .nil) (by simp [st, t4, eE1, eE2, sizeLine_eq]) rfl) ?_
  let st2 : Sto := [.val (.dict [(.none, .list (ns.map .int))]), .val (.list (l.map .int)), .val (.int D.d), .val (.tuple [encL W.v, encL H.v]), .val (encQ L), .val (.tuple [encL K.v, encL H.v]), .val (encQ M), .val (.tuple [encL (W + K).v, encL H.v]), .val (encQ N), .val (.tuple [C1, C2]), .val (encQ Nw), .val (.int (cols : Int)), .val (.int (rows : Int)), .val (encL ⟨1, 0, 1⟩), .val (encL ⟨0, 0, 1⟩), .val (encL ⟨1, 0, 2⟩)]
  refine exs_step (show ex _ [] _ _ = some (.next st2) by simp [st, st2, encL, sizeLine_eq]) ?_
  refine exs_step (ex_else (b := .nil) (by simp [st2, kn1, eF1, eF2, sizeLine_eq]) rfl) ?_
  exact exs_ret (ex_return (by simp [st2, kn2, eE1, eE2, sizeLine_eq]))
end PL
namespace PL
open PySem PySem.Spec PyProof.Rows L2
def topS (i : Nat) : Stmt := PySem.Challenge.pw_likesheets_k41_edge_to_edge_lines.main.body.getD i (.Pass ⟨0, 0, 0, 0⟩)
abbrev bs : List Str := ["abs", "bool", "int", "isinstance", "len", "list", "range", "tuple"]
theorem sc__law_draws : FnScope ["script", "many", "found", "cell", "k", "number", "mixed", "base"] ["script", "many"] (defScope (topS 24)) := ⟨rfl, rfl, rfl, by decide +kernel, rfl, by decide +kernel, by decide +kernel⟩
theorem ck__law_draws : chkSs ["script", "many", "found", "cell", "k", "number", "mixed", "base"] bs [] [] (defScope (topS 24)) b__law_draws (defBody (topS 24)) = true := by decide +kernel
theorem sc__law_root : FnScope ["digit"] ["digit"] (defScope (topS 35)) := ⟨rfl, rfl, rfl, by decide +kernel, rfl, by decide +kernel, by decide +kernel⟩
theorem ck__law_root : chkSs ["digit"] bs [] [] (defScope (topS 35)) b__law_root (defBody (topS 35)) = true := by decide +kernel
theorem sc__law_gcd : FnScope ["first", "second"] ["first", "second"] (defScope (topS 27)) := ⟨rfl, rfl, rfl, by decide +kernel, rfl, by decide +kernel, by decide +kernel⟩
theorem ck__law_gcd : chkSs ["first", "second"] bs [] [] (defScope (topS 27)) b__law_gcd (defBody (topS 27)) = true := by decide +kernel
theorem sc__law_norm : FnScope ["p", "q", "s", "divisor"] ["p", "q", "s"] (defScope (topS 28)) := ⟨rfl, rfl, rfl, by decide +kernel, rfl, by decide +kernel, by decide +kernel⟩
theorem ck__law_norm : chkSs ["p", "q", "s", "divisor"] bs ["_law_gcd"] [] (defScope (topS 28)) b__law_norm (defBody (topS 28)) = true := by decide +kernel
theorem sc__law_number : FnScope ["digits"] ["digits"] (defScope (topS 37)) := ⟨rfl, rfl, rfl, by decide +kernel, rfl, by decide +kernel, by decide +kernel⟩
theorem ck__law_number : chkSs ["digits"] bs ["_law_norm"] [] (defScope (topS 37)) b__law_number (defBody (topS 37)) = true := by decide +kernel
theorem sc__law_sign : FnScope ["root", "number", "p", "q", "first", "second"] ["root", "number"] (defScope (topS 33)) := ⟨rfl, rfl, rfl, by decide +kernel, rfl, by decide +kernel, by decide +kernel⟩
theorem ck__law_sign : chkSs ["root", "number", "p", "q", "first", "second"] bs [] [] (defScope (topS 33)) b__law_sign (defBody (topS 33)) = true := by decide +kernel
theorem sc__law_above : FnScope ["root", "digits", "number"] ["root", "digits"] (defScope (topS 38)) := ⟨rfl, rfl, rfl, by decide +kernel, rfl, by decide +kernel, by decide +kernel⟩
theorem ck__law_above : chkSs ["root", "digits", "number"] bs ["_law_number", "_law_sign"] [] (defScope (topS 38)) b__law_above (defBody (topS 38)) = true := by decide +kernel
theorem sc__law_sheet : FnScope ["root", "digits"] ["root", "digits"] (defScope (topS 46)) := ⟨rfl, rfl, rfl, by decide +kernel, rfl, by decide +kernel, by decide +kernel⟩
theorem ck__law_sheet : chkSs ["root", "digits"] bs ["_law_above"] [] (defScope (topS 46)) b__law_sheet (defBody (topS 46)) = true := by decide +kernel
theorem sc__law_times : FnScope ["root", "first", "second", "p"] ["root", "first", "second"] (defScope (topS 31)) := ⟨rfl, rfl, rfl, by decide +kernel, rfl, by decide +kernel, by decide +kernel⟩
theorem ck__law_times : chkSs ["root", "first", "second", "p"] bs ["_law_norm"] [] (defScope (topS 31)) b__law_times (defBody (topS 31)) = true := by decide +kernel
theorem sc__law_by : FnScope ["root", "first", "second", "under"] ["root", "first", "second"] (defScope (topS 32)) := ⟨rfl, rfl, rfl, by decide +kernel, rfl, by decide +kernel, by decide +kernel⟩
theorem ck__law_by : chkSs ["root", "first", "second", "under"] bs ["_law_times", "_law_norm"] [] (defScope (topS 32)) b__law_by (defBody (topS 32)) = true := by decide +kernel
theorem sc__law_add : FnScope ["first", "second"] ["first", "second"] (defScope (topS 29)) := ⟨rfl, rfl, rfl, by decide +kernel, rfl, by decide +kernel, by decide +kernel⟩
theorem ck__law_add : chkSs ["first", "second"] bs ["_law_norm"] [] (defScope (topS 29)) b__law_add (defBody (topS 29)) = true := by decide +kernel
theorem sc__law_minus : FnScope ["first", "second"] ["first", "second"] (defScope (topS 30)) := ⟨rfl, rfl, rfl, by decide +kernel, rfl, by decide +kernel, by decide +kernel⟩
theorem ck__law_minus : chkSs ["first", "second"] bs ["_law_add"] [] (defScope (topS 30)) b__law_minus (defBody (topS 30)) = true := by decide +kernel
theorem sc__law_halved : FnScope ["root", "tile", "digits", "share", "part", "x", "y", "w", "h"] ["root", "tile", "digits"] (defScope (topS 42)) := ⟨rfl, rfl, rfl, by decide +kernel, rfl, by decide +kernel, by decide +kernel⟩
theorem ck__law_halved : chkSs ["root", "tile", "digits", "share", "part", "x", "y", "w", "h"] bs ["_law_by", "_law_times", "_law_minus", "_law_add"] [] (defScope (topS 42)) b__law_halved (defBody (topS 42)) = true := by decide +kernel
theorem sc__law_wheel : FnScope ["root", "tile", "third", "found", "x", "y", "w", "h", "a", "b", "c", "d", "left", "low"] ["root", "tile"] (defScope (topS 43)) := ⟨rfl, rfl, rfl, by decide +kernel, rfl, by decide +kernel, by decide +kernel⟩
theorem ck__law_wheel : chkSs ["root", "tile", "third", "found", "x", "y", "w", "h", "a", "b", "c", "d", "left", "low"] bs ["_law_times", "_law_add"] [] (defScope (topS 43)) b__law_wheel (defBody (topS 43)) = true := by decide +kernel
theorem sc__law_less : FnScope ["root", "first", "second"] ["root", "first", "second"] (defScope (topS 34)) := ⟨rfl, rfl, rfl, by decide +kernel, rfl, by decide +kernel, by decide +kernel⟩
theorem ck__law_less : chkSs ["root", "first", "second"] bs ["_law_sign", "_law_minus"] [] (defScope (topS 34)) b__law_less (defBody (topS 34)) = true := by decide +kernel
theorem sc__law_before : FnScope ["root", "tile", "other"] ["root", "tile", "other"] (defScope (topS 40)) := ⟨rfl, rfl, rfl, by decide +kernel, rfl, by decide +kernel, by decide +kernel⟩
theorem ck__law_before : chkSs ["root", "tile", "other"] bs ["_law_less"] [] (defScope (topS 40)) b__law_before (defBody (topS 40)) = true := by decide +kernel
theorem sc__law_in_order : FnScope ["root", "tiles", "found", "tile", "less", "other"] ["root", "tiles"] (defScope (topS 41)) := ⟨rfl, rfl, rfl, by decide +kernel, rfl, by decide +kernel, by decide +kernel⟩
theorem ck__law_in_order : chkSs ["root", "tiles", "found", "tile", "less", "other"] bs ["_law_before"] [] (defScope (topS 41)) b__law_in_order (defBody (topS 41)) = true := by decide +kernel
theorem sc__law_tiles : FnScope ["root", "sheet", "digits", "many", "tiles", "k", "digit", "at", "parts"] ["root", "sheet", "digits", "many"] (defScope (topS 44)) := ⟨rfl, rfl, rfl, by decide +kernel, rfl, by decide +kernel, by decide +kernel⟩
theorem ck__law_tiles : chkSs ["root", "sheet", "digits", "many", "tiles", "k", "digit", "at", "parts"] bs ["_law_halved", "_law_wheel", "_law_in_order"] [] (defScope (topS 44)) b__law_tiles (defBody (topS 44)) = true := by decide +kernel
theorem sc__law_sorted : FnScope ["root", "numbers", "found", "number", "less", "other"] ["root", "numbers"] (defScope (topS 50)) := ⟨rfl, rfl, rfl, by decide +kernel, rfl, by decide +kernel, by decide +kernel⟩
theorem ck__law_sorted : chkSs ["root", "numbers", "found", "number", "less", "other"] bs ["_law_less"] [] (defScope (topS 50)) b__law_sorted (defBody (topS 50)) = true := by decide +kernel
theorem sc__law_ends : FnScope ["tile"] ["tile"] (defScope (topS 39)) := ⟨rfl, rfl, rfl, by decide +kernel, rfl, by decide +kernel, by decide +kernel⟩
theorem ck__law_ends : chkSs ["tile"] bs ["_law_add"] [] (defScope (topS 39)) b__law_ends (defBody (topS 39)) = true := by decide +kernel
theorem sc__law_lines : FnScope ["root", "tiles", "k", "starts", "found", "at", "crossing", "tile"] ["root", "tiles", "k"] (defScope (topS 51)) := ⟨rfl, rfl, rfl, by decide +kernel, rfl, by decide +kernel, by decide +kernel⟩
theorem ck__law_lines : chkSs ["root", "tiles", "k", "starts", "found", "at", "crossing", "tile"] bs ["_law_sorted", "_law_less", "_law_ends"] [] (defScope (topS 51)) b__law_lines (defBody (topS 51)) = true := by decide +kernel
theorem sc__law_copied : FnScope ["tiles", "tile"] ["tiles"] (defScope (topS 45)) := ⟨rfl, rfl, rfl, by decide +kernel, rfl, by decide +kernel, by decide +kernel⟩
theorem ck__law_copied : chkSs ["tiles", "tile"] bs [] [] (defScope (topS 45)) b__law_copied (defBody (topS 45)) = true := by decide +kernel
theorem sc_side_at : FnScope ["kind"] ["kind"] (defScope (topS 14)) := ⟨rfl, rfl, rfl, by decide +kernel, rfl, by decide +kernel, by decide +kernel⟩
theorem ck_side_at : chkSs ["kind"] bs [] ["Y"] (defScope (topS 14)) b_side_at (defBody (topS 14)) = true := by decide +kernel
theorem sc_start_of : FnScope ["kind", "tile"] ["kind", "tile"] (defScope (topS 15)) := ⟨rfl, rfl, rfl, by decide +kernel, rfl, by decide +kernel, by decide +kernel⟩
theorem ck_start_of : chkSs ["kind", "tile"] bs ["side_at"] [] (defScope (topS 15)) b_start_of (defBody (topS 15)) = true := by decide +kernel
theorem sc_sign_of_number : FnScope ["number"] ["number"] (defScope (topS 8)) := ⟨rfl, rfl, rfl, by decide +kernel, rfl, by decide +kernel, by decide +kernel⟩
theorem ck_sign_of_number : chkSs ["number"] bs [] [] (defScope (topS 8)) b_sign_of_number (defBody (topS 8)) = true := by decide +kernel
theorem sc_sign_of : FnScope ["root", "number", "p", "q", "s"] ["root", "number"] (defScope (topS 9)) := ⟨rfl, rfl, rfl, by decide +kernel, rfl, by decide +kernel, by decide +kernel⟩
theorem ck_sign_of : chkSs ["root", "number", "p", "q", "s"] bs ["sign_of_number"] [] (defScope (topS 9)) b_sign_of (defBody (topS 9)) = true := by decide +kernel
theorem sc_common_divisor : FnScope ["first", "second"] ["first", "second"] (defScope (topS 1)) := ⟨rfl, rfl, rfl, by decide +kernel, rfl, by decide +kernel, by decide +kernel⟩
theorem ck_common_divisor : chkSs ["first", "second"] bs [] [] (defScope (topS 1)) b_common_divisor (defBody (topS 1)) = true := by decide +kernel
theorem sc_common_of_three : FnScope ["p", "q", "s"] ["p", "q", "s"] (defScope (topS 2)) := ⟨rfl, rfl, rfl, by decide +kernel, rfl, by decide +kernel, by decide +kernel⟩
theorem ck_common_of_three : chkSs ["p", "q", "s"] bs ["common_divisor"] [] (defScope (topS 2)) b_common_of_three (defBody (topS 2)) = true := by decide +kernel
theorem sc_length : FnScope ["p", "q", "s", "divisor"] ["p", "q", "s"] (defScope (topS 3)) := ⟨rfl, rfl, rfl, by decide +kernel, rfl, by decide +kernel, by decide +kernel⟩
theorem ck_length : chkSs ["p", "q", "s", "divisor"] bs ["common_of_three"] [] (defScope (topS 3)) b_length (defBody (topS 3)) = true := by decide +kernel
theorem sc_plus : FnScope ["first", "second", "p", "q", "s", "other_p", "other_q", "other_s"] ["first", "second"] (defScope (topS 4)) := ⟨rfl, rfl, rfl, by decide +kernel, rfl, by decide +kernel, by decide +kernel⟩
theorem ck_plus : chkSs ["first", "second", "p", "q", "s", "other_p", "other_q", "other_s"] bs ["length"] [] (defScope (topS 4)) b_plus (defBody (topS 4)) = true := by decide +kernel
theorem sc_negative : FnScope ["number", "p", "q", "s"] ["number"] (defScope (topS 5)) := ⟨rfl, rfl, rfl, by decide +kernel, rfl, by decide +kernel, by decide +kernel⟩
theorem ck_negative : chkSs ["number", "p", "q", "s"] bs [] [] (defScope (topS 5)) b_negative (defBody (topS 5)) = true := by decide +kernel
theorem sc_minus : FnScope ["first", "second"] ["first", "second"] (defScope (topS 6)) := ⟨rfl, rfl, rfl, by decide +kernel, rfl, by decide +kernel, by decide +kernel⟩
theorem ck_minus : chkSs ["first", "second"] bs ["plus", "negative"] [] (defScope (topS 6)) b_minus (defBody (topS 6)) = true := by decide +kernel
theorem sc_compare : FnScope ["root", "first", "second"] ["root", "first", "second"] (defScope (topS 10)) := ⟨rfl, rfl, rfl, by decide +kernel, rfl, by decide +kernel, by decide +kernel⟩
theorem ck_compare : chkSs ["root", "first", "second"] bs ["sign_of", "minus"] [] (defScope (topS 10)) b_compare (defBody (topS 10)) = true := by decide +kernel
theorem sc_least_start : FnScope ["root", "kind", "tiles", "least", "tile"] ["root", "kind", "tiles"] (defScope (topS 19)) := ⟨rfl, rfl, rfl, by decide +kernel, rfl, by decide +kernel, by decide +kernel⟩
theorem ck_least_start : chkSs ["root", "kind", "tiles", "least", "tile"] bs ["start_of", "compare"] [] (defScope (topS 19)) b_least_start (defBody (topS 19)) = true := by decide +kernel
theorem sc_ascending : FnScope ["root", "numbers", "found", "number", "less", "other"] ["root", "numbers"] (defScope (topS 20)) := ⟨rfl, rfl, rfl, by decide +kernel, rfl, by decide +kernel, by decide +kernel⟩
theorem ck_ascending : chkSs ["root", "numbers", "found", "number", "less", "other"] bs ["compare"] [] (defScope (topS 20)) b_ascending (defBody (topS 20)) = true := by decide +kernel
theorem sc_end_of : FnScope ["kind", "tile"] ["kind", "tile"] (defScope (topS 16)) := ⟨rfl, rfl, rfl, by decide +kernel, rfl, by decide +kernel, by decide +kernel⟩
theorem ck_end_of : chkSs ["kind", "tile"] bs ["plus", "side_at"] [] (defScope (topS 16)) b_end_of (defBody (topS 16)) = true := by decide +kernel
theorem sc_crosses : FnScope ["root", "kind", "at", "tile"] ["root", "kind", "at", "tile"] (defScope (topS 17)) := ⟨rfl, rfl, rfl, by decide +kernel, rfl, by decide +kernel, by decide +kernel⟩
theorem ck_crosses : chkSs ["root", "kind", "at", "tile"] bs ["compare", "end_of", "start_of"] [] (defScope (topS 17)) b_crosses (defBody (topS 17)) = true := by decide +kernel
theorem sc_is_line : FnScope ["root", "kind", "at", "tiles", "tile"] ["root", "kind", "at", "tiles"] (defScope (topS 18)) := ⟨rfl, rfl, rfl, by decide +kernel, rfl, by decide +kernel, by decide +kernel⟩
theorem ck_is_line : chkSs ["root", "kind", "at", "tiles", "tile"] bs ["crosses"] [] (defScope (topS 18)) b_is_line (defBody (topS 18)) = true := by decide +kernel
theorem sc_lines_through : FnScope ["root", "kind", "tiles", "least", "starts", "at", "tile"] ["root", "kind", "tiles"] (defScope (topS 21)) := ⟨rfl, rfl, rfl, by decide +kernel, rfl, by decide +kernel, by decide +kernel⟩
theorem ck_lines_through : chkSs ["root", "kind", "tiles", "least", "starts", "at", "tile"] bs ["least_start", "ascending", "start_of", "is_line"] [] (defScope (topS 21)) b_lines_through (defBody (topS 21)) = true := by decide +kernel
theorem sc_lines_of : FnScope ["root", "sheet", "tiles"] ["root", "sheet", "tiles"] (defScope (topS 22)) := ⟨rfl, rfl, rfl, by decide +kernel, rfl, by decide +kernel, by decide +kernel⟩
theorem ck_lines_of : chkSs ["root", "sheet", "tiles"] bs ["lines_through"] ["Y", "X"] (defScope (topS 22)) b_lines_of (defBody (topS 22)) = true := by decide +kernel
theorem sc__law_is_number : FnScope ["value"] ["value"] (defScope (topS 25)) := ⟨rfl, rfl, rfl, by decide +kernel, rfl, by decide +kernel, by decide +kernel⟩
theorem ck__law_is_number : chkSs ["value"] bs [] [] (defScope (topS 25)) b__law_is_number (defBody (topS 25)) = true := by decide +kernel
theorem sc__law_is_numbers : FnScope ["value", "item"] ["value"] (defScope (topS 26)) := ⟨rfl, rfl, rfl, by decide +kernel, rfl, by decide +kernel, by decide +kernel⟩
theorem ck__law_is_numbers : chkSs ["value", "item"] bs ["_law_is_number"] [] (defScope (topS 26)) b__law_is_numbers (defBody (topS 26)) = true := by decide +kernel
theorem sc__law_is_length : FnScope ["value"] ["value"] (defScope (topS 36)) := ⟨rfl, rfl, rfl, by decide +kernel, rfl, by decide +kernel, by decide +kernel⟩
theorem ck__law_is_length : chkSs ["value"] bs ["_law_is_numbers", "_law_gcd"] [] (defScope (topS 36)) b__law_is_length (defBody (topS 36)) = true := by decide +kernel
theorem sc__law_turned : FnScope ["tiles", "tile"] ["tiles"] (defScope (topS 48)) := ⟨rfl, rfl, rfl, by decide +kernel, rfl, by decide +kernel, by decide +kernel⟩
theorem ck__law_turned : chkSs ["tiles", "tile"] bs [] [] (defScope (topS 48)) b__law_turned (defBody (topS 48)) = true := by decide +kernel
theorem sc__law_told : FnScope ["root", "sheet", "tiles", "due", "passed", "told", "line", "turned", "number"] ["root", "sheet", "tiles"] (defScope (topS 52)) := ⟨rfl, rfl, rfl, by decide +kernel, rfl, by decide +kernel, by decide +kernel⟩
theorem ck__law_told : chkSs ["root", "sheet", "tiles", "due", "passed", "told", "line", "turned", "number"] bs ["_law_lines", "_law_copied", "lines_of", "_law_is_length", "_law_in_order", "_law_turned"] [] (defScope (topS 52)) b__law_told (defBody (topS 52)) = true := by decide +kernel
theorem sc__law_moved : FnScope ["root", "tiles", "x", "y", "tile"] ["root", "tiles", "x", "y"] (defScope (topS 47)) := ⟨rfl, rfl, rfl, by decide +kernel, rfl, by decide +kernel, by decide +kernel⟩
theorem ck__law_moved : chkSs ["root", "tiles", "x", "y", "tile"] bs ["_law_add"] [] (defScope (topS 47)) b__law_moved (defBody (topS 47)) = true := by decide +kernel
theorem sc__law_grid : FnScope ["root", "sheet", "columns", "rows", "found", "row", "w", "h", "column"] ["root", "sheet", "columns", "rows"] (defScope (topS 49)) := ⟨rfl, rfl, rfl, by decide +kernel, rfl, by decide +kernel, by decide +kernel⟩
theorem ck__law_grid : chkSs ["root", "sheet", "columns", "rows", "found", "row", "w", "h", "column"] bs ["_law_by", "_law_times"] [] (defScope (topS 49)) b__law_grid (defBody (topS 49)) = true := by decide +kernel
theorem sc_law : FnScope ["script", "draws", "root", "sheet", "tiles", "other", "others", "whole", "both", "told", "wheel", "columns", "rows", "one", "zero", "half"] ["script"] (defScope (topS 53)) := ⟨rfl, rfl, rfl, by decide +kernel, rfl, by decide +kernel, by decide +kernel⟩
theorem ck_law : chkSs ["script", "draws", "root", "sheet", "tiles", "other", "others", "whole", "both", "told", "wheel", "columns", "rows", "one", "zero", "half"] bs ["_law_draws", "_law_root", "_law_sheet", "_law_tiles", "_law_told", "_law_above", "_law_add", "_law_in_order", "_law_moved", "_law_grid", "_law_wheel", "lines_of"] [] (defScope (topS 53)) b_law (defBody (topS 53)) = true := by decide +kernel
section
variable {P : Program} {w : World} {K : PySem.W.Frag} {mg : Str → Option Value} {base : Heap}
theorem ok__law_draws (hB : ∀ x ∈ bs, mg x = none)   {f : Addr} {fd : FuncData} (m : mg "_law_draws" = some (.ref f)) (F : Fun K "_law_draws" "_law_draws" (topS 24) f fd) : FP P w K mg base 1 "_law_draws" s__law_draws :=
  ⟨f, fd, ["script", "many"], m, F.kp, F.binds (ps := ["script", "many"]) (fun _ _ _ _ _ _ us hl => match us, hl with | [_, _], _ => rfl), fn_ok (lvl := 0) ⟨hB, (fun j sem h => by cases h), (fun j d h => by cases h), (fun j sem nm h h2 h3 => by cases h)⟩ F sc__law_draws b__law_draws ck__law_draws⟩
theorem ok__law_root (hB : ∀ x ∈ bs, mg x = none)   {f : Addr} {fd : FuncData} (m : mg "_law_root" = some (.ref f)) (F : Fun K "_law_root" "_law_root" (topS 35) f fd) : FP P w K mg base 1 "_law_root" s__law_root :=
  ⟨f, fd, ["digit"], m, F.kp, F.binds (ps := ["digit"]) (fun _ _ _ _ _ _ us hl => match us, hl with | [_], _ => rfl), fn_ok (lvl := 0) ⟨hB, (fun j sem h => by cases h), (fun j d h => by cases h), (fun j sem nm h h2 h3 => by cases h)⟩ F sc__law_root b__law_root ck__law_root⟩
theorem ok__law_gcd (hB : ∀ x ∈ bs, mg x = none)   {f : Addr} {fd : FuncData} (m : mg "_law_gcd" = some (.ref f)) (F : Fun K "_law_gcd" "_law_gcd" (topS 27) f fd) : FP P w K mg base 1 "_law_gcd" s__law_gcd :=
  ⟨f, fd, ["first", "second"], m, F.kp, F.binds (ps := ["first", "second"]) (fun _ _ _ _ _ _ us hl => match us, hl with | [_, _], _ => rfl), fn_ok (lvl := 0) ⟨hB, (fun j sem h => by cases h), (fun j d h => by cases h), (fun j sem nm h h2 h3 => by cases h)⟩ F sc__law_gcd b__law_gcd ck__law_gcd⟩
theorem ok__law_norm (hB : ∀ x ∈ bs, mg x = none) (h__law_gcd : FP P w K mg base 1 "_law_gcd" s__law_gcd)  {f : Addr} {fd : FuncData} (m : mg "_law_norm" = some (.ref f)) (F : Fun K "_law_norm" "_law_norm" (topS 28) f fd) : FP P w K mg base 2 "_law_norm" s__law_norm :=
  ⟨f, fd, ["p", "q", "s"], m, F.kp, F.binds (ps := ["p", "q", "s"]) (fun _ _ _ _ _ _ us hl => match us, hl with | [_, _, _], _ => rfl), fn_ok (lvl := 1) ⟨hB, (fun j sem h => by
    match j, h with
    | 0, h =>
      cases h
      exact ⟨_, rfl, h__law_gcd.mono (by omega)⟩
    | _ + 1, h => cases h), (fun j d h => by cases h), (fun j sem nm h h2 h3 => by
    match j, h, h2 with
    | 0, h, h2 =>
      cases h; cases h2
      exact absurd h3 (by decide)
    | _ + 1, h, h2 => cases h)⟩ F sc__law_norm b__law_norm ck__law_norm⟩
theorem ok__law_number (hB : ∀ x ∈ bs, mg x = none) (h__law_norm : FP P w K mg base 2 "_law_norm" s__law_norm)  {f : Addr} {fd : FuncData} (m : mg "_law_number" = some (.ref f)) (F : Fun K "_law_number" "_law_number" (topS 37) f fd) : FP P w K mg base 3 "_law_number" s__law_number :=
  ⟨f, fd, ["digits"], m, F.kp, F.binds (ps := ["digits"]) (fun _ _ _ _ _ _ us hl => match us, hl with | [_], _ => rfl), fn_ok (lvl := 2) ⟨hB, (fun j sem h => by
    match j, h with
    | 0, h =>
      cases h
      exact ⟨_, rfl, h__law_norm.mono (by omega)⟩
    | _ + 1, h => cases h), (fun j d h => by cases h), (fun j sem nm h h2 h3 => by
    match j, h, h2 with
    | 0, h, h2 =>
      cases h; cases h2
      exact absurd h3 (by decide)
    | _ + 1, h, h2 => cases h)⟩ F sc__law_number b__law_number ck__law_number⟩
theorem ok__law_sign (hB : ∀ x ∈ bs, mg x = none)   {f : Addr} {fd : FuncData} (m : mg "_law_sign" = some (.ref f)) (F : Fun K "_law_sign" "_law_sign" (topS 33) f fd) : FP P w K mg base 1 "_law_sign" s__law_sign :=
  ⟨f, fd, ["root", "number"], m, F.kp, F.binds (ps := ["root", "number"]) (fun _ _ _ _ _ _ us hl => match us, hl with | [_, _], _ => rfl), fn_ok (lvl := 0) ⟨hB, (fun j sem h => by cases h), (fun j d h => by cases h), (fun j sem nm h h2 h3 => by cases h)⟩ F sc__law_sign b__law_sign ck__law_sign⟩
theorem ok__law_above (hB : ∀ x ∈ bs, mg x = none) (h__law_number : FP P w K mg base 3 "_law_number" s__law_number) (h__law_sign : FP P w K mg base 1 "_law_sign" s__law_sign)  {f : Addr} {fd : FuncData} (m : mg "_law_above" = some (.ref f)) (F : Fun K "_law_above" "_law_above" (topS 38) f fd) : FP P w K mg base 4 "_law_above" s__law_above :=
  ⟨f, fd, ["root", "digits"], m, F.kp, F.binds (ps := ["root", "digits"]) (fun _ _ _ _ _ _ us hl => match us, hl with | [_, _], _ => rfl), fn_ok (lvl := 3) ⟨hB, (fun j sem h => by
    match j, h with
    | 0, h =>
      cases h
      exact ⟨_, rfl, h__law_number.mono (by omega)⟩
    | 1, h =>
      cases h
      exact ⟨_, rfl, h__law_sign.mono (by omega)⟩
    | _ + 2, h => cases h), (fun j d h => by cases h), (fun j sem nm h h2 h3 => by
    match j, h, h2 with
    | 0, h, h2 =>
      cases h; cases h2
      exact absurd h3 (by decide)
    | 1, h, h2 =>
      cases h; cases h2
      exact absurd h3 (by decide)
    | _ + 2, h, h2 => cases h)⟩ F sc__law_above b__law_above ck__law_above⟩
theorem ok__law_sheet (hB : ∀ x ∈ bs, mg x = none) (h__law_above : FP P w K mg base 4 "_law_above" s__law_above)  {f : Addr} {fd : FuncData} (m : mg "_law_sheet" = some (.ref f)) (F : Fun K "_law_sheet" "_law_sheet" (topS 46) f fd) : FP P w K mg base 5 "_law_sheet" s__law_sheet :=
  ⟨f, fd, ["root", "digits"], m, F.kp, F.binds (ps := ["root", "digits"]) (fun _ _ _ _ _ _ us hl => match us, hl with | [_, _], _ => rfl), fn_ok (lvl := 4) ⟨hB, (fun j sem h => by
    match j, h with
    | 0, h =>
      cases h
      exact ⟨_, rfl, h__law_above.mono (by omega)⟩
    | _ + 1, h => cases h), (fun j d h => by cases h), (fun j sem nm h h2 h3 => by
    match j, h, h2 with
    | 0, h, h2 =>
      cases h; cases h2
      exact absurd h3 (by decide)
    | _ + 1, h, h2 => cases h)⟩ F sc__law_sheet b__law_sheet ck__law_sheet⟩
theorem ok__law_times (hB : ∀ x ∈ bs, mg x = none) (h__law_norm : FP P w K mg base 2 "_law_norm" s__law_norm)  {f : Addr} {fd : FuncData} (m : mg "_law_times" = some (.ref f)) (F : Fun K "_law_times" "_law_times" (topS 31) f fd) : FP P w K mg base 3 "_law_times" s__law_times :=
  ⟨f, fd, ["root", "first", "second"], m, F.kp, F.binds (ps := ["root", "first", "second"]) (fun _ _ _ _ _ _ us hl => match us, hl with | [_, _, _], _ => rfl), fn_ok (lvl := 2) ⟨hB, (fun j sem h => by
    match j, h with
    | 0, h =>
      cases h
      exact ⟨_, rfl, h__law_norm.mono (by omega)⟩
    | _ + 1, h => cases h), (fun j d h => by cases h), (fun j sem nm h h2 h3 => by
    match j, h, h2 with
    | 0, h, h2 =>
      cases h; cases h2
      exact absurd h3 (by decide)
    | _ + 1, h, h2 => cases h)⟩ F sc__law_times b__law_times ck__law_times⟩
theorem ok__law_by (hB : ∀ x ∈ bs, mg x = none) (h__law_times : FP P w K mg base 3 "_law_times" s__law_times) (h__law_norm : FP P w K mg base 2 "_law_norm" s__law_norm)  {f : Addr} {fd : FuncData} (m : mg "_law_by" = some (.ref f)) (F : Fun K "_law_by" "_law_by" (topS 32) f fd) : FP P w K mg base 4 "_law_by" s__law_by :=
  ⟨f, fd, ["root", "first", "second"], m, F.kp, F.binds (ps := ["root", "first", "second"]) (fun _ _ _ _ _ _ us hl => match us, hl with | [_, _, _], _ => rfl), fn_ok (lvl := 3) ⟨hB, (fun j sem h => by
    match j, h with
    | 0, h =>
      cases h
      exact ⟨_, rfl, h__law_times.mono (by omega)⟩
    | 1, h =>
      cases h
      exact ⟨_, rfl, h__law_norm.mono (by omega)⟩
    | _ + 2, h => cases h), (fun j d h => by cases h), (fun j sem nm h h2 h3 => by
    match j, h, h2 with
    | 0, h, h2 =>
      cases h; cases h2
      exact absurd h3 (by decide)
    | 1, h, h2 =>
      cases h; cases h2
      exact absurd h3 (by decide)
    | _ + 2, h, h2 => cases h)⟩ F sc__law_by b__law_by ck__law_by⟩
theorem ok__law_add (hB : ∀ x ∈ bs, mg x = none) (h__law_norm : FP P w K mg base 2 "_law_norm" s__law_norm)  {f : Addr} {fd : FuncData} (m : mg "_law_add" = some (.ref f)) (F : Fun K "_law_add" "_law_add" (topS 29) f fd) : FP P w K mg base 3 "_law_add" s__law_add :=
  ⟨f, fd, ["first", "second"], m, F.kp, F.binds (ps := ["first", "second"]) (fun _ _ _ _ _ _ us hl => match us, hl with | [_, _], _ => rfl), fn_ok (lvl := 2) ⟨hB, (fun j sem h => by
    match j, h with
    | 0, h =>
      cases h
      exact ⟨_, rfl, h__law_norm.mono (by omega)⟩
    | _ + 1, h => cases h), (fun j d h => by cases h), (fun j sem nm h h2 h3 => by
    match j, h, h2 with
    | 0, h, h2 =>
      cases h; cases h2
      exact absurd h3 (by decide)
    | _ + 1, h, h2 => cases h)⟩ F sc__law_add b__law_add ck__law_add⟩
theorem ok__law_minus (hB : ∀ x ∈ bs, mg x = none) (h__law_add : FP P w K mg base 3 "_law_add" s__law_add)  {f : Addr} {fd : FuncData} (m : mg "_law_minus" = some (.ref f)) (F : Fun K "_law_minus" "_law_minus" (topS 30) f fd) : FP P w K mg base 4 "_law_minus" s__law_minus :=
  ⟨f, fd, ["first", "second"], m, F.kp, F.binds (ps := ["first", "second"]) (fun _ _ _ _ _ _ us hl => match us, hl with | [_, _], _ => rfl), fn_ok (lvl := 3) ⟨hB, (fun j sem h => by
    match j, h with
    | 0, h =>
      cases h
      exact ⟨_, rfl, h__law_add.mono (by omega)⟩
    | _ + 1, h => cases h), (fun j d h => by cases h), (fun j sem nm h h2 h3 => by
    match j, h, h2 with
    | 0, h, h2 =>
      cases h; cases h2
      exact absurd h3 (by decide)
    | _ + 1, h, h2 => cases h)⟩ F sc__law_minus b__law_minus ck__law_minus⟩
theorem ok__law_halved (hB : ∀ x ∈ bs, mg x = none) (h__law_by : FP P w K mg base 4 "_law_by" s__law_by) (h__law_times : FP P w K mg base 3 "_law_times" s__law_times) (h__law_minus : FP P w K mg base 4 "_law_minus" s__law_minus) (h__law_add : FP P w K mg base 3 "_law_add" s__law_add)  {f : Addr} {fd : FuncData} (m : mg "_law_halved" = some (.ref f)) (F : Fun K "_law_halved" "_law_halved" (topS 42) f fd) : FP P w K mg base 5 "_law_halved" s__law_halved :=
  ⟨f, fd, ["root", "tile", "digits"], m, F.kp, F.binds (ps := ["root", "tile", "digits"]) (fun _ _ _ _ _ _ us hl => match us, hl with | [_, _, _], _ => rfl), fn_ok (lvl := 4) ⟨hB, (fun j sem h => by
    match j, h with
    | 0, h =>
      cases h
      exact ⟨_, rfl, h__law_by.mono (by omega)⟩
    | 1, h =>
      cases h
      exact ⟨_, rfl, h__law_times.mono (by omega)⟩
    | 2, h =>
      cases h
      exact ⟨_, rfl, h__law_minus.mono (by omega)⟩
    | 3, h =>
      cases h
      exact ⟨_, rfl, h__law_add.mono (by omega)⟩
    | _ + 4, h => cases h), (fun j d h => by cases h), (fun j sem nm h h2 h3 => by
    match j, h, h2 with
    | 0, h, h2 =>
      cases h; cases h2
      exact absurd h3 (by decide)
    | 1, h, h2 =>
      cases h; cases h2
      exact absurd h3 (by decide)
    | 2, h, h2 =>
      cases h; cases h2
      exact absurd h3 (by decide)
    | 3, h, h2 =>
      cases h; cases h2
      exact absurd h3 (by decide)
    | _ + 4, h, h2 => cases h)⟩ F sc__law_halved b__law_halved ck__law_halved⟩
theorem ok__law_wheel (hB : ∀ x ∈ bs, mg x = none) (h__law_times : FP P w K mg base 3 "_law_times" s__law_times) (h__law_add : FP P w K mg base 3 "_law_add" s__law_add)  {f : Addr} {fd : FuncData} (m : mg "_law_wheel" = some (.ref f)) (F : Fun K "_law_wheel" "_law_wheel" (topS 43) f fd) : FP P w K mg base 4 "_law_wheel" s__law_wheel :=
  ⟨f, fd, ["root", "tile"], m, F.kp, F.binds (ps := ["root", "tile"]) (fun _ _ _ _ _ _ us hl => match us, hl with | [_, _], _ => rfl), fn_ok (lvl := 3) ⟨hB, (fun j sem h => by
    match j, h with
    | 0, h =>
      cases h
      exact ⟨_, rfl, h__law_times.mono (by omega)⟩
    | 1, h =>
      cases h
      exact ⟨_, rfl, h__law_add.mono (by omega)⟩
    | _ + 2, h => cases h), (fun j d h => by cases h), (fun j sem nm h h2 h3 => by
    match j, h, h2 with
    | 0, h, h2 =>
      cases h; cases h2
      exact absurd h3 (by decide)
    | 1, h, h2 =>
      cases h; cases h2
      exact absurd h3 (by decide)
    | _ + 2, h, h2 => cases h)⟩ F sc__law_wheel b__law_wheel ck__law_wheel⟩
theorem ok__law_less (hB : ∀ x ∈ bs, mg x = none) (h__law_sign : FP P w K mg base 1 "_law_sign" s__law_sign) (h__law_minus : FP P w K mg base 4 "_law_minus" s__law_minus)  {f : Addr} {fd : FuncData} (m : mg "_law_less" = some (.ref f)) (F : Fun K "_law_less" "_law_less" (topS 34) f fd) : FP P w K mg base 5 "_law_less" s__law_less :=
  ⟨f, fd, ["root", "first", "second"], m, F.kp, F.binds (ps := ["root", "first", "second"]) (fun _ _ _ _ _ _ us hl => match us, hl with | [_, _, _], _ => rfl), fn_ok (lvl := 4) ⟨hB, (fun j sem h => by
    match j, h with
    | 0, h =>
      cases h
      exact ⟨_, rfl, h__law_sign.mono (by omega)⟩
    | 1, h =>
      cases h
      exact ⟨_, rfl, h__law_minus.mono (by omega)⟩
    | _ + 2, h => cases h), (fun j d h => by cases h), (fun j sem nm h h2 h3 => by
    match j, h, h2 with
    | 0, h, h2 =>
      cases h; cases h2
      exact absurd h3 (by decide)
    | 1, h, h2 =>
      cases h; cases h2
      exact absurd h3 (by decide)
    | _ + 2, h, h2 => cases h)⟩ F sc__law_less b__law_less ck__law_less⟩
theorem ok__law_before (hB : ∀ x ∈ bs, mg x = none) (h__law_less : FP P w K mg base 5 "_law_less" s__law_less)  {f : Addr} {fd : FuncData} (m : mg "_law_before" = some (.ref f)) (F : Fun K "_law_before" "_law_before" (topS 40) f fd) : FP P w K mg base 6 "_law_before" s__law_before :=
  ⟨f, fd, ["root", "tile", "other"], m, F.kp, F.binds (ps := ["root", "tile", "other"]) (fun _ _ _ _ _ _ us hl => match us, hl with | [_, _, _], _ => rfl), fn_ok (lvl := 5) ⟨hB, (fun j sem h => by
    match j, h with
    | 0, h =>
      cases h
      exact ⟨_, rfl, h__law_less.mono (by omega)⟩
    | _ + 1, h => cases h), (fun j d h => by cases h), (fun j sem nm h h2 h3 => by
    match j, h, h2 with
    | 0, h, h2 =>
      cases h; cases h2
      exact absurd h3 (by decide)
    | _ + 1, h, h2 => cases h)⟩ F sc__law_before b__law_before ck__law_before⟩
theorem ok__law_in_order (hB : ∀ x ∈ bs, mg x = none) (h__law_before : FP P w K mg base 6 "_law_before" s__law_before)  {f : Addr} {fd : FuncData} (m : mg "_law_in_order" = some (.ref f)) (F : Fun K "_law_in_order" "_law_in_order" (topS 41) f fd) : FP P w K mg base 7 "_law_in_order" s__law_in_order :=
  ⟨f, fd, ["root", "tiles"], m, F.kp, F.binds (ps := ["root", "tiles"]) (fun _ _ _ _ _ _ us hl => match us, hl with | [_, _], _ => rfl), fn_ok (lvl := 6) ⟨hB, (fun j sem h => by
    match j, h with
    | 0, h =>
      cases h
      exact ⟨_, rfl, h__law_before.mono (by omega)⟩
    | _ + 1, h => cases h), (fun j d h => by cases h), (fun j sem nm h h2 h3 => by
    match j, h, h2 with
    | 0, h, h2 =>
      cases h; cases h2
      exact absurd h3 (by decide)
    | _ + 1, h, h2 => cases h)⟩ F sc__law_in_order b__law_in_order ck__law_in_order⟩
theorem ok__law_tiles (hB : ∀ x ∈ bs, mg x = none) (h__law_halved : FP P w K mg base 5 "_law_halved" s__law_halved) (h__law_wheel : FP P w K mg base 4 "_law_wheel" s__law_wheel) (h__law_in_order : FP P w K mg base 7 "_law_in_order" s__law_in_order)  {f : Addr} {fd : FuncData} (m : mg "_law_tiles" = some (.ref f)) (F : Fun K "_law_tiles" "_law_tiles" (topS 44) f fd) : FP P w K mg base 8 "_law_tiles" s__law_tiles :=
  ⟨f, fd, ["root", "sheet", "digits", "many"], m, F.kp, F.binds (ps := ["root", "sheet", "digits", "many"]) (fun _ _ _ _ _ _ us hl => match us, hl with | [_, _, _, _], _ => rfl), fn_ok (lvl := 7) ⟨hB, (fun j sem h => by
    match j, h with
    | 0, h =>
      cases h
      exact ⟨_, rfl, h__law_halved.mono (by omega)⟩
    | 1, h =>
      cases h
      exact ⟨_, rfl, h__law_wheel.mono (by omega)⟩
    | 2, h =>
      cases h
      exact ⟨_, rfl, h__law_in_order.mono (by omega)⟩
    | _ + 3, h => cases h), (fun j d h => by cases h), (fun j sem nm h h2 h3 => by
    match j, h, h2 with
    | 0, h, h2 =>
      cases h; cases h2
      exact absurd h3 (by decide)
    | 1, h, h2 =>
      cases h; cases h2
      exact absurd h3 (by decide)
    | 2, h, h2 =>
      cases h; cases h2
      exact absurd h3 (by decide)
    | _ + 3, h, h2 => cases h)⟩ F sc__law_tiles b__law_tiles ck__law_tiles⟩
theorem ok__law_sorted (hB : ∀ x ∈ bs, mg x = none) (h__law_less : FP P w K mg base 5 "_law_less" s__law_less)  {f : Addr} {fd : FuncData} (m : mg "_law_sorted" = some (.ref f)) (F : Fun K "_law_sorted" "_law_sorted" (topS 50) f fd) : FP P w K mg base 6 "_law_sorted" s__law_sorted :=
  ⟨f, fd, ["root", "numbers"], m, F.kp, F.binds (ps := ["root", "numbers"]) (fun _ _ _ _ _ _ us hl => match us, hl with | [_, _], _ => rfl), fn_ok (lvl := 5) ⟨hB, (fun j sem h => by
    match j, h with
    | 0, h =>
      cases h
      exact ⟨_, rfl, h__law_less.mono (by omega)⟩
    | _ + 1, h => cases h), (fun j d h => by cases h), (fun j sem nm h h2 h3 => by
    match j, h, h2 with
    | 0, h, h2 =>
      cases h; cases h2
      exact absurd h3 (by decide)
    | _ + 1, h, h2 => cases h)⟩ F sc__law_sorted b__law_sorted ck__law_sorted⟩
theorem ok__law_ends (hB : ∀ x ∈ bs, mg x = none) (h__law_add : FP P w K mg base 3 "_law_add" s__law_add)  {f : Addr} {fd : FuncData} (m : mg "_law_ends" = some (.ref f)) (F : Fun K "_law_ends" "_law_ends" (topS 39) f fd) : FP P w K mg base 4 "_law_ends" s__law_ends :=
  ⟨f, fd, ["tile"], m, F.kp, F.binds (ps := ["tile"]) (fun _ _ _ _ _ _ us hl => match us, hl with | [_], _ => rfl), fn_ok (lvl := 3) ⟨hB, (fun j sem h => by
    match j, h with
    | 0, h =>
      cases h
      exact ⟨_, rfl, h__law_add.mono (by omega)⟩
    | _ + 1, h => cases h), (fun j d h => by cases h), (fun j sem nm h h2 h3 => by
    match j, h, h2 with
    | 0, h, h2 =>
      cases h; cases h2
      exact absurd h3 (by decide)
    | _ + 1, h, h2 => cases h)⟩ F sc__law_ends b__law_ends ck__law_ends⟩
theorem ok__law_lines (hB : ∀ x ∈ bs, mg x = none) (h__law_sorted : FP P w K mg base 6 "_law_sorted" s__law_sorted) (h__law_less : FP P w K mg base 5 "_law_less" s__law_less) (h__law_ends : FP P w K mg base 4 "_law_ends" s__law_ends)  {f : Addr} {fd : FuncData} (m : mg "_law_lines" = some (.ref f)) (F : Fun K "_law_lines" "_law_lines" (topS 51) f fd) : FP P w K mg base 7 "_law_lines" s__law_lines :=
  ⟨f, fd, ["root", "tiles", "k"], m, F.kp, F.binds (ps := ["root", "tiles", "k"]) (fun _ _ _ _ _ _ us hl => match us, hl with | [_, _, _], _ => rfl), fn_ok (lvl := 6) ⟨hB, (fun j sem h => by
    match j, h with
    | 0, h =>
      cases h
      exact ⟨_, rfl, h__law_sorted.mono (by omega)⟩
    | 1, h =>
      cases h
      exact ⟨_, rfl, h__law_less.mono (by omega)⟩
    | 2, h =>
      cases h
      exact ⟨_, rfl, h__law_ends.mono (by omega)⟩
    | _ + 3, h => cases h), (fun j d h => by cases h), (fun j sem nm h h2 h3 => by
    match j, h, h2 with
    | 0, h, h2 =>
      cases h; cases h2
      exact absurd h3 (by decide)
    | 1, h, h2 =>
      cases h; cases h2
      exact absurd h3 (by decide)
    | 2, h, h2 =>
      cases h; cases h2
      exact absurd h3 (by decide)
    | _ + 3, h, h2 => cases h)⟩ F sc__law_lines b__law_lines ck__law_lines⟩
theorem ok__law_copied (hB : ∀ x ∈ bs, mg x = none)   {f : Addr} {fd : FuncData} (m : mg "_law_copied" = some (.ref f)) (F : Fun K "_law_copied" "_law_copied" (topS 45) f fd) : FP P w K mg base 1 "_law_copied" s__law_copied :=
  ⟨f, fd, ["tiles"], m, F.kp, F.binds (ps := ["tiles"]) (fun _ _ _ _ _ _ us hl => match us, hl with | [_], _ => rfl), fn_ok (lvl := 0) ⟨hB, (fun j sem h => by cases h), (fun j d h => by cases h), (fun j sem nm h h2 h3 => by cases h)⟩ F sc__law_copied b__law_copied ck__law_copied⟩
theorem ok_side_at (hB : ∀ x ∈ bs, mg x = none)  (z_Y : ∃ u v, mg "Y" = some u ∧ RelV v u ∧ ∀ F, En K F v (.str "y")) {f : Addr} {fd : FuncData} (m : mg "side_at" = some (.ref f)) (F : Fun K "side_at" "side_at" (topS 14) f fd) : FP P w K mg base 1 "side_at" s_side_at :=
  ⟨f, fd, ["kind"], m, F.kp, F.binds (ps := ["kind"]) (fun _ _ _ _ _ _ us hl => match us, hl with | [_], _ => rfl), fn_ok (lvl := 0) ⟨hB, (fun j sem h => by cases h), (fun j d h => by
    match j, h with
    | 0, h =>
      cases h
      obtain ⟨u, v, k1, k2, k3⟩ := z_Y
      exact ⟨_, u, v, rfl, k1, k2, k3⟩
    | _ + 1, h => cases h), (fun j sem nm h h2 h3 => by cases h)⟩ F sc_side_at b_side_at ck_side_at⟩
theorem ok_start_of (hB : ∀ x ∈ bs, mg x = none) (h_side_at : FP P w K mg base 1 "side_at" s_side_at)  {f : Addr} {fd : FuncData} (m : mg "start_of" = some (.ref f)) (F : Fun K "start_of" "start_of" (topS 15) f fd) : FP P w K mg base 2 "start_of" s_start_of :=
  ⟨f, fd, ["kind", "tile"], m, F.kp, F.binds (ps := ["kind", "tile"]) (fun _ _ _ _ _ _ us hl => match us, hl with | [_, _], _ => rfl), fn_ok (lvl := 1) ⟨hB, (fun j sem h => by
    match j, h with
    | 0, h =>
      cases h
      exact ⟨_, rfl, h_side_at.mono (by omega)⟩
    | _ + 1, h => cases h), (fun j d h => by cases h), (fun j sem nm h h2 h3 => by
    match j, h, h2 with
    | 0, h, h2 =>
      cases h; cases h2
      exact absurd h3 (by decide)
    | _ + 1, h, h2 => cases h)⟩ F sc_start_of b_start_of ck_start_of⟩
theorem ok_sign_of_number (hB : ∀ x ∈ bs, mg x = none)   {f : Addr} {fd : FuncData} (m : mg "sign_of_number" = some (.ref f)) (F : Fun K "sign_of_number" "sign_of_number" (topS 8) f fd) : FP P w K mg base 1 "sign_of_number" s_sign_of_number :=
  ⟨f, fd, ["number"], m, F.kp, F.binds (ps := ["number"]) (fun _ _ _ _ _ _ us hl => match us, hl with | [_], _ => rfl), fn_ok (lvl := 0) ⟨hB, (fun j sem h => by cases h), (fun j d h => by cases h), (fun j sem nm h h2 h3 => by cases h)⟩ F sc_sign_of_number b_sign_of_number ck_sign_of_number⟩
theorem ok_sign_of (hB : ∀ x ∈ bs, mg x = none) (h_sign_of_number : FP P w K mg base 1 "sign_of_number" s_sign_of_number)  {f : Addr} {fd : FuncData} (m : mg "sign_of" = some (.ref f)) (F : Fun K "sign_of" "sign_of" (topS 9) f fd) : FP P w K mg base 2 "sign_of" s_sign_of :=
  ⟨f, fd, ["root", "number"], m, F.kp, F.binds (ps := ["root", "number"]) (fun _ _ _ _ _ _ us hl => match us, hl with | [_, _], _ => rfl), fn_ok (lvl := 1) ⟨hB, (fun j sem h => by
    match j, h with
    | 0, h =>
      cases h
      exact ⟨_, rfl, h_sign_of_number.mono (by omega)⟩
    | _ + 1, h => cases h), (fun j d h => by cases h), (fun j sem nm h h2 h3 => by
    match j, h, h2 with
    | 0, h, h2 =>
      cases h; cases h2
      exact absurd h3 (by decide)
    | _ + 1, h, h2 => cases h)⟩ F sc_sign_of b_sign_of ck_sign_of⟩
theorem ok_common_divisor (hB : ∀ x ∈ bs, mg x = none)   {f : Addr} {fd : FuncData} (m : mg "common_divisor" = some (.ref f)) (F : Fun K "common_divisor" "common_divisor" (topS 1) f fd) : FP P w K mg base 1 "common_divisor" s_common_divisor :=
  ⟨f, fd, ["first", "second"], m, F.kp, F.binds (ps := ["first", "second"]) (fun _ _ _ _ _ _ us hl => match us, hl with | [_, _], _ => rfl), fn_ok (lvl := 0) ⟨hB, (fun j sem h => by cases h), (fun j d h => by cases h), (fun j sem nm h h2 h3 => by cases h)⟩ F sc_common_divisor b_common_divisor ck_common_divisor⟩
theorem ok_common_of_three (hB : ∀ x ∈ bs, mg x = none) (h_common_divisor : FP P w K mg base 1 "common_divisor" s_common_divisor)  {f : Addr} {fd : FuncData} (m : mg "common_of_three" = some (.ref f)) (F : Fun K "common_of_three" "common_of_three" (topS 2) f fd) : FP P w K mg base 2 "common_of_three" s_common_of_three :=
  ⟨f, fd, ["p", "q", "s"], m, F.kp, F.binds (ps := ["p", "q", "s"]) (fun _ _ _ _ _ _ us hl => match us, hl with | [_, _, _], _ => rfl), fn_ok (lvl := 1) ⟨hB, (fun j sem h => by
    match j, h with
    | 0, h =>
      cases h
      exact ⟨_, rfl, h_common_divisor.mono (by omega)⟩
    | _ + 1, h => cases h), (fun j d h => by cases h), (fun j sem nm h h2 h3 => by
    match j, h, h2 with
    | 0, h, h2 =>
      cases h; cases h2
      exact absurd h3 (by decide)
    | _ + 1, h, h2 => cases h)⟩ F sc_common_of_three b_common_of_three ck_common_of_three⟩
theorem ok_length (hB : ∀ x ∈ bs, mg x = none) (h_common_of_three : FP P w K mg base 2 "common_of_three" s_common_of_three)  {f : Addr} {fd : FuncData} (m : mg "length" = some (.ref f)) (F : Fun K "length" "length" (topS 3) f fd) : FP P w K mg base 3 "length" s_length :=
  ⟨f, fd, ["p", "q", "s"], m, F.kp, F.binds (ps := ["p", "q", "s"]) (fun _ _ _ _ _ _ us hl => match us, hl with | [_, _, _], _ => rfl), fn_ok (lvl := 2) ⟨hB, (fun j sem h => by
    match j, h with
    | 0, h =>
      cases h
      exact ⟨_, rfl, h_common_of_three.mono (by omega)⟩
    | _ + 1, h => cases h), (fun j d h => by cases h), (fun j sem nm h h2 h3 => by
    match j, h, h2 with
    | 0, h, h2 =>
      cases h; cases h2
      exact absurd h3 (by decide)
    | _ + 1, h, h2 => cases h)⟩ F sc_length b_length ck_length⟩
theorem ok_plus (hB : ∀ x ∈ bs, mg x = none) (h_length : FP P w K mg base 3 "length" s_length)  {f : Addr} {fd : FuncData} (m : mg "plus" = some (.ref f)) (F : Fun K "plus" "plus" (topS 4) f fd) : FP P w K mg base 4 "plus" s_plus :=
  ⟨f, fd, ["first", "second"], m, F.kp, F.binds (ps := ["first", "second"]) (fun _ _ _ _ _ _ us hl => match us, hl with | [_, _], _ => rfl), fn_ok (lvl := 3) ⟨hB, (fun j sem h => by
    match j, h with
    | 0, h =>
      cases h
      exact ⟨_, rfl, h_length.mono (by omega)⟩
    | _ + 1, h => cases h), (fun j d h => by cases h), (fun j sem nm h h2 h3 => by
    match j, h, h2 with
    | 0, h, h2 =>
      cases h; cases h2
      exact absurd h3 (by decide)
    | _ + 1, h, h2 => cases h)⟩ F sc_plus b_plus ck_plus⟩
theorem ok_negative (hB : ∀ x ∈ bs, mg x = none)   {f : Addr} {fd : FuncData} (m : mg "negative" = some (.ref f)) (F : Fun K "negative" "negative" (topS 5) f fd) : FP P w K mg base 1 "negative" s_negative :=
  ⟨f, fd, ["number"], m, F.kp, F.binds (ps := ["number"]) (fun _ _ _ _ _ _ us hl => match us, hl with | [_], _ => rfl), fn_ok (lvl := 0) ⟨hB, (fun j sem h => by cases h), (fun j d h => by cases h), (fun j sem nm h h2 h3 => by cases h)⟩ F sc_negative b_negative ck_negative⟩
theorem ok_minus (hB : ∀ x ∈ bs, mg x = none) (h_plus : FP P w K mg base 4 "plus" s_plus) (h_negative : FP P w K mg base 1 "negative" s_negative)  {f : Addr} {fd : FuncData} (m : mg "minus" = some (.ref f)) (F : Fun K "minus" "minus" (topS 6) f fd) : FP P w K mg base 5 "minus" s_minus :=
  ⟨f, fd, ["first", "second"], m, F.kp, F.binds (ps := ["first", "second"]) (fun _ _ _ _ _ _ us hl => match us, hl with | [_, _], _ => rfl), fn_ok (lvl := 4) ⟨hB, (fun j sem h => by
    match j, h with
    | 0, h =>
      cases h
      exact ⟨_, rfl, h_plus.mono (by omega)⟩
    | 1, h =>
      cases h
      exact ⟨_, rfl, h_negative.mono (by omega)⟩
    | _ + 2, h => cases h), (fun j d h => by cases h), (fun j sem nm h h2 h3 => by
    match j, h, h2 with
    | 0, h, h2 =>
      cases h; cases h2
      exact absurd h3 (by decide)
    | 1, h, h2 =>
      cases h; cases h2
      exact absurd h3 (by decide)
    | _ + 2, h, h2 => cases h)⟩ F sc_minus b_minus ck_minus⟩
theorem ok_compare (hB : ∀ x ∈ bs, mg x = none) (h_sign_of : FP P w K mg base 2 "sign_of" s_sign_of) (h_minus : FP P w K mg base 5 "minus" s_minus)  {f : Addr} {fd : FuncData} (m : mg "compare" = some (.ref f)) (F : Fun K "compare" "compare" (topS 10) f fd) : FP P w K mg base 6 "compare" s_compare :=
  ⟨f, fd, ["root", "first", "second"], m, F.kp, F.binds (ps := ["root", "first", "second"]) (fun _ _ _ _ _ _ us hl => match us, hl with | [_, _, _], _ => rfl), fn_ok (lvl := 5) ⟨hB, (fun j sem h => by
    match j, h with
    | 0, h =>
      cases h
      exact ⟨_, rfl, h_sign_of.mono (by omega)⟩
    | 1, h =>
      cases h
      exact ⟨_, rfl, h_minus.mono (by omega)⟩
    | _ + 2, h => cases h), (fun j d h => by cases h), (fun j sem nm h h2 h3 => by
    match j, h, h2 with
    | 0, h, h2 =>
      cases h; cases h2
      exact absurd h3 (by decide)
    | 1, h, h2 =>
      cases h; cases h2
      exact absurd h3 (by decide)
    | _ + 2, h, h2 => cases h)⟩ F sc_compare b_compare ck_compare⟩
theorem ok_least_start (hB : ∀ x ∈ bs, mg x = none) (h_start_of : FP P w K mg base 2 "start_of" s_start_of) (h_compare : FP P w K mg base 6 "compare" s_compare)  {f : Addr} {fd : FuncData} (m : mg "least_start" = some (.ref f)) (F : Fun K "least_start" "least_start" (topS 19) f fd) : FP P w K mg base 7 "least_start" s_least_start :=
  ⟨f, fd, ["root", "kind", "tiles"], m, F.kp, F.binds (ps := ["root", "kind", "tiles"]) (fun _ _ _ _ _ _ us hl => match us, hl with | [_, _, _], _ => rfl), fn_ok (lvl := 6) ⟨hB, (fun j sem h => by
    match j, h with
    | 0, h =>
      cases h
      exact ⟨_, rfl, h_start_of.mono (by omega)⟩
    | 1, h =>
      cases h
      exact ⟨_, rfl, h_compare.mono (by omega)⟩
    | _ + 2, h => cases h), (fun j d h => by cases h), (fun j sem nm h h2 h3 => by
    match j, h, h2 with
    | 0, h, h2 =>
      cases h; cases h2
      exact absurd h3 (by decide)
    | 1, h, h2 =>
      cases h; cases h2
      exact absurd h3 (by decide)
    | _ + 2, h, h2 => cases h)⟩ F sc_least_start b_least_start ck_least_start⟩
theorem ok_ascending (hB : ∀ x ∈ bs, mg x = none) (h_compare : FP P w K mg base 6 "compare" s_compare)  {f : Addr} {fd : FuncData} (m : mg "ascending" = some (.ref f)) (F : Fun K "ascending" "ascending" (topS 20) f fd) : FP P w K mg base 7 "ascending" s_ascending :=
  ⟨f, fd, ["root", "numbers"], m, F.kp, F.binds (ps := ["root", "numbers"]) (fun _ _ _ _ _ _ us hl => match us, hl with | [_, _], _ => rfl), fn_ok (lvl := 6) ⟨hB, (fun j sem h => by
    match j, h with
    | 0, h =>
      cases h
      exact ⟨_, rfl, h_compare.mono (by omega)⟩
    | _ + 1, h => cases h), (fun j d h => by cases h), (fun j sem nm h h2 h3 => by
    match j, h, h2 with
    | 0, h, h2 =>
      cases h; cases h2
      exact absurd h3 (by decide)
    | _ + 1, h, h2 => cases h)⟩ F sc_ascending b_ascending ck_ascending⟩
theorem ok_end_of (hB : ∀ x ∈ bs, mg x = none) (h_plus : FP P w K mg base 4 "plus" s_plus) (h_side_at : FP P w K mg base 1 "side_at" s_side_at)  {f : Addr} {fd : FuncData} (m : mg "end_of" = some (.ref f)) (F : Fun K "end_of" "end_of" (topS 16) f fd) : FP P w K mg base 5 "end_of" s_end_of :=
  ⟨f, fd, ["kind", "tile"], m, F.kp, F.binds (ps := ["kind", "tile"]) (fun _ _ _ _ _ _ us hl => match us, hl with | [_, _], _ => rfl), fn_ok (lvl := 4) ⟨hB, (fun j sem h => by
    match j, h with
    | 0, h =>
      cases h
      exact ⟨_, rfl, h_plus.mono (by omega)⟩
    | 1, h =>
      cases h
      exact ⟨_, rfl, h_side_at.mono (by omega)⟩
    | _ + 2, h => cases h), (fun j d h => by cases h), (fun j sem nm h h2 h3 => by
    match j, h, h2 with
    | 0, h, h2 =>
      cases h; cases h2
      exact absurd h3 (by decide)
    | 1, h, h2 =>
      cases h; cases h2
      exact absurd h3 (by decide)
    | _ + 2, h, h2 => cases h)⟩ F sc_end_of b_end_of ck_end_of⟩
theorem ok_crosses (hB : ∀ x ∈ bs, mg x = none) (h_compare : FP P w K mg base 6 "compare" s_compare) (h_end_of : FP P w K mg base 5 "end_of" s_end_of) (h_start_of : FP P w K mg base 2 "start_of" s_start_of)  {f : Addr} {fd : FuncData} (m : mg "crosses" = some (.ref f)) (F : Fun K "crosses" "crosses" (topS 17) f fd) : FP P w K mg base 7 "crosses" s_crosses :=
  ⟨f, fd, ["root", "kind", "at", "tile"], m, F.kp, F.binds (ps := ["root", "kind", "at", "tile"]) (fun _ _ _ _ _ _ us hl => match us, hl with | [_, _, _, _], _ => rfl), fn_ok (lvl := 6) ⟨hB, (fun j sem h => by
    match j, h with
    | 0, h =>
      cases h
      exact ⟨_, rfl, h_compare.mono (by omega)⟩
    | 1, h =>
      cases h
      exact ⟨_, rfl, h_end_of.mono (by omega)⟩
    | 2, h =>
      cases h
      exact ⟨_, rfl, h_start_of.mono (by omega)⟩
    | _ + 3, h => cases h), (fun j d h => by cases h), (fun j sem nm h h2 h3 => by
    match j, h, h2 with
    | 0, h, h2 =>
      cases h; cases h2
      exact absurd h3 (by decide)
    | 1, h, h2 =>
      cases h; cases h2
      exact absurd h3 (by decide)
    | 2, h, h2 =>
      cases h; cases h2
      exact absurd h3 (by decide)
    | _ + 3, h, h2 => cases h)⟩ F sc_crosses b_crosses ck_crosses⟩
theorem ok_is_line (hB : ∀ x ∈ bs, mg x = none) (h_crosses : FP P w K mg base 7 "crosses" s_crosses)  {f : Addr} {fd : FuncData} (m : mg "is_line" = some (.ref f)) (F : Fun K "is_line" "is_line" (topS 18) f fd) : FP P w K mg base 8 "is_line" s_is_line :=
  ⟨f, fd, ["root", "kind", "at", "tiles"], m, F.kp, F.binds (ps := ["root", "kind", "at", "tiles"]) (fun _ _ _ _ _ _ us hl => match us, hl with | [_, _, _, _], _ => rfl), fn_ok (lvl := 7) ⟨hB, (fun j sem h => by
    match j, h with
    | 0, h =>
      cases h
      exact ⟨_, rfl, h_crosses.mono (by omega)⟩
    | _ + 1, h => cases h), (fun j d h => by cases h), (fun j sem nm h h2 h3 => by
    match j, h, h2 with
    | 0, h, h2 =>
      cases h; cases h2
      exact absurd h3 (by decide)
    | _ + 1, h, h2 => cases h)⟩ F sc_is_line b_is_line ck_is_line⟩
theorem ok_lines_through (hB : ∀ x ∈ bs, mg x = none) (h_least_start : FP P w K mg base 7 "least_start" s_least_start) (h_ascending : FP P w K mg base 7 "ascending" s_ascending) (h_start_of : FP P w K mg base 2 "start_of" s_start_of) (h_is_line : FP P w K mg base 8 "is_line" s_is_line)  {f : Addr} {fd : FuncData} (m : mg "lines_through" = some (.ref f)) (F : Fun K "lines_through" "lines_through" (topS 21) f fd) : FP P w K mg base 9 "lines_through" s_lines_through :=
  ⟨f, fd, ["root", "kind", "tiles"], m, F.kp, F.binds (ps := ["root", "kind", "tiles"]) (fun _ _ _ _ _ _ us hl => match us, hl with | [_, _, _], _ => rfl), fn_ok (lvl := 8) ⟨hB, (fun j sem h => by
    match j, h with
    | 0, h =>
      cases h
      exact ⟨_, rfl, h_least_start.mono (by omega)⟩
    | 1, h =>
      cases h
      exact ⟨_, rfl, h_ascending.mono (by omega)⟩
    | 2, h =>
      cases h
      exact ⟨_, rfl, h_start_of.mono (by omega)⟩
    | 3, h =>
      cases h
      exact ⟨_, rfl, h_is_line.mono (by omega)⟩
    | _ + 4, h => cases h), (fun j d h => by cases h), (fun j sem nm h h2 h3 => by
    match j, h, h2 with
    | 0, h, h2 =>
      cases h; cases h2
      exact absurd h3 (by decide)
    | 1, h, h2 =>
      cases h; cases h2
      exact absurd h3 (by decide)
    | 2, h, h2 =>
      cases h; cases h2
      exact absurd h3 (by decide)
    | 3, h, h2 =>
      cases h; cases h2
      exact absurd h3 (by decide)
    | _ + 4, h, h2 => cases h)⟩ F sc_lines_through b_lines_through ck_lines_through⟩
theorem ok_lines_of (hB : ∀ x ∈ bs, mg x = none) (h_lines_through : FP P w K mg base 9 "lines_through" s_lines_through) (z_Y : ∃ u v, mg "Y" = some u ∧ RelV v u ∧ ∀ F, En K F v (.str "y")) (z_X : ∃ u v, mg "X" = some u ∧ RelV v u ∧ ∀ F, En K F v (.str "x")) {f : Addr} {fd : FuncData} (m : mg "lines_of" = some (.ref f)) (F : Fun K "lines_of" "lines_of" (topS 22) f fd) : FP P w K mg base 10 "lines_of" s_lines_of :=
  ⟨f, fd, ["root", "sheet", "tiles"], m, F.kp, F.binds (ps := ["root", "sheet", "tiles"]) (fun _ _ _ _ _ _ us hl => match us, hl with | [_, _, _], _ => rfl), fn_ok (lvl := 9) ⟨hB, (fun j sem h => by
    match j, h with
    | 0, h =>
      cases h
      exact ⟨_, rfl, h_lines_through.mono (by omega)⟩
    | _ + 1, h => cases h), (fun j d h => by
    match j, h with
    | 0, h =>
      cases h
      obtain ⟨u, v, k1, k2, k3⟩ := z_Y
      exact ⟨_, u, v, rfl, k1, k2, k3⟩
    | 1, h =>
      cases h
      obtain ⟨u, v, k1, k2, k3⟩ := z_X
      exact ⟨_, u, v, rfl, k1, k2, k3⟩
    | _ + 2, h => cases h), (fun j sem nm h h2 h3 => by
    match j, h, h2 with
    | 0, h, h2 =>
      cases h; cases h2
      exact absurd h3 (by decide)
    | _ + 1, h, h2 => cases h)⟩ F sc_lines_of b_lines_of ck_lines_of⟩
theorem ok__law_is_number (hB : ∀ x ∈ bs, mg x = none)   {f : Addr} {fd : FuncData} (m : mg "_law_is_number" = some (.ref f)) (F : Fun K "_law_is_number" "_law_is_number" (topS 25) f fd) : FP P w K mg base 1 "_law_is_number" s__law_is_number :=
  ⟨f, fd, ["value"], m, F.kp, F.binds (ps := ["value"]) (fun _ _ _ _ _ _ us hl => match us, hl with | [_], _ => rfl), fn_ok (lvl := 0) ⟨hB, (fun j sem h => by cases h), (fun j d h => by cases h), (fun j sem nm h h2 h3 => by cases h)⟩ F sc__law_is_number b__law_is_number ck__law_is_number⟩
theorem ok__law_is_numbers (hB : ∀ x ∈ bs, mg x = none) (h__law_is_number : FP P w K mg base 1 "_law_is_number" s__law_is_number)  {f : Addr} {fd : FuncData} (m : mg "_law_is_numbers" = some (.ref f)) (F : Fun K "_law_is_numbers" "_law_is_numbers" (topS 26) f fd) : FP P w K mg base 2 "_law_is_numbers" s__law_is_numbers :=
  ⟨f, fd, ["value"], m, F.kp, F.binds (ps := ["value"]) (fun _ _ _ _ _ _ us hl => match us, hl with | [_], _ => rfl), fn_ok (lvl := 1) ⟨hB, (fun j sem h => by
    match j, h with
    | 0, h =>
      cases h
      exact ⟨_, rfl, h__law_is_number.mono (by omega)⟩
    | _ + 1, h => cases h), (fun j d h => by cases h), (fun j sem nm h h2 h3 => by
    match j, h, h2 with
    | 0, h, h2 =>
      cases h; cases h2
      exact absurd h3 (by decide)
    | _ + 1, h, h2 => cases h)⟩ F sc__law_is_numbers b__law_is_numbers ck__law_is_numbers⟩
theorem ok__law_is_length (hB : ∀ x ∈ bs, mg x = none) (h__law_is_numbers : FP P w K mg base 2 "_law_is_numbers" s__law_is_numbers) (h__law_gcd : FP P w K mg base 1 "_law_gcd" s__law_gcd)  {f : Addr} {fd : FuncData} (m : mg "_law_is_length" = some (.ref f)) (F : Fun K "_law_is_length" "_law_is_length" (topS 36) f fd) : FP P w K mg base 3 "_law_is_length" s__law_is_length :=
  ⟨f, fd, ["value"], m, F.kp, F.binds (ps := ["value"]) (fun _ _ _ _ _ _ us hl => match us, hl with | [_], _ => rfl), fn_ok (lvl := 2) ⟨hB, (fun j sem h => by
    match j, h with
    | 0, h =>
      cases h
      exact ⟨_, rfl, h__law_is_numbers.mono (by omega)⟩
    | 1, h =>
      cases h
      exact ⟨_, rfl, h__law_gcd.mono (by omega)⟩
    | _ + 2, h => cases h), (fun j d h => by cases h), (fun j sem nm h h2 h3 => by
    match j, h, h2 with
    | 0, h, h2 =>
      cases h; cases h2
      exact absurd h3 (by decide)
    | 1, h, h2 =>
      cases h; cases h2
      exact absurd h3 (by decide)
    | _ + 2, h, h2 => cases h)⟩ F sc__law_is_length b__law_is_length ck__law_is_length⟩
theorem ok__law_turned (hB : ∀ x ∈ bs, mg x = none)   {f : Addr} {fd : FuncData} (m : mg "_law_turned" = some (.ref f)) (F : Fun K "_law_turned" "_law_turned" (topS 48) f fd) : FP P w K mg base 1 "_law_turned" s__law_turned :=
  ⟨f, fd, ["tiles"], m, F.kp, F.binds (ps := ["tiles"]) (fun _ _ _ _ _ _ us hl => match us, hl with | [_], _ => rfl), fn_ok (lvl := 0) ⟨hB, (fun j sem h => by cases h), (fun j d h => by cases h), (fun j sem nm h h2 h3 => by cases h)⟩ F sc__law_turned b__law_turned ck__law_turned⟩
theorem ok__law_told (hB : ∀ x ∈ bs, mg x = none) (h__law_lines : FP P w K mg base 7 "_law_lines" s__law_lines) (h__law_copied : FP P w K mg base 1 "_law_copied" s__law_copied) (h_lines_of : FP P w K mg base 10 "lines_of" s_lines_of) (h__law_is_length : FP P w K mg base 3 "_law_is_length" s__law_is_length) (h__law_in_order : FP P w K mg base 7 "_law_in_order" s__law_in_order) (h__law_turned : FP P w K mg base 1 "_law_turned" s__law_turned)  {f : Addr} {fd : FuncData} (m : mg "_law_told" = some (.ref f)) (F : Fun K "_law_told" "_law_told" (topS 52) f fd) : FP P w K mg base 11 "_law_told" s__law_told :=
  ⟨f, fd, ["root", "sheet", "tiles"], m, F.kp, F.binds (ps := ["root", "sheet", "tiles"]) (fun _ _ _ _ _ _ us hl => match us, hl with | [_, _, _], _ => rfl), fn_ok (lvl := 10) ⟨hB, (fun j sem h => by
    match j, h with
    | 0, h =>
      cases h
      exact ⟨_, rfl, h__law_lines.mono (by omega)⟩
    | 1, h =>
      cases h
      exact ⟨_, rfl, h__law_copied.mono (by omega)⟩
    | 2, h =>
      cases h
      exact ⟨_, rfl, h_lines_of.mono (by omega)⟩
    | 3, h =>
      cases h
      exact ⟨_, rfl, h__law_is_length.mono (by omega)⟩
    | 4, h =>
      cases h
      exact ⟨_, rfl, h__law_in_order.mono (by omega)⟩
    | 5, h =>
      cases h
      exact ⟨_, rfl, h__law_turned.mono (by omega)⟩
    | _ + 6, h => cases h), (fun j d h => by cases h), (fun j sem nm h h2 h3 => by
    match j, h, h2 with
    | 0, h, h2 =>
      cases h; cases h2
      exact absurd h3 (by decide)
    | 1, h, h2 =>
      cases h; cases h2
      exact absurd h3 (by decide)
    | 2, h, h2 =>
      cases h; cases h2
      exact absurd h3 (by decide)
    | 3, h, h2 =>
      cases h; cases h2
      exact absurd h3 (by decide)
    | 4, h, h2 =>
      cases h; cases h2
      exact absurd h3 (by decide)
    | 5, h, h2 =>
      cases h; cases h2
      exact absurd h3 (by decide)
    | _ + 6, h, h2 => cases h)⟩ F sc__law_told b__law_told ck__law_told⟩
theorem ok__law_moved (hB : ∀ x ∈ bs, mg x = none) (h__law_add : FP P w K mg base 3 "_law_add" s__law_add)  {f : Addr} {fd : FuncData} (m : mg "_law_moved" = some (.ref f)) (F : Fun K "_law_moved" "_law_moved" (topS 47) f fd) : FP P w K mg base 4 "_law_moved" s__law_moved :=
  ⟨f, fd, ["root", "tiles", "x", "y"], m, F.kp, F.binds (ps := ["root", "tiles", "x", "y"]) (fun _ _ _ _ _ _ us hl => match us, hl with | [_, _, _, _], _ => rfl), fn_ok (lvl := 3) ⟨hB, (fun j sem h => by
    match j, h with
    | 0, h =>
      cases h
      exact ⟨_, rfl, h__law_add.mono (by omega)⟩
    | _ + 1, h => cases h), (fun j d h => by cases h), (fun j sem nm h h2 h3 => by
    match j, h, h2 with
    | 0, h, h2 =>
      cases h; cases h2
      exact absurd h3 (by decide)
    | _ + 1, h, h2 => cases h)⟩ F sc__law_moved b__law_moved ck__law_moved⟩
theorem ok__law_grid (hB : ∀ x ∈ bs, mg x = none) (h__law_by : FP P w K mg base 4 "_law_by" s__law_by) (h__law_times : FP P w K mg base 3 "_law_times" s__law_times)  {f : Addr} {fd : FuncData} (m : mg "_law_grid" = some (.ref f)) (F : Fun K "_law_grid" "_law_grid" (topS 49) f fd) : FP P w K mg base 5 "_law_grid" s__law_grid :=
  ⟨f, fd, ["root", "sheet", "columns", "rows"], m, F.kp, F.binds (ps := ["root", "sheet", "columns", "rows"]) (fun _ _ _ _ _ _ us hl => match us, hl with | [_, _, _, _], _ => rfl), fn_ok (lvl := 4) ⟨hB, (fun j sem h => by
    match j, h with
    | 0, h =>
      cases h
      exact ⟨_, rfl, h__law_by.mono (by omega)⟩
    | 1, h =>
      cases h
      exact ⟨_, rfl, h__law_times.mono (by omega)⟩
    | _ + 2, h => cases h), (fun j d h => by cases h), (fun j sem nm h h2 h3 => by
    match j, h, h2 with
    | 0, h, h2 =>
      cases h; cases h2
      exact absurd h3 (by decide)
    | 1, h, h2 =>
      cases h; cases h2
      exact absurd h3 (by decide)
    | _ + 2, h, h2 => cases h)⟩ F sc__law_grid b__law_grid ck__law_grid⟩
theorem ok_law (hB : ∀ x ∈ bs, mg x = none) (h__law_draws : FP P w K mg base 1 "_law_draws" s__law_draws) (h__law_root : FP P w K mg base 1 "_law_root" s__law_root) (h__law_sheet : FP P w K mg base 5 "_law_sheet" s__law_sheet) (h__law_tiles : FP P w K mg base 8 "_law_tiles" s__law_tiles) (h__law_told : FP P w K mg base 11 "_law_told" s__law_told) (h__law_above : FP P w K mg base 4 "_law_above" s__law_above) (h__law_add : FP P w K mg base 3 "_law_add" s__law_add) (h__law_in_order : FP P w K mg base 7 "_law_in_order" s__law_in_order) (h__law_moved : FP P w K mg base 4 "_law_moved" s__law_moved) (h__law_grid : FP P w K mg base 5 "_law_grid" s__law_grid) (h__law_wheel : FP P w K mg base 4 "_law_wheel" s__law_wheel) (h_lines_of : FP P w K mg base 10 "lines_of" s_lines_of)  {f : Addr} {fd : FuncData} (m : mg "law" = some (.ref f)) (F : Fun K "law" "law" (topS 53) f fd) : FP P w K mg base 12 "law" s_law :=
  ⟨f, fd, ["script"], m, F.kp, F.binds (ps := ["script"]) (fun _ _ _ _ _ _ us hl => match us, hl with | [_], _ => rfl), fn_ok (lvl := 11) ⟨hB, (fun j sem h => by
    match j, h with
    | 0, h =>
      cases h
      exact ⟨_, rfl, h__law_draws.mono (by omega)⟩
    | 1, h =>
      cases h
      exact ⟨_, rfl, h__law_root.mono (by omega)⟩
    | 2, h =>
      cases h
      exact ⟨_, rfl, h__law_sheet.mono (by omega)⟩
    | 3, h =>
      cases h
      exact ⟨_, rfl, h__law_tiles.mono (by omega)⟩
    | 4, h =>
      cases h
      exact ⟨_, rfl, h__law_told.mono (by omega)⟩
    | 5, h =>
      cases h
      exact ⟨_, rfl, h__law_above.mono (by omega)⟩
    | 6, h =>
      cases h
      exact ⟨_, rfl, h__law_add.mono (by omega)⟩
    | 7, h =>
      cases h
      exact ⟨_, rfl, h__law_in_order.mono (by omega)⟩
    | 8, h =>
      cases h
      exact ⟨_, rfl, h__law_moved.mono (by omega)⟩
    | 9, h =>
      cases h
      exact ⟨_, rfl, h__law_grid.mono (by omega)⟩
    | 10, h =>
      cases h
      exact ⟨_, rfl, h__law_wheel.mono (by omega)⟩
    | 11, h =>
      cases h
      exact ⟨_, rfl, h_lines_of.mono (by omega)⟩
    | _ + 12, h => cases h), (fun j d h => by cases h), (fun j sem nm h h2 h3 => by
    match j, h, h2 with
    | 0, h, h2 =>
      cases h; cases h2
      exact absurd h3 (by decide)
    | 1, h, h2 =>
      cases h; cases h2
      exact absurd h3 (by decide)
    | 2, h, h2 =>
      cases h; cases h2
      exact absurd h3 (by decide)
    | 3, h, h2 =>
      cases h; cases h2
      exact absurd h3 (by decide)
    | 4, h, h2 =>
      cases h; cases h2
      exact absurd h3 (by decide)
    | 5, h, h2 =>
      cases h; cases h2
      exact absurd h3 (by decide)
    | 6, h, h2 =>
      cases h; cases h2
      exact absurd h3 (by decide)
    | 7, h, h2 =>
      cases h; cases h2
      exact absurd h3 (by decide)
    | 8, h, h2 =>
      cases h; cases h2
      exact absurd h3 (by decide)
    | 9, h, h2 =>
      cases h; cases h2
      exact absurd h3 (by decide)
    | 10, h, h2 =>
      cases h; cases h2
      exact absurd h3 (by decide)
    | 11, h, h2 =>
      cases h; cases h2
      exact absurd h3 (by decide)
    | _ + 12, h, h2 => cases h)⟩ F sc_law b_law ck_law⟩
end
theorem all_mk {l : PySem.W.OpenLaw} {w : World} {K : PySem.W.Frag} {h : Heap} {mg : Str → Option Value} {fa : Addr} (X : K.In h) (G : h.Ns mainGlobals mg) (hfa : mg "law" = some (.ref fa))
    {f24 : Addr} {od24 an24 : Option Addr} {sl24 : Array (Option Value)} {oc24 kV24 dc24 pm24 cd24 ct24 : Value} (a24 : PySem.W.nsIn K mainGlobals "_law_draws" = some (some (.ref f24))) (l24 : K.lookup f24 = some ⟨oc24, od24, .func (PySem.W.fnOf "_law_draws" "_law_draws" (defArgs (topS 24)) (defBody (topS 24)) (defScope (topS 24)) .none kV24 dc24 pm24 an24 cd24 ct24), sl24⟩) (c24 : PySem.W.codeIn K cd24 "_law_draws" = true) (k24 : PySem.W.keepIn K (.ref f24) = true)
    {f35 : Addr} {od35 an35 : Option Addr} {sl35 : Array (Option Value)} {oc35 kV35 dc35 pm35 cd35 ct35 : Value} (a35 : PySem.W.nsIn K mainGlobals "_law_root" = some (some (.ref f35))) (l35 : K.lookup f35 = some ⟨oc35, od35, .func (PySem.W.fnOf "_law_root" "_law_root" (defArgs (topS 35)) (defBody (topS 35)) (defScope (topS 35)) .none kV35 dc35 pm35 an35 cd35 ct35), sl35⟩) (c35 : PySem.W.codeIn K cd35 "_law_root" = true) (k35 : PySem.W.keepIn K (.ref f35) = true)
    {f27 : Addr} {od27 an27 : Option Addr} {sl27 : Array (Option Value)} {oc27 kV27 dc27 pm27 cd27 ct27 : Value} (a27 : PySem.W.nsIn K mainGlobals "_law_gcd" = some (some (.ref f27))) (l27 : K.lookup f27 = some ⟨oc27, od27, .func (PySem.W.fnOf "_law_gcd" "_law_gcd" (defArgs (topS 27)) (defBody (topS 27)) (defScope (topS 27)) .none kV27 dc27 pm27 an27 cd27 ct27), sl27⟩) (c27 : PySem.W.codeIn K cd27 "_law_gcd" = true) (k27 : PySem.W.keepIn K (.ref f27) = true)
    {f28 : Addr} {od28 an28 : Option Addr} {sl28 : Array (Option Value)} {oc28 kV28 dc28 pm28 cd28 ct28 : Value} (a28 : PySem.W.nsIn K mainGlobals "_law_norm" = some (some (.ref f28))) (l28 : K.lookup f28 = some ⟨oc28, od28, .func (PySem.W.fnOf "_law_norm" "_law_norm" (defArgs (topS 28)) (defBody (topS 28)) (defScope (topS 28)) .none kV28 dc28 pm28 an28 cd28 ct28), sl28⟩) (c28 : PySem.W.codeIn K cd28 "_law_norm" = true) (k28 : PySem.W.keepIn K (.ref f28) = true)
    {f37 : Addr} {od37 an37 : Option Addr} {sl37 : Array (Option Value)} {oc37 kV37 dc37 pm37 cd37 ct37 : Value} (a37 : PySem.W.nsIn K mainGlobals "_law_number" = some (some (.ref f37))) (l37 : K.lookup f37 = some ⟨oc37, od37, .func (PySem.W.fnOf "_law_number" "_law_number" (defArgs (topS 37)) (defBody (topS 37)) (defScope (topS 37)) .none kV37 dc37 pm37 an37 cd37 ct37), sl37⟩) (c37 : PySem.W.codeIn K cd37 "_law_number" = true) (k37 : PySem.W.keepIn K (.ref f37) = true)
    {f33 : Addr} {od33 an33 : Option Addr} {sl33 : Array (Option Value)} {oc33 kV33 dc33 pm33 cd33 ct33 : Value} (a33 : PySem.W.nsIn K mainGlobals "_law_sign" = some (some (.ref f33))) (l33 : K.lookup f33 = some ⟨oc33, od33, .func (PySem.W.fnOf "_law_sign" "_law_sign" (defArgs (topS 33)) (defBody (topS 33)) (defScope (topS 33)) .none kV33 dc33 pm33 an33 cd33 ct33), sl33⟩) (c33 : PySem.W.codeIn K cd33 "_law_sign" = true) (k33 : PySem.W.keepIn K (.ref f33) = true)
    {f38 : Addr} {od38 an38 : Option Addr} {sl38 : Array (Option Value)} {oc38 kV38 dc38 pm38 cd38 ct38 : Value} (a38 : PySem.W.nsIn K mainGlobals "_law_above" = some (some (.ref f38))) (l38 : K.lookup f38 = some ⟨oc38, od38, .func (PySem.W.fnOf "_law_above" "_law_above" (defArgs (topS 38)) (defBody (topS 38)) (defScope (topS 38)) .none kV38 dc38 pm38 an38 cd38 ct38), sl38⟩) (c38 : PySem.W.codeIn K cd38 "_law_above" = true) (k38 : PySem.W.keepIn K (.ref f38) = true)
    {f46 : Addr} {od46 an46 : Option Addr} {sl46 : Array (Option Value)} {oc46 kV46 dc46 pm46 cd46 ct46 : Value} (a46 : PySem.W.nsIn K mainGlobals "_law_sheet" = some (some (.ref f46))) (l46 : K.lookup f46 = some ⟨oc46, od46, .func (PySem.W.fnOf "_law_sheet" "_law_sheet" (defArgs (topS 46)) (defBody (topS 46)) (defScope (topS 46)) .none kV46 dc46 pm46 an46 cd46 ct46), sl46⟩) (c46 : PySem.W.codeIn K cd46 "_law_sheet" = true) (k46 : PySem.W.keepIn K (.ref f46) = true)
    {f31 : Addr} {od31 an31 : Option Addr} {sl31 : Array (Option Value)} {oc31 kV31 dc31 pm31 cd31 ct31 : Value} (a31 : PySem.W.nsIn K mainGlobals "_law_times" = some (some (.ref f31))) (l31 : K.lookup f31 = some ⟨oc31, od31, .func (PySem.W.fnOf "_law_times" "_law_times" (defArgs (topS 31)) (defBody (topS 31)) (defScope (topS 31)) .none kV31 dc31 pm31 an31 cd31 ct31), sl31⟩) (c31 : PySem.W.codeIn K cd31 "_law_times" = true) (k31 : PySem.W.keepIn K (.ref f31) = true)
    {f32 : Addr} {od32 an32 : Option Addr} {sl32 : Array (Option Value)} {oc32 kV32 dc32 pm32 cd32 ct32 : Value} (a32 : PySem.W.nsIn K mainGlobals "_law_by" = some (some (.ref f32))) (l32 : K.lookup f32 = some ⟨oc32, od32, .func (PySem.W.fnOf "_law_by" "_law_by" (defArgs (topS 32)) (defBody (topS 32)) (defScope (topS 32)) .none kV32 dc32 pm32 an32 cd32 ct32), sl32⟩) (c32 : PySem.W.codeIn K cd32 "_law_by" = true) (k32 : PySem.W.keepIn K (.ref f32) = true)
    {f29 : Addr} {od29 an29 : Option Addr} {sl29 : Array (Option Value)} {oc29 kV29 dc29 pm29 cd29 ct29 : Value} (a29 : PySem.W.nsIn K mainGlobals "_law_add" = some (some (.ref f29))) (l29 : K.lookup f29 = some ⟨oc29, od29, .func (PySem.W.fnOf "_law_add" "_law_add" (defArgs (topS 29)) (defBody (topS 29)) (defScope (topS 29)) .none kV29 dc29 pm29 an29 cd29 ct29), sl29⟩) (c29 : PySem.W.codeIn K cd29 "_law_add" = true) (k29 : PySem.W.keepIn K (.ref f29) = true)
    {f30 : Addr} {od30 an30 : Option Addr} {sl30 : Array (Option Value)} {oc30 kV30 dc30 pm30 cd30 ct30 : Value} (a30 : PySem.W.nsIn K mainGlobals "_law_minus" = some (some (.ref f30))) (l30 : K.lookup f30 = some ⟨oc30, od30, .func (PySem.W.fnOf "_law_minus" "_law_minus" (defArgs (topS 30)) (defBody (topS 30)) (defScope (topS 30)) .none kV30 dc30 pm30 an30 cd30 ct30), sl30⟩) (c30 : PySem.W.codeIn K cd30 "_law_minus" = true) (k30 : PySem.W.keepIn K (.ref f30) = true)
    {f42 : Addr} {od42 an42 : Option Addr} {sl42 : Array (Option Value)} {oc42 kV42 dc42 pm42 cd42 ct42 : Value} (a42 : PySem.W.nsIn K mainGlobals "_law_halved" = some (some (.ref f42))) (l42 : K.lookup f42 = some ⟨oc42, od42, .func (PySem.W.fnOf "_law_halved" "_law_halved" (defArgs (topS 42)) (defBody (topS 42)) (defScope (topS 42)) .none kV42 dc42 pm42 an42 cd42 ct42), sl42⟩) (c42 : PySem.W.codeIn K cd42 "_law_halved" = true) (k42 : PySem.W.keepIn K (.ref f42) = true)
    {f43 : Addr} {od43 an43 : Option Addr} {sl43 : Array (Option Value)} {oc43 kV43 dc43 pm43 cd43 ct43 : Value} (a43 : PySem.W.nsIn K mainGlobals "_law_wheel" = some (some (.ref f43))) (l43 : K.lookup f43 = some ⟨oc43, od43, .func (PySem.W.fnOf "_law_wheel" "_law_wheel" (defArgs (topS 43)) (defBody (topS 43)) (defScope (topS 43)) .none kV43 dc43 pm43 an43 cd43 ct43), sl43⟩) (c43 : PySem.W.codeIn K cd43 "_law_wheel" = true) (k43 : PySem.W.keepIn K (.ref f43) = true)
    {f34 : Addr} {od34 an34 : Option Addr} {sl34 : Array (Option Value)} {oc34 kV34 dc34 pm34 cd34 ct34 : Value} (a34 : PySem.W.nsIn K mainGlobals "_law_less" = some (some (.ref f34))) (l34 : K.lookup f34 = some ⟨oc34, od34, .func (PySem.W.fnOf "_law_less" "_law_less" (defArgs (topS 34)) (defBody (topS 34)) (defScope (topS 34)) .none kV34 dc34 pm34 an34 cd34 ct34), sl34⟩) (c34 : PySem.W.codeIn K cd34 "_law_less" = true) (k34 : PySem.W.keepIn K (.ref f34) = true)
    {f40 : Addr} {od40 an40 : Option Addr} {sl40 : Array (Option Value)} {oc40 kV40 dc40 pm40 cd40 ct40 : Value} (a40 : PySem.W.nsIn K mainGlobals "_law_before" = some (some (.ref f40))) (l40 : K.lookup f40 = some ⟨oc40, od40, .func (PySem.W.fnOf "_law_before" "_law_before" (defArgs (topS 40)) (defBody (topS 40)) (defScope (topS 40)) .none kV40 dc40 pm40 an40 cd40 ct40), sl40⟩) (c40 : PySem.W.codeIn K cd40 "_law_before" = true) (k40 : PySem.W.keepIn K (.ref f40) = true)
    {f41 : Addr} {od41 an41 : Option Addr} {sl41 : Array (Option Value)} {oc41 kV41 dc41 pm41 cd41 ct41 : Value} (a41 : PySem.W.nsIn K mainGlobals "_law_in_order" = some (some (.ref f41))) (l41 : K.lookup f41 = some ⟨oc41, od41, .func (PySem.W.fnOf "_law_in_order" "_law_in_order" (defArgs (topS 41)) (defBody (topS 41)) (defScope (topS 41)) .none kV41 dc41 pm41 an41 cd41 ct41), sl41⟩) (c41 : PySem.W.codeIn K cd41 "_law_in_order" = true) (k41 : PySem.W.keepIn K (.ref f41) = true)
    {f44 : Addr} {od44 an44 : Option Addr} {sl44 : Array (Option Value)} {oc44 kV44 dc44 pm44 cd44 ct44 : Value} (a44 : PySem.W.nsIn K mainGlobals "_law_tiles" = some (some (.ref f44))) (l44 : K.lookup f44 = some ⟨oc44, od44, .func (PySem.W.fnOf "_law_tiles" "_law_tiles" (defArgs (topS 44)) (defBody (topS 44)) (defScope (topS 44)) .none kV44 dc44 pm44 an44 cd44 ct44), sl44⟩) (c44 : PySem.W.codeIn K cd44 "_law_tiles" = true) (k44 : PySem.W.keepIn K (.ref f44) = true)
    {f50 : Addr} {od50 an50 : Option Addr} {sl50 : Array (Option Value)} {oc50 kV50 dc50 pm50 cd50 ct50 : Value} (a50 : PySem.W.nsIn K mainGlobals "_law_sorted" = some (some (.ref f50))) (l50 : K.lookup f50 = some ⟨oc50, od50, .func (PySem.W.fnOf "_law_sorted" "_law_sorted" (defArgs (topS 50)) (defBody (topS 50)) (defScope (topS 50)) .none kV50 dc50 pm50 an50 cd50 ct50), sl50⟩) (c50 : PySem.W.codeIn K cd50 "_law_sorted" = true) (k50 : PySem.W.keepIn K (.ref f50) = true)
    {f39 : Addr} {od39 an39 : Option Addr} {sl39 : Array (Option Value)} {oc39 kV39 dc39 pm39 cd39 ct39 : Value} (a39 : PySem.W.nsIn K mainGlobals "_law_ends" = some (some (.ref f39))) (l39 : K.lookup f39 = some ⟨oc39, od39, .func (PySem.W.fnOf "_law_ends" "_law_ends" (defArgs (topS 39)) (defBody (topS 39)) (defScope (topS 39)) .none kV39 dc39 pm39 an39 cd39 ct39), sl39⟩) (c39 : PySem.W.codeIn K cd39 "_law_ends" = true) (k39 : PySem.W.keepIn K (.ref f39) = true)
    {f51 : Addr} {od51 an51 : Option Addr} {sl51 : Array (Option Value)} {oc51 kV51 dc51 pm51 cd51 ct51 : Value} (a51 : PySem.W.nsIn K mainGlobals "_law_lines" = some (some (.ref f51))) (l51 : K.lookup f51 = some ⟨oc51, od51, .func (PySem.W.fnOf "_law_lines" "_law_lines" (defArgs (topS 51)) (defBody (topS 51)) (defScope (topS 51)) .none kV51 dc51 pm51 an51 cd51 ct51), sl51⟩) (c51 : PySem.W.codeIn K cd51 "_law_lines" = true) (k51 : PySem.W.keepIn K (.ref f51) = true)
    {f45 : Addr} {od45 an45 : Option Addr} {sl45 : Array (Option Value)} {oc45 kV45 dc45 pm45 cd45 ct45 : Value} (a45 : PySem.W.nsIn K mainGlobals "_law_copied" = some (some (.ref f45))) (l45 : K.lookup f45 = some ⟨oc45, od45, .func (PySem.W.fnOf "_law_copied" "_law_copied" (defArgs (topS 45)) (defBody (topS 45)) (defScope (topS 45)) .none kV45 dc45 pm45 an45 cd45 ct45), sl45⟩) (c45 : PySem.W.codeIn K cd45 "_law_copied" = true) (k45 : PySem.W.keepIn K (.ref f45) = true)
    {f14 : Addr} {od14 an14 : Option Addr} {sl14 : Array (Option Value)} {oc14 kV14 dc14 pm14 cd14 ct14 : Value} (a14 : PySem.W.nsIn K mainGlobals "side_at" = some (some (.ref f14))) (l14 : K.lookup f14 = some ⟨oc14, od14, .func (PySem.W.fnOf "side_at" "side_at" (defArgs (topS 14)) (defBody (topS 14)) (defScope (topS 14)) .none kV14 dc14 pm14 an14 cd14 ct14), sl14⟩) (c14 : PySem.W.codeIn K cd14 "side_at" = true) (k14 : PySem.W.keepIn K (.ref f14) = true)
    {f15 : Addr} {od15 an15 : Option Addr} {sl15 : Array (Option Value)} {oc15 kV15 dc15 pm15 cd15 ct15 : Value} (a15 : PySem.W.nsIn K mainGlobals "start_of" = some (some (.ref f15))) (l15 : K.lookup f15 = some ⟨oc15, od15, .func (PySem.W.fnOf "start_of" "start_of" (defArgs (topS 15)) (defBody (topS 15)) (defScope (topS 15)) .none kV15 dc15 pm15 an15 cd15 ct15), sl15⟩) (c15 : PySem.W.codeIn K cd15 "start_of" = true) (k15 : PySem.W.keepIn K (.ref f15) = true)
    {f8 : Addr} {od8 an8 : Option Addr} {sl8 : Array (Option Value)} {oc8 kV8 dc8 pm8 cd8 ct8 : Value} (a8 : PySem.W.nsIn K mainGlobals "sign_of_number" = some (some (.ref f8))) (l8 : K.lookup f8 = some ⟨oc8, od8, .func (PySem.W.fnOf "sign_of_number" "sign_of_number" (defArgs (topS 8)) (defBody (topS 8)) (defScope (topS 8)) .none kV8 dc8 pm8 an8 cd8 ct8), sl8⟩) (c8 : PySem.W.codeIn K cd8 "sign_of_number" = true) (k8 : PySem.W.keepIn K (.ref f8) = true)
    {f9 : Addr} {od9 an9 : Option Addr} {sl9 : Array (Option Value)} {oc9 kV9 dc9 pm9 cd9 ct9 : Value} (a9 : PySem.W.nsIn K mainGlobals "sign_of" = some (some (.ref f9))) (l9 : K.lookup f9 = some ⟨oc9, od9, .func (PySem.W.fnOf "sign_of" "sign_of" (defArgs (topS 9)) (defBody (topS 9)) (defScope (topS 9)) .none kV9 dc9 pm9 an9 cd9 ct9), sl9⟩) (c9 : PySem.W.codeIn K cd9 "sign_of" = true) (k9 : PySem.W.keepIn K (.ref f9) = true)
    {f1 : Addr} {od1 an1 : Option Addr} {sl1 : Array (Option Value)} {oc1 kV1 dc1 pm1 cd1 ct1 : Value} (a1 : PySem.W.nsIn K mainGlobals "common_divisor" = some (some (.ref f1))) (l1 : K.lookup f1 = some ⟨oc1, od1, .func (PySem.W.fnOf "common_divisor" "common_divisor" (defArgs (topS 1)) (defBody (topS 1)) (defScope (topS 1)) .none kV1 dc1 pm1 an1 cd1 ct1), sl1⟩) (c1 : PySem.W.codeIn K cd1 "common_divisor" = true) (k1 : PySem.W.keepIn K (.ref f1) = true)
    {f2 : Addr} {od2 an2 : Option Addr} {sl2 : Array (Option Value)} {oc2 kV2 dc2 pm2 cd2 ct2 : Value} (a2 : PySem.W.nsIn K mainGlobals "common_of_three" = some (some (.ref f2))) (l2 : K.lookup f2 = some ⟨oc2, od2, .func (PySem.W.fnOf "common_of_three" "common_of_three" (defArgs (topS 2)) (defBody (topS 2)) (defScope (topS 2)) .none kV2 dc2 pm2 an2 cd2 ct2), sl2⟩) (c2 : PySem.W.codeIn K cd2 "common_of_three" = true) (k2 : PySem.W.keepIn K (.ref f2) = true)
    {f3 : Addr} {od3 an3 : Option Addr} {sl3 : Array (Option Value)} {oc3 kV3 dc3 pm3 cd3 ct3 : Value} (a3 : PySem.W.nsIn K mainGlobals "length" = some (some (.ref f3))) (l3 : K.lookup f3 = some ⟨oc3, od3, .func (PySem.W.fnOf "length" "length" (defArgs (topS 3)) (defBody (topS 3)) (defScope (topS 3)) .none kV3 dc3 pm3 an3 cd3 ct3), sl3⟩) (c3 : PySem.W.codeIn K cd3 "length" = true) (k3 : PySem.W.keepIn K (.ref f3) = true)
    {f4 : Addr} {od4 an4 : Option Addr} {sl4 : Array (Option Value)} {oc4 kV4 dc4 pm4 cd4 ct4 : Value} (a4 : PySem.W.nsIn K mainGlobals "plus" = some (some (.ref f4))) (l4 : K.lookup f4 = some ⟨oc4, od4, .func (PySem.W.fnOf "plus" "plus" (defArgs (topS 4)) (defBody (topS 4)) (defScope (topS 4)) .none kV4 dc4 pm4 an4 cd4 ct4), sl4⟩) (c4 : PySem.W.codeIn K cd4 "plus" = true) (k4 : PySem.W.keepIn K (.ref f4) = true)
    {f5 : Addr} {od5 an5 : Option Addr} {sl5 : Array (Option Value)} {oc5 kV5 dc5 pm5 cd5 ct5 : Value} (a5 : PySem.W.nsIn K mainGlobals "negative" = some (some (.ref f5))) (l5 : K.lookup f5 = some ⟨oc5, od5, .func (PySem.W.fnOf "negative" "negative" (defArgs (topS 5)) (defBody (topS 5)) (defScope (topS 5)) .none kV5 dc5 pm5 an5 cd5 ct5), sl5⟩) (c5 : PySem.W.codeIn K cd5 "negative" = true) (k5 : PySem.W.keepIn K (.ref f5) = true)
    {f6 : Addr} {od6 an6 : Option Addr} {sl6 : Array (Option Value)} {oc6 kV6 dc6 pm6 cd6 ct6 : Value} (a6 : PySem.W.nsIn K mainGlobals "minus" = some (some (.ref f6))) (l6 : K.lookup f6 = some ⟨oc6, od6, .func (PySem.W.fnOf "minus" "minus" (defArgs (topS 6)) (defBody (topS 6)) (defScope (topS 6)) .none kV6 dc6 pm6 an6 cd6 ct6), sl6⟩) (c6 : PySem.W.codeIn K cd6 "minus" = true) (k6 : PySem.W.keepIn K (.ref f6) = true)
    {f10 : Addr} {od10 an10 : Option Addr} {sl10 : Array (Option Value)} {oc10 kV10 dc10 pm10 cd10 ct10 : Value} (a10 : PySem.W.nsIn K mainGlobals "compare" = some (some (.ref f10))) (l10 : K.lookup f10 = some ⟨oc10, od10, .func (PySem.W.fnOf "compare" "compare" (defArgs (topS 10)) (defBody (topS 10)) (defScope (topS 10)) .none kV10 dc10 pm10 an10 cd10 ct10), sl10⟩) (c10 : PySem.W.codeIn K cd10 "compare" = true) (k10 : PySem.W.keepIn K (.ref f10) = true)
    {f19 : Addr} {od19 an19 : Option Addr} {sl19 : Array (Option Value)} {oc19 kV19 dc19 pm19 cd19 ct19 : Value} (a19 : PySem.W.nsIn K mainGlobals "least_start" = some (some (.ref f19))) (l19 : K.lookup f19 = some ⟨oc19, od19, .func (PySem.W.fnOf "least_start" "least_start" (defArgs (topS 19)) (defBody (topS 19)) (defScope (topS 19)) .none kV19 dc19 pm19 an19 cd19 ct19), sl19⟩) (c19 : PySem.W.codeIn K cd19 "least_start" = true) (k19 : PySem.W.keepIn K (.ref f19) = true)
    {f20 : Addr} {od20 an20 : Option Addr} {sl20 : Array (Option Value)} {oc20 kV20 dc20 pm20 cd20 ct20 : Value} (a20 : PySem.W.nsIn K mainGlobals "ascending" = some (some (.ref f20))) (l20 : K.lookup f20 = some ⟨oc20, od20, .func (PySem.W.fnOf "ascending" "ascending" (defArgs (topS 20)) (defBody (topS 20)) (defScope (topS 20)) .none kV20 dc20 pm20 an20 cd20 ct20), sl20⟩) (c20 : PySem.W.codeIn K cd20 "ascending" = true) (k20 : PySem.W.keepIn K (.ref f20) = true)
    {f16 : Addr} {od16 an16 : Option Addr} {sl16 : Array (Option Value)} {oc16 kV16 dc16 pm16 cd16 ct16 : Value} (a16 : PySem.W.nsIn K mainGlobals "end_of" = some (some (.ref f16))) (l16 : K.lookup f16 = some ⟨oc16, od16, .func (PySem.W.fnOf "end_of" "end_of" (defArgs (topS 16)) (defBody (topS 16)) (defScope (topS 16)) .none kV16 dc16 pm16 an16 cd16 ct16), sl16⟩) (c16 : PySem.W.codeIn K cd16 "end_of" = true) (k16 : PySem.W.keepIn K (.ref f16) = true)
    {f17 : Addr} {od17 an17 : Option Addr} {sl17 : Array (Option Value)} {oc17 kV17 dc17 pm17 cd17 ct17 : Value} (a17 : PySem.W.nsIn K mainGlobals "crosses" = some (some (.ref f17))) (l17 : K.lookup f17 = some ⟨oc17, od17, .func (PySem.W.fnOf "crosses" "crosses" (defArgs (topS 17)) (defBody (topS 17)) (defScope (topS 17)) .none kV17 dc17 pm17 an17 cd17 ct17), sl17⟩) (c17 : PySem.W.codeIn K cd17 "crosses" = true) (k17 : PySem.W.keepIn K (.ref f17) = true)
    {f18 : Addr} {od18 an18 : Option Addr} {sl18 : Array (Option Value)} {oc18 kV18 dc18 pm18 cd18 ct18 : Value} (a18 : PySem.W.nsIn K mainGlobals "is_line" = some (some (.ref f18))) (l18 : K.lookup f18 = some ⟨oc18, od18, .func (PySem.W.fnOf "is_line" "is_line" (defArgs (topS 18)) (defBody (topS 18)) (defScope (topS 18)) .none kV18 dc18 pm18 an18 cd18 ct18), sl18⟩) (c18 : PySem.W.codeIn K cd18 "is_line" = true) (k18 : PySem.W.keepIn K (.ref f18) = true)
    {f21 : Addr} {od21 an21 : Option Addr} {sl21 : Array (Option Value)} {oc21 kV21 dc21 pm21 cd21 ct21 : Value} (a21 : PySem.W.nsIn K mainGlobals "lines_through" = some (some (.ref f21))) (l21 : K.lookup f21 = some ⟨oc21, od21, .func (PySem.W.fnOf "lines_through" "lines_through" (defArgs (topS 21)) (defBody (topS 21)) (defScope (topS 21)) .none kV21 dc21 pm21 an21 cd21 ct21), sl21⟩) (c21 : PySem.W.codeIn K cd21 "lines_through" = true) (k21 : PySem.W.keepIn K (.ref f21) = true)
    {f22 : Addr} {od22 an22 : Option Addr} {sl22 : Array (Option Value)} {oc22 kV22 dc22 pm22 cd22 ct22 : Value} (a22 : PySem.W.nsIn K mainGlobals "lines_of" = some (some (.ref f22))) (l22 : K.lookup f22 = some ⟨oc22, od22, .func (PySem.W.fnOf "lines_of" "lines_of" (defArgs (topS 22)) (defBody (topS 22)) (defScope (topS 22)) .none kV22 dc22 pm22 an22 cd22 ct22), sl22⟩) (c22 : PySem.W.codeIn K cd22 "lines_of" = true) (k22 : PySem.W.keepIn K (.ref f22) = true)
    {f25 : Addr} {od25 an25 : Option Addr} {sl25 : Array (Option Value)} {oc25 kV25 dc25 pm25 cd25 ct25 : Value} (a25 : PySem.W.nsIn K mainGlobals "_law_is_number" = some (some (.ref f25))) (l25 : K.lookup f25 = some ⟨oc25, od25, .func (PySem.W.fnOf "_law_is_number" "_law_is_number" (defArgs (topS 25)) (defBody (topS 25)) (defScope (topS 25)) .none kV25 dc25 pm25 an25 cd25 ct25), sl25⟩) (c25 : PySem.W.codeIn K cd25 "_law_is_number" = true) (k25 : PySem.W.keepIn K (.ref f25) = true)
    {f26 : Addr} {od26 an26 : Option Addr} {sl26 : Array (Option Value)} {oc26 kV26 dc26 pm26 cd26 ct26 : Value} (a26 : PySem.W.nsIn K mainGlobals "_law_is_numbers" = some (some (.ref f26))) (l26 : K.lookup f26 = some ⟨oc26, od26, .func (PySem.W.fnOf "_law_is_numbers" "_law_is_numbers" (defArgs (topS 26)) (defBody (topS 26)) (defScope (topS 26)) .none kV26 dc26 pm26 an26 cd26 ct26), sl26⟩) (c26 : PySem.W.codeIn K cd26 "_law_is_numbers" = true) (k26 : PySem.W.keepIn K (.ref f26) = true)
    {f36 : Addr} {od36 an36 : Option Addr} {sl36 : Array (Option Value)} {oc36 kV36 dc36 pm36 cd36 ct36 : Value} (a36 : PySem.W.nsIn K mainGlobals "_law_is_length" = some (some (.ref f36))) (l36 : K.lookup f36 = some ⟨oc36, od36, .func (PySem.W.fnOf "_law_is_length" "_law_is_length" (defArgs (topS 36)) (defBody (topS 36)) (defScope (topS 36)) .none kV36 dc36 pm36 an36 cd36 ct36), sl36⟩) (c36 : PySem.W.codeIn K cd36 "_law_is_length" = true) (k36 : PySem.W.keepIn K (.ref f36) = true)
    {f48 : Addr} {od48 an48 : Option Addr} {sl48 : Array (Option Value)} {oc48 kV48 dc48 pm48 cd48 ct48 : Value} (a48 : PySem.W.nsIn K mainGlobals "_law_turned" = some (some (.ref f48))) (l48 : K.lookup f48 = some ⟨oc48, od48, .func (PySem.W.fnOf "_law_turned" "_law_turned" (defArgs (topS 48)) (defBody (topS 48)) (defScope (topS 48)) .none kV48 dc48 pm48 an48 cd48 ct48), sl48⟩) (c48 : PySem.W.codeIn K cd48 "_law_turned" = true) (k48 : PySem.W.keepIn K (.ref f48) = true)
    {f52 : Addr} {od52 an52 : Option Addr} {sl52 : Array (Option Value)} {oc52 kV52 dc52 pm52 cd52 ct52 : Value} (a52 : PySem.W.nsIn K mainGlobals "_law_told" = some (some (.ref f52))) (l52 : K.lookup f52 = some ⟨oc52, od52, .func (PySem.W.fnOf "_law_told" "_law_told" (defArgs (topS 52)) (defBody (topS 52)) (defScope (topS 52)) .none kV52 dc52 pm52 an52 cd52 ct52), sl52⟩) (c52 : PySem.W.codeIn K cd52 "_law_told" = true) (k52 : PySem.W.keepIn K (.ref f52) = true)
    {f47 : Addr} {od47 an47 : Option Addr} {sl47 : Array (Option Value)} {oc47 kV47 dc47 pm47 cd47 ct47 : Value} (a47 : PySem.W.nsIn K mainGlobals "_law_moved" = some (some (.ref f47))) (l47 : K.lookup f47 = some ⟨oc47, od47, .func (PySem.W.fnOf "_law_moved" "_law_moved" (defArgs (topS 47)) (defBody (topS 47)) (defScope (topS 47)) .none kV47 dc47 pm47 an47 cd47 ct47), sl47⟩) (c47 : PySem.W.codeIn K cd47 "_law_moved" = true) (k47 : PySem.W.keepIn K (.ref f47) = true)
    {f49 : Addr} {od49 an49 : Option Addr} {sl49 : Array (Option Value)} {oc49 kV49 dc49 pm49 cd49 ct49 : Value} (a49 : PySem.W.nsIn K mainGlobals "_law_grid" = some (some (.ref f49))) (l49 : K.lookup f49 = some ⟨oc49, od49, .func (PySem.W.fnOf "_law_grid" "_law_grid" (defArgs (topS 49)) (defBody (topS 49)) (defScope (topS 49)) .none kV49 dc49 pm49 an49 cd49 ct49), sl49⟩) (c49 : PySem.W.codeIn K cd49 "_law_grid" = true) (k49 : PySem.W.keepIn K (.ref f49) = true)
    {f53 : Addr} {od53 an53 : Option Addr} {sl53 : Array (Option Value)} {oc53 kV53 dc53 pm53 cd53 ct53 : Value} (a53 : PySem.W.nsIn K mainGlobals "law" = some (some (.ref f53))) (l53 : K.lookup f53 = some ⟨oc53, od53, .func (PySem.W.fnOf "law" "law" (defArgs (topS 53)) (defBody (topS 53)) (defScope (topS 53)) .none kV53 dc53 pm53 an53 cd53 ct53), sl53⟩) (c53 : PySem.W.codeIn K cd53 "law" = true) (k53 : PySem.W.keepIn K (.ref f53) = true)
    (z0 : PySem.W.nsIn K mainGlobals "abs" = some none)
    (z1 : PySem.W.nsIn K mainGlobals "bool" = some none)
    (z2 : PySem.W.nsIn K mainGlobals "int" = some none)
    (z3 : PySem.W.nsIn K mainGlobals "isinstance" = some none)
    (z4 : PySem.W.nsIn K mainGlobals "len" = some none)
    (z5 : PySem.W.nsIn K mainGlobals "list" = some none)
    (z6 : PySem.W.nsIn K mainGlobals "range" = some none)
    (z7 : PySem.W.nsIn K mainGlobals "tuple" = some none)
    {tc0 : Tok} (gq0 : PySem.W.nsIn K mainGlobals "X" = some (some (.str "x" tc0)))
    {tc1 : Tok} (gq1 : PySem.W.nsIn K mainGlobals "Y" = some (some (.str "y" tc1))) :
    ∃ fd : FuncData, (∀ (s : Shared) (v : Value), BindsTo s fd ⟨[v], []⟩ [("script", v)]) ∧ ∀ base : Heap, FnG l.prog w K mg base 12 fa fd ["script"] (spP K s_law) := by
  have e := hfa.symm.trans (PySem.W.mg_of X G a53)
  cases e
  have hB : ∀ x ∈ bs, mg x = none := by
    intro x hx
    simp only [bs, List.mem_cons, List.not_mem_nil, or_false] at hx
    rcases hx with rfl | rfl | rfl | rfl | rfl | rfl | rfl | rfl
    · exact PySem.W.mg_none_of X G z0
    · exact PySem.W.mg_none_of X G z1
    · exact PySem.W.mg_none_of X G z2
    · exact PySem.W.mg_none_of X G z3
    · exact PySem.W.mg_none_of X G z4
    · exact PySem.W.mg_none_of X G z5
    · exact PySem.W.mg_none_of X G z6
    · exact PySem.W.mg_none_of X G z7
  have z_X : ∃ u v, mg "X" = some u ∧ RelV v u ∧ ∀ F, En K F v (.str "x") := ⟨_, (.str "x"), PySem.W.mg_of X G gq0, ⟨_, rfl⟩, fun F => (.str _)⟩
  have z_Y : ∃ u v, mg "Y" = some u ∧ RelV v u ∧ ∀ F, En K F v (.str "y") := ⟨_, (.str "y"), PySem.W.mg_of X G gq1, ⟨_, rfl⟩, fun F => (.str _)⟩
  have F24 := fun_mk (st := topS 24) l24 c24 k24
  have F35 := fun_mk (st := topS 35) l35 c35 k35
  have F27 := fun_mk (st := topS 27) l27 c27 k27
  have F28 := fun_mk (st := topS 28) l28 c28 k28
  have F37 := fun_mk (st := topS 37) l37 c37 k37
  have F33 := fun_mk (st := topS 33) l33 c33 k33
  have F38 := fun_mk (st := topS 38) l38 c38 k38
  have F46 := fun_mk (st := topS 46) l46 c46 k46
  have F31 := fun_mk (st := topS 31) l31 c31 k31
  have F32 := fun_mk (st := topS 32) l32 c32 k32
  have F29 := fun_mk (st := topS 29) l29 c29 k29
  have F30 := fun_mk (st := topS 30) l30 c30 k30
  have F42 := fun_mk (st := topS 42) l42 c42 k42
  have F43 := fun_mk (st := topS 43) l43 c43 k43
  have F34 := fun_mk (st := topS 34) l34 c34 k34
  have F40 := fun_mk (st := topS 40) l40 c40 k40
  have F41 := fun_mk (st := topS 41) l41 c41 k41
  have F44 := fun_mk (st := topS 44) l44 c44 k44
  have F50 := fun_mk (st := topS 50) l50 c50 k50
  have F39 := fun_mk (st := topS 39) l39 c39 k39
  have F51 := fun_mk (st := topS 51) l51 c51 k51
  have F45 := fun_mk (st := topS 45) l45 c45 k45
  have F14 := fun_mk (st := topS 14) l14 c14 k14
  have F15 := fun_mk (st := topS 15) l15 c15 k15
  have F8 := fun_mk (st := topS 8) l8 c8 k8
  have F9 := fun_mk (st := topS 9) l9 c9 k9
  have F1 := fun_mk (st := topS 1) l1 c1 k1
  have F2 := fun_mk (st := topS 2) l2 c2 k2
  have F3 := fun_mk (st := topS 3) l3 c3 k3
  have F4 := fun_mk (st := topS 4) l4 c4 k4
  have F5 := fun_mk (st := topS 5) l5 c5 k5
  have F6 := fun_mk (st := topS 6) l6 c6 k6
  have F10 := fun_mk (st := topS 10) l10 c10 k10
  have F19 := fun_mk (st := topS 19) l19 c19 k19
  have F20 := fun_mk (st := topS 20) l20 c20 k20
  have F16 := fun_mk (st := topS 16) l16 c16 k16
  have F17 := fun_mk (st := topS 17) l17 c17 k17
  have F18 := fun_mk (st := topS 18) l18 c18 k18
  have F21 := fun_mk (st := topS 21) l21 c21 k21
  have F22 := fun_mk (st := topS 22) l22 c22 k22
  have F25 := fun_mk (st := topS 25) l25 c25 k25
  have F26 := fun_mk (st := topS 26) l26 c26 k26
  have F36 := fun_mk (st := topS 36) l36 c36 k36
  have F48 := fun_mk (st := topS 48) l48 c48 k48
  have F52 := fun_mk (st := topS 52) l52 c52 k52
  have F47 := fun_mk (st := topS 47) l47 c47 k47
  have F49 := fun_mk (st := topS 49) l49 c49 k49
  have F53 := fun_mk (st := topS 53) l53 c53 k53
  refine ⟨PySem.W.fnOf "law" "law" (defArgs (topS 53)) (defBody (topS 53)) (defScope (topS 53)) .none kV53 dc53 pm53 an53 cd53 ct53, fun s v => .of_eq rfl, fun base => ?_⟩
  have h__law_draws : FP l.prog w K mg base 1 "_law_draws" s__law_draws := ok__law_draws hB   (PySem.W.mg_of X G a24) F24
  have h__law_root : FP l.prog w K mg base 1 "_law_root" s__law_root := ok__law_root hB   (PySem.W.mg_of X G a35) F35
  have h__law_gcd : FP l.prog w K mg base 1 "_law_gcd" s__law_gcd := ok__law_gcd hB   (PySem.W.mg_of X G a27) F27
  have h__law_norm : FP l.prog w K mg base 2 "_law_norm" s__law_norm := ok__law_norm hB h__law_gcd  (PySem.W.mg_of X G a28) F28
  have h__law_number : FP l.prog w K mg base 3 "_law_number" s__law_number := ok__law_number hB h__law_norm  (PySem.W.mg_of X G a37) F37
  have h__law_sign : FP l.prog w K mg base 1 "_law_sign" s__law_sign := ok__law_sign hB   (PySem.W.mg_of X G a33) F33
  have h__law_above : FP l.prog w K mg base 4 "_law_above" s__law_above := ok__law_above hB h__law_number h__law_sign  (PySem.W.mg_of X G a38) F38
  have h__law_sheet : FP l.prog w K mg base 5 "_law_sheet" s__law_sheet := ok__law_sheet hB h__law_above  (PySem.W.mg_of X G a46) F46
  have h__law_times : FP l.prog w K mg base 3 "_law_times" s__law_times := ok__law_times hB h__law_norm  (PySem.W.mg_of X G a31) F31
  have h__law_by : FP l.prog w K mg base 4 "_law_by" s__law_by := ok__law_by hB h__law_times h__law_norm  (PySem.W.mg_of X G a32) F32
  have h__law_add : FP l.prog w K mg base 3 "_law_add" s__law_add := ok__law_add hB h__law_norm  (PySem.W.mg_of X G a29) F29
  have h__law_minus : FP l.prog w K mg base 4 "_law_minus" s__law_minus := ok__law_minus hB h__law_add  (PySem.W.mg_of X G a30) F30
  have h__law_halved : FP l.prog w K mg base 5 "_law_halved" s__law_halved := ok__law_halved hB h__law_by h__law_times h__law_minus h__law_add  (PySem.W.mg_of X G a42) F42
  have h__law_wheel : FP l.prog w K mg base 4 "_law_wheel" s__law_wheel := ok__law_wheel hB h__law_times h__law_add  (PySem.W.mg_of X G a43) F43
  have h__law_less : FP l.prog w K mg base 5 "_law_less" s__law_less := ok__law_less hB h__law_sign h__law_minus  (PySem.W.mg_of X G a34) F34
  have h__law_before : FP l.prog w K mg base 6 "_law_before" s__law_before := ok__law_before hB h__law_less  (PySem.W.mg_of X G a40) F40
  have h__law_in_order : FP l.prog w K mg base 7 "_law_in_order" s__law_in_order := ok__law_in_order hB h__law_before  (PySem.W.mg_of X G a41) F41
  have h__law_tiles : FP l.prog w K mg base 8 "_law_tiles" s__law_tiles := ok__law_tiles hB h__law_halved h__law_wheel h__law_in_order  (PySem.W.mg_of X G a44) F44
  have h__law_sorted : FP l.prog w K mg base 6 "_law_sorted" s__law_sorted := ok__law_sorted hB h__law_less  (PySem.W.mg_of X G a50) F50
  have h__law_ends : FP l.prog w K mg base 4 "_law_ends" s__law_ends := ok__law_ends hB h__law_add  (PySem.W.mg_of X G a39) F39
  have h__law_lines : FP l.prog w K mg base 7 "_law_lines" s__law_lines := ok__law_lines hB h__law_sorted h__law_less h__law_ends  (PySem.W.mg_of X G a51) F51
  have h__law_copied : FP l.prog w K mg base 1 "_law_copied" s__law_copied := ok__law_copied hB   (PySem.W.mg_of X G a45) F45
  have h_side_at : FP l.prog w K mg base 1 "side_at" s_side_at := ok_side_at hB  z_Y (PySem.W.mg_of X G a14) F14
  have h_start_of : FP l.prog w K mg base 2 "start_of" s_start_of := ok_start_of hB h_side_at  (PySem.W.mg_of X G a15) F15
  have h_sign_of_number : FP l.prog w K mg base 1 "sign_of_number" s_sign_of_number := ok_sign_of_number hB   (PySem.W.mg_of X G a8) F8
  have h_sign_of : FP l.prog w K mg base 2 "sign_of" s_sign_of := ok_sign_of hB h_sign_of_number  (PySem.W.mg_of X G a9) F9
  have h_common_divisor : FP l.prog w K mg base 1 "common_divisor" s_common_divisor := ok_common_divisor hB   (PySem.W.mg_of X G a1) F1
  have h_common_of_three : FP l.prog w K mg base 2 "common_of_three" s_common_of_three := ok_common_of_three hB h_common_divisor  (PySem.W.mg_of X G a2) F2
  have h_length : FP l.prog w K mg base 3 "length" s_length := ok_length hB h_common_of_three  (PySem.W.mg_of X G a3) F3
  have h_plus : FP l.prog w K mg base 4 "plus" s_plus := ok_plus hB h_length  (PySem.W.mg_of X G a4) F4
  have h_negative : FP l.prog w K mg base 1 "negative" s_negative := ok_negative hB   (PySem.W.mg_of X G a5) F5
  have h_minus : FP l.prog w K mg base 5 "minus" s_minus := ok_minus hB h_plus h_negative  (PySem.W.mg_of X G a6) F6
  have h_compare : FP l.prog w K mg base 6 "compare" s_compare := ok_compare hB h_sign_of h_minus  (PySem.W.mg_of X G a10) F10
  have h_least_start : FP l.prog w K mg base 7 "least_start" s_least_start := ok_least_start hB h_start_of h_compare  (PySem.W.mg_of X G a19) F19
  have h_ascending : FP l.prog w K mg base 7 "ascending" s_ascending := ok_ascending hB h_compare  (PySem.W.mg_of X G a20) F20
  have h_end_of : FP l.prog w K mg base 5 "end_of" s_end_of := ok_end_of hB h_plus h_side_at  (PySem.W.mg_of X G a16) F16
  have h_crosses : FP l.prog w K mg base 7 "crosses" s_crosses := ok_crosses hB h_compare h_end_of h_start_of  (PySem.W.mg_of X G a17) F17
  have h_is_line : FP l.prog w K mg base 8 "is_line" s_is_line := ok_is_line hB h_crosses  (PySem.W.mg_of X G a18) F18
  have h_lines_through : FP l.prog w K mg base 9 "lines_through" s_lines_through := ok_lines_through hB h_least_start h_ascending h_start_of h_is_line  (PySem.W.mg_of X G a21) F21
  have h_lines_of : FP l.prog w K mg base 10 "lines_of" s_lines_of := ok_lines_of hB h_lines_through z_Y z_X (PySem.W.mg_of X G a22) F22
  have h__law_is_number : FP l.prog w K mg base 1 "_law_is_number" s__law_is_number := ok__law_is_number hB   (PySem.W.mg_of X G a25) F25
  have h__law_is_numbers : FP l.prog w K mg base 2 "_law_is_numbers" s__law_is_numbers := ok__law_is_numbers hB h__law_is_number  (PySem.W.mg_of X G a26) F26
  have h__law_is_length : FP l.prog w K mg base 3 "_law_is_length" s__law_is_length := ok__law_is_length hB h__law_is_numbers h__law_gcd  (PySem.W.mg_of X G a36) F36
  have h__law_turned : FP l.prog w K mg base 1 "_law_turned" s__law_turned := ok__law_turned hB   (PySem.W.mg_of X G a48) F48
  have h__law_told : FP l.prog w K mg base 11 "_law_told" s__law_told := ok__law_told hB h__law_lines h__law_copied h_lines_of h__law_is_length h__law_in_order h__law_turned  (PySem.W.mg_of X G a52) F52
  have h__law_moved : FP l.prog w K mg base 4 "_law_moved" s__law_moved := ok__law_moved hB h__law_add  (PySem.W.mg_of X G a47) F47
  have h__law_grid : FP l.prog w K mg base 5 "_law_grid" s__law_grid := ok__law_grid hB h__law_by h__law_times  (PySem.W.mg_of X G a49) F49
  exact fn_ok ⟨hB, (fun j sem h => by
    match j, h with
    | 0, h =>
      cases h
      exact ⟨_, rfl, h__law_draws.mono (by omega)⟩
    | 1, h =>
      cases h
      exact ⟨_, rfl, h__law_root.mono (by omega)⟩
    | 2, h =>
      cases h
      exact ⟨_, rfl, h__law_sheet.mono (by omega)⟩
    | 3, h =>
      cases h
      exact ⟨_, rfl, h__law_tiles.mono (by omega)⟩
    | 4, h =>
      cases h
      exact ⟨_, rfl, h__law_told.mono (by omega)⟩
    | 5, h =>
      cases h
      exact ⟨_, rfl, h__law_above.mono (by omega)⟩
    | 6, h =>
      cases h
      exact ⟨_, rfl, h__law_add.mono (by omega)⟩
    | 7, h =>
      cases h
      exact ⟨_, rfl, h__law_in_order.mono (by omega)⟩
    | 8, h =>
      cases h
      exact ⟨_, rfl, h__law_moved.mono (by omega)⟩
    | 9, h =>
      cases h
      exact ⟨_, rfl, h__law_grid.mono (by omega)⟩
    | 10, h =>
      cases h
      exact ⟨_, rfl, h__law_wheel.mono (by omega)⟩
    | 11, h =>
      cases h
      exact ⟨_, rfl, h_lines_of.mono (by omega)⟩
    | _ + 12, h => cases h), (fun j d h => by cases h), (fun j sem nm h h2 h3 => by
    match j, h, h2 with
    | 0, h, h2 =>
      cases h; cases h2
      exact absurd h3 (by decide)
    | 1, h, h2 =>
      cases h; cases h2
      exact absurd h3 (by decide)
    | 2, h, h2 =>
      cases h; cases h2
      exact absurd h3 (by decide)
    | 3, h, h2 =>
      cases h; cases h2
      exact absurd h3 (by decide)
    | 4, h, h2 =>
      cases h; cases h2
      exact absurd h3 (by decide)
    | 5, h, h2 =>
      cases h; cases h2
      exact absurd h3 (by decide)
    | 6, h, h2 =>
      cases h; cases h2
      exact absurd h3 (by decide)
    | 7, h, h2 =>
      cases h; cases h2
      exact absurd h3 (by decide)
    | 8, h, h2 =>
      cases h; cases h2
      exact absurd h3 (by decide)
    | 9, h, h2 =>
      cases h; cases h2
      exact absurd h3 (by decide)
    | 10, h, h2 =>
      cases h; cases h2
      exact absurd h3 (by decide)
    | 11, h, h2 =>
      cases h; cases h2
      exact absurd h3 (by decide)
    | _ + 12, h, h2 => cases h)⟩ F53 sc_law b_law ck_law
theorem law_sp {K : PySem.W.Frag} {H : Hp} {a : Addr} {ns : List Int} (h : s_law [.dict [(.none, .list (ns.map PyData.int))]] = some (.bool true)) (hS : SqL K H a (ns.map V.int)) : spP K s_law [.ref a] H (fun v _ => v = .bl true) fun _ _ _ => False :=
  ⟨H, _, _, Same.refl H, .cons (.scr hS) .nil, h, fun v _ _ _ hE => by cases hE; rfl⟩
end PL
open PySem PySem.W PyProof.Rows
set_option maxHeartbeats 0 in
theorem PySem.Challenge.cw_likesheets_k41_edge_to_edge_lines_holds : PySem.Challenge.rw_likesheets_k41_edge_to_edge_lines.Holds := by
  w_on; o_law; k_head; (case hw => w_witness2)
  k_fill
  refine PL.walk_G (l := PySem.Challenge.rw_likesheets_k41_edge_to_edge_lines) (n := 63) (lv := 12) (prm := "script") (pr := fun w => PL.spP _ PL.s_law) rfl (by decide) rfl ⟨rfl, by decide, by decide⟩ (fun w h Y => PySem.W.kIn_of Y) ?F (fun _ _ a ns hl hS => PL.law_sp (PL.law_true ns hl) hS)
  case F =>
    intro w mg fa h KX G hmg
    refine' PL.all_mk KX G hmg ?a24 ?l24 ?c24 ?k24 ?a35 ?l35 ?c35 ?k35 ?a27 ?l27 ?c27 ?k27 ?a28 ?l28 ?c28 ?k28 ?a37 ?l37 ?c37 ?k37 ?a33 ?l33 ?c33 ?k33 ?a38 ?l38 ?c38 ?k38 ?a46 ?l46 ?c46 ?k46 ?a31 ?l31 ?c31 ?k31 ?a32 ?l32 ?c32 ?k32 ?a29 ?l29 ?c29 ?k29 ?a30 ?l30 ?c30 ?k30 ?a42 ?l42 ?c42 ?k42 ?a43 ?l43 ?c43 ?k43 ?a34 ?l34 ?c34 ?k34 ?a40 ?l40 ?c40 ?k40 ?a41 ?l41 ?c41 ?k41 ?a44 ?l44 ?c44 ?k44 ?a50 ?l50 ?c50 ?k50 ?a39 ?l39 ?c39 ?k39 ?a51 ?l51 ?c51 ?k51 ?a45 ?l45 ?c45 ?k45 ?a14 ?l14 ?c14 ?k14 ?a15 ?l15 ?c15 ?k15 ?a8 ?l8 ?c8 ?k8 ?a9 ?l9 ?c9 ?k9 ?a1 ?l1 ?c1 ?k1 ?a2 ?l2 ?c2 ?k2 ?a3 ?l3 ?c3 ?k3 ?a4 ?l4 ?c4 ?k4 ?a5 ?l5 ?c5 ?k5 ?a6 ?l6 ?c6 ?k6 ?a10 ?l10 ?c10 ?k10 ?a19 ?l19 ?c19 ?k19 ?a20 ?l20 ?c20 ?k20 ?a16 ?l16 ?c16 ?k16 ?a17 ?l17 ?c17 ?k17 ?a18 ?l18 ?c18 ?k18 ?a21 ?l21 ?c21 ?k21 ?a22 ?l22 ?c22 ?k22 ?a25 ?l25 ?c25 ?k25 ?a26 ?l26 ?c26 ?k26 ?a36 ?l36 ?c36 ?k36 ?a48 ?l48 ?c48 ?k48 ?a52 ?l52 ?c52 ?k52 ?a47 ?l47 ?c47 ?k47 ?a49 ?l49 ?c49 ?k49 ?a53 ?l53 ?c53 ?k53 ?z0 ?z1 ?z2 ?z3 ?z4 ?z5 ?z6 ?z7 ?gq0 ?gq1
    (case a24 => k_is); (case l24 => k_is); (case c24 => k_is); (case k24 => k_is); (case a35 => k_is); (case l35 => k_is); (case c35 => k_is); (case k35 => k_is); (case a27 => k_is); (case l27 => k_is); (case c27 => k_is); (case k27 => k_is); (case a28 => k_is); (case l28 => k_is); (case c28 => k_is); (case k28 => k_is); (case a37 => k_is); (case l37 => k_is); (case c37 => k_is); (case k37 => k_is); (case a33 => k_is); (case l33 => k_is); (case c33 => k_is); (case k33 => k_is); (case a38 => k_is); (case l38 => k_is); (case c38 => k_is); (case k38 => k_is); (case a46 => k_is); (case l46 => k_is); (case c46 => k_is); (case k46 => k_is); (case a31 => k_is); (case l31 => k_is); (case c31 => k_is); (case k31 => k_is); (case a32 => k_is); (case l32 => k_is); (case c32 => k_is); (case k32 => k_is); (case a29 => k_is); (case l29 => k_is); (case c29 => k_is); (case k29 => k_is); (case a30 => k_is); (case l30 => k_is); (case c30 => k_is); (case k30 => k_is); (case a42 => k_is); (case l42 => k_is); (case c42 => k_is); (case k42 => k_is); (case a43 => k_is); (case l43 => k_is); (case c43 => k_is); (case k43 => k_is); (case a34 => k_is); (case l34 => k_is); (case c34 => k_is); (case k34 => k_is); (case a40 => k_is); (case l40 => k_is); (case c40 => k_is); (case k40 => k_is); (case a41 => k_is); (case l41 => k_is); (case c41 => k_is); (case k41 => k_is); (case a44 => k_is); (case l44 => k_is); (case c44 => k_is); (case k44 => k_is); (case a50 => k_is); (case l50 => k_is); (case c50 => k_is); (case k50 => k_is); (case a39 => k_is); (case l39 => k_is); (case c39 => k_is); (case k39 => k_is); (case a51 => k_is); (case l51 => k_is); (case c51 => k_is); (case k51 => k_is); (case a45 => k_is); (case l45 => k_is); (case c45 => k_is); (case k45 => k_is); (case a14 => k_is); (case l14 => k_is); (case c14 => k_is); (case k14 => k_is); (case a15 => k_is); (case l15 => k_is); (case c15 => k_is); (case k15 => k_is); (case a8 => k_is); (case l8 => k_is); (case c8 => k_is); (case k8 => k_is); (case a9 => k_is); (case l9 => k_is); (case c9 => k_is); (case k9 => k_is); (case a1 => k_is); (case l1 => k_is); (case c1 => k_is); (case k1 => k_is); (case a2 => k_is); (case l2 => k_is); (case c2 => k_is); (case k2 => k_is); (case a3 => k_is); (case l3 => k_is); (case c3 => k_is); (case k3 => k_is); (case a4 => k_is); (case l4 => k_is); (case c4 => k_is); (case k4 => k_is); (case a5 => k_is); (case l5 => k_is); (case c5 => k_is); (case k5 => k_is); (case a6 => k_is); (case l6 => k_is); (case c6 => k_is); (case k6 => k_is); (case a10 => k_is); (case l10 => k_is); (case c10 => k_is); (case k10 => k_is); (case a19 => k_is); (case l19 => k_is); (case c19 => k_is); (case k19 => k_is); (case a20 => k_is); (case l20 => k_is); (case c20 => k_is); (case k20 => k_is); (case a16 => k_is); (case l16 => k_is); (case c16 => k_is); (case k16 => k_is); (case a17 => k_is); (case l17 => k_is); (case c17 => k_is); (case k17 => k_is); (case a18 => k_is); (case l18 => k_is); (case c18 => k_is); (case k18 => k_is); (case a21 => k_is); (case l21 => k_is); (case c21 => k_is); (case k21 => k_is); (case a22 => k_is); (case l22 => k_is); (case c22 => k_is); (case k22 => k_is); (case a25 => k_is); (case l25 => k_is); (case c25 => k_is); (case k25 => k_is); (case a26 => k_is); (case l26 => k_is); (case c26 => k_is); (case k26 => k_is); (case a36 => k_is); (case l36 => k_is); (case c36 => k_is); (case k36 => k_is); (case a48 => k_is); (case l48 => k_is); (case c48 => k_is); (case k48 => k_is); (case a52 => k_is); (case l52 => k_is); (case c52 => k_is); (case k52 => k_is); (case a47 => k_is); (case l47 => k_is); (case c47 => k_is); (case k47 => k_is); (case a49 => k_is); (case l49 => k_is); (case c49 => k_is); (case k49 => k_is); (case a53 => k_is); (case l53 => k_is); (case c53 => k_is); (case k53 => k_is); (case z0 => k_is); (case z1 => k_is); (case z2 => k_is); (case z3 => k_is); (case z4 => k_is); (case z5 => k_is); (case z6 => k_is); (case z7 => k_is); (case gq0 => k_is); (case gq1 => k_is)
