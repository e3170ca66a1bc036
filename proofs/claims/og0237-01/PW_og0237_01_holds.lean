import PyProof.Rows.All
import Wide.All
import OpenK.AllK
import Wide.FinOn
import Lean
import PySem.Challenge.RW_og0237_01
set_option Elab.async false
set_option maxRecDepth 100000
set_option compiler.extract_closed false

section -- Hd
open PySem PySem.W PyProof.Rows
set_option maxRecDepth 100000
set_option maxHeartbeats 8000000
namespace Mine
open_top hd for PySem.Challenge.rw_og0237_01
end Mine
end

section -- Ar
open PySem PySem.Spec PySem.Calls PySem.W PyProof.Rows
set_option maxRecDepth 100000
set_option maxHeartbeats 4000000
namespace Mine
theorem nat_and_shift (x y k : Nat) (h : y < 2 ^ k) : (x * 2 ^ k) &&& y = 0 := by
  apply Nat.eq_of_testBit_eq
  intro i
  rw [Nat.testBit_and, Nat.zero_testBit]
  by_cases hi : i < k
  · rw [Nat.mul_comm, Nat.testBit_two_pow_mul]
    have : decide (i ≥ k) = false := decide_eq_false (by omega)
    rw [this, Bool.false_and, Bool.false_and]
  · have : y.testBit i = false := Nat.testBit_lt_two_pow (Nat.lt_of_lt_of_le h (Nat.pow_le_pow_right (by decide) (Nat.le_of_not_lt hi)))
    rw [this, Bool.and_false]
theorem bor_low (x y : Int) (k : Nat) (hx : 0 ≤ x) (hy : 0 ≤ y) (h : y < ((2 ^ k : Nat) : Int)) : Builtin.bitOr (x * ((2 ^ k : Nat) : Int)) y = x * ((2 ^ k : Nat) : Int) + y := by
  rw [bitOr_and, bitAnd_pp (Int.mul_nonneg hx (Int.natCast_nonneg _)) hy]
  have e : (x * ((2 ^ k : Nat) : Int)).toNat = x.toNat * 2 ^ k := by
    have h1 : x = (x.toNat : Int) := (Int.toNat_of_nonneg hx).symm
    rw [h1, ← Int.natCast_mul, Int.toNat_natCast, Int.toNat_natCast]
  rw [e, nat_and_shift _ _ _ ((Int.toNat_lt hy).mpr h)]
  exact Int.sub_zero _
theorem num_eq (x y z : Int) : x * 65536 + y * 256 + z = (x * 256 + y) * 256 + z := by
  rw [Int.add_mul, Int.mul_assoc]; rfl
theorem rgb_bits {x y z : Int} (hx0 : 0 ≤ x) (hy0 : 0 ≤ y) (hy : y < 256) (hz0 : 0 ≤ z) (hz : z < 256) :
    Builtin.bitOr (Builtin.bitOr (x * 2 ^ Int.toNat 16) (y * 2 ^ Int.toNat 8)) z = x * 65536 + y * 256 + z := by
  have s1 := bor_low x (y * 256) 16 hx0 (Int.mul_nonneg hy0 (by decide)) (Int.mul_lt_mul_of_pos_right hy (by decide))
  have s2 := bor_low (x * 256 + y) z 8 (Int.add_nonneg (Int.mul_nonneg hx0 (by decide)) hy0) hz0 hz
  have e : x * 65536 + y * 256 = (x * 256 + y) * 256 := by rw [Int.add_mul, Int.mul_assoc]; rfl
  refine (congrArg (fun q => Builtin.bitOr q z) (s1.trans e)).trans (s2.trans (num_eq x y z).symm)
theorem fdiv_pos (x : Int) {k : Int} (hk : 0 < k) : Int.fdiv x k = x / k := Int.fdiv_eq_ediv_of_nonneg x (Int.le_of_lt hk)
theorem fmod_pos (x : Int) {k : Int} (hk : 0 < k) : Int.fmod x k = x % k := Int.fmod_eq_emod_of_nonneg x (Int.le_of_lt hk)
theorem and255 (x : Int) : Builtin.bitAnd x 255 = x % 256 := bitAnd_m8 x
theorem shr (c : Int) (k : Int) : c.fdiv (2 ^ Int.toNat k) = c / 2 ^ Int.toNat k := Int.fdiv_eq_ediv_of_nonneg c (Int.le_of_lt (pow_pos_of (by decide) _))

-- the plain functions
noncomputable def pR (c : Int) : Int := c / 65536 % 256
noncomputable def pG (c : Int) : Int := c / 256 % 256
noncomputable def pB (c : Int) : Int := c % 256
theorem pR_is (c : Int) : Builtin.bitAnd (c.fdiv (2 ^ Int.toNat 16)) 255 = pR c := by rw [and255, shr]; rfl
theorem pG_is (c : Int) : Builtin.bitAnd (c.fdiv (2 ^ Int.toNat 8)) 255 = pG c := by rw [and255, shr]; rfl
theorem pB_is (c : Int) : Builtin.bitAnd c 255 = pB c := and255 c
theorem m256_in (c : Int) : 0 ≤ c % 256 ∧ c % 256 < 256 := ⟨Int.emod_nonneg _ (by decide), Int.emod_lt_of_pos _ (by decide)⟩
theorem pR_in (c : Int) : 0 ≤ pR c ∧ pR c < 256 := m256_in _
theorem pG_in (c : Int) : 0 ≤ pG c ∧ pG c < 256 := m256_in _
theorem pB_in (c : Int) : 0 ≤ pB c ∧ pB c < 256 := m256_in _
noncomputable def sq (x : Int) : Int := x * x
noncomputable def dist (a b : Int) : Int := 0 + (pR a - pR b) * (pR a - pR b) + (pG a - pG b) * (pG a - pG b) + (pB a - pB b) * (pB a - pB b)
noncomputable def lev (i : Int) : Int := [0, 95, 135, 175, 215, 255].getD i.toNat 0
theorem lev_in (i : Int) : 0 ≤ lev i ∧ lev i < 256 := by
  unfold lev
  have : ∀ n : Nat, 0 ≤ ([0, 95, 135, 175, 215, 255] : List Int).getD n 0 ∧ ([0, 95, 135, 175, 215, 255] : List Int).getD n 0 < 256 := by
    intro n
    match n with
    | 0 | 1 | 2 | 3 | 4 | 5 => decide
    | n + 6 => simp
  exact this _
noncomputable def palR (c : Int) : Int := if c < 232 then lev ((c - 16) / 36) else 8 + 10 * (c - 232)
noncomputable def palG (c : Int) : Int := if c < 232 then lev ((c - 16) / 6 % 6) else 8 + 10 * (c - 232)
noncomputable def palB (c : Int) : Int := if c < 232 then lev ((c - 16) % 6) else 8 + 10 * (c - 232)
noncomputable def pal (c : Int) : Int := palR c * 65536 + palG c * 256 + palB c
theorem gray_in8 {c : Int} (h0 : ¬ c < 232) (h : c < 256) : 0 ≤ 8 + 10 * (c - 232) ∧ 8 + 10 * (c - 232) < 256 := by omega
theorem palR_in {c : Int} (h : c < 256) : 0 ≤ palR c ∧ palR c < 256 := by
  unfold palR
  exact if hc : c < 232 then (if_pos hc).symm ▸ lev_in _ else (if_neg hc).symm ▸ gray_in8 hc h
theorem palG_in {c : Int} (h : c < 256) : 0 ≤ palG c ∧ palG c < 256 := by
  unfold palG
  exact if hc : c < 232 then (if_pos hc).symm ▸ lev_in _ else (if_neg hc).symm ▸ gray_in8 hc h
theorem palB_in {c : Int} (h : c < 256) : 0 ≤ palB c ∧ palB c < 256 := by
  unfold palB
  exact if hc : c < 232 then (if_pos hc).symm ▸ lev_in _ else (if_neg hc).symm ▸ gray_in8 hc h
theorem num_in {x y z : Int} (hx : 0 ≤ x ∧ x < 256) (hy : 0 ≤ y ∧ y < 256) (hz : 0 ≤ z ∧ z < 256) : 0 ≤ x * 65536 + y * 256 + z ∧ x * 65536 + y * 256 + z < 16777216 := by omega
theorem pal_in {c : Int} (h : c < 256) : 0 ≤ pal c ∧ pal c < 16777216 := num_in (palR_in h) (palG_in h) (palB_in h)
theorem num_div (x : Int) {b : Int} (hb : 0 ≤ b ∧ b < 256) : (x * 256 + b) / 256 = x ∧ (x * 256 + b) % 256 = b := by omega
theorem pB_num {r g b : Int} (hb : 0 ≤ b ∧ b < 256) : pB (r * 65536 + g * 256 + b) = b := by
  rw [num_eq]; exact (num_div _ hb).2
theorem pG_num {r g b : Int} (hg : 0 ≤ g ∧ g < 256) (hb : 0 ≤ b ∧ b < 256) : pG (r * 65536 + g * 256 + b) = g := by
  rw [num_eq]; unfold pG; rw [(num_div _ hb).1]; exact (num_div _ hg).2
theorem pR_num {r g b : Int} (hr : 0 ≤ r ∧ r < 256) (hg : 0 ≤ g ∧ g < 256) (hb : 0 ≤ b ∧ b < 256) : pR (r * 65536 + g * 256 + b) = r := by
  rw [num_eq]; unfold pR
  have e : ((r * 256 + g) * 256 + b) / 65536 = ((r * 256 + g) * 256 + b) / 256 / 256 := (Int.ediv_ediv_of_nonneg (x := (r * 256 + g) * 256 + b) (y := 256) (z := 256) (by decide)).symm
  rw [e, (num_div _ hb).1, (num_div _ hg).1]
  exact Int.emod_eq_of_lt hr.1 hr.2
-- helpers, proved once for all the texts
theorem fin_int {P : Int → Prop} (N : Nat) (h : ∀ n : Nat, n < N → P (n : Int)) {k : Int} (h0 : 0 ≤ k) (h1 : k < (N : Int)) : P k := by
  have := h k.toNat ((Int.toNat_lt h0).mpr h1)
  rwa [Int.toNat_of_nonneg h0] at this
theorem fewN {n : Nat} (h1 : 1 ≤ n) (h4 : n ≤ 4) : n = 1 ∨ n = 2 ∨ n = 3 ∨ n = 4 := by
  have : ∀ k : Nat, k < 5 → 1 ≤ k → k = 1 ∨ k = 2 ∨ k = 3 ∨ k = 4 := by decide
  exact this n (Nat.lt_succ_of_le h4) h1
theorem fewI {k : Int} (h0 : 0 ≤ k) (h4 : k < 4) : k = 0 ∨ k = 1 ∨ k = 2 ∨ k = 3 := fin_int (P := fun k => k = 0 ∨ k = 1 ∨ k = 2 ∨ k = 3) 4 (by decide) h0 h4
theorem or3_in {a b c k : Int} (h : k = a ∨ k = b ∨ k = c) (ha : 0 ≤ a ∧ a < 256) (hb : 0 ≤ b ∧ b < 256) (hc : 0 ≤ c ∧ c < 256) : 0 ≤ k ∧ k < 256 := by
  rcases h with rfl | rfl | rfl <;> assumption
theorem szA {a b : Array UInt8} {m n : Nat} (h : a.size ≤ m) (k : b.size ≤ n) : (a ++ b).size ≤ m + n := Array.size_append ▸ Nat.add_le_add h k
theorem few1 {r : Int} (h0 : 0 ≤ r) (h4 : r < 4) : 1 ≤ 1 + r ∧ 1 + r ≤ 4 ∧ 0 ≤ 1 + r - 1 ∧ 1 + r - 1 ≤ 3 := fin_int (P := fun r => 1 ≤ 1 + r ∧ 1 + r ≤ 4 ∧ 0 ≤ 1 + r - 1 ∧ 1 + r - 1 ≤ 3) 4 (by decide) h0 h4
theorem un_ok {un a b : Nat} (h : un + a < cLine) (e : Nat.ble (3 + b) a = true) : un + 3 + b < cLine := Nat.lt_of_le_of_lt (Nat.add_assoc un 3 b ▸ Nat.add_le_add_left (Nat.le_of_ble_eq_true e) un) h
theorem un_ok0 {un a : Nat} (h : un + a < cLine) (e : Nat.ble 3 a = true) : un + 3 < cLine := un_ok (b := 0) h e
theorem dp_ok {dp a : Nat} (b : Nat) (h : dp + a < recursionLimit) (e : Nat.ble b a = true) : dp + b < recursionLimit := Nat.lt_of_le_of_lt (Nat.add_le_add_left (Nat.le_of_ble_eq_true e) dp) h
end Mine
end

section -- Zp
open PySem PySem.Spec PySem.Calls PySem.W PyProof.Rows
set_option maxRecDepth 100000
set_option maxHeartbeats 4000000
namespace Mine
open Sem (wp)
section
variable {prog : Program} {w : World} {A : Around} {E : Value → Shared → Prop} {s : Shared}

theorem tup_next_item {it t : Addr} {i : Nat} {items : Array Value} {x : Value} {Q : Value → Shared → Prop} (hit : s.heap.IsTupleIter it t i) (ht : s.heap.IsTuple t items) (hx : items[i]? = some x)
    (hQ : ∀ h', h'.IsTupleIter it t (i + 1) → Heap.SameBut it s.heap h' → Q x { s with heap := h' }) : wpAny (model prog w) A (Builtin.SmallTypes.nextOf (.ref it)) Q E s := by
  obtain ⟨o, ho, hc, hd⟩ := id hit
  obtain ⟨ol, hol, _, nl, hdl⟩ := ht
  unfold Builtin.SmallTypes.nextOf
  refine wpAny_bind (wpAny_callSpecial?_slot (name := Str.ofString "__next__") hit.typeIs F.slot_tuple_iterator_next
    (wpAny_call_entry F.slot_tuple_iterator_next hit.typeIs F.entry_tuple_iterator_next ?_ (F.args_tuple_iterator_next_1 _)))
  show wpAny _ _ (field (.ref it) 0 >>= _) _ _ s
  refine wpAny_bind (wpAny_field ho hd (x := .ref t) rfl ?_)
  show wpAny _ _ (if (Value.ref t == Value.none) = true then _ else _) _ _ s
  rw [if_neg (show ¬ ((Value.ref t == Value.none) = true) from Bool.false_ne_true)]
  show wpAny _ _ (field (.ref it) 1 >>= _) _ _ s
  refine wpAny_bind (wpAny_field ho hd (x := .int i 0) rfl ?_)
  show wpAny _ _ (seqItems? (.ref t) >>= _) _ _ s
  refine wpAny_bind (wpAny_seqItems hol hdl ?_)
  simp only [Int.toNat_natCast, hx]
  refine wpAny_bind (wpAny_setField ho hd (by simp) (wpAny_pure ⟨x, rfl, wpAny_pure (hQ _ ?_ (Heap.SameBut.update ..))⟩))
  exact ⟨_, Heap.get?_update_self _ ho (Obj.isFreed_of_fields (Obj.data_mapFields hd _)), (Obj.cls_mapFields ..).trans hc, by
    rw [Obj.data_mapFields hd]; simp [rawInt]⟩

theorem tup_next_end {it t : Addr} {i : Nat} {items : Array Value} {Q : Value → Shared → Prop} (hh : A.handled = none) (hit : s.heap.IsTupleIter it t i) (ht : s.heap.IsTuple t items) (hx : items[i]? = none)
    (hE : ∀ h' e, Heap.ExtBut it s.heap h' → (∃ o, h'.get? e = some o ∧ o.cls = .type "StopIteration") → E (.ref e) { s with heap := h' }) : wpAny (model prog w) A (Builtin.SmallTypes.nextOf (.ref it)) Q E s := by
  obtain ⟨o, ho, hc, hd⟩ := id hit
  obtain ⟨ol, hol, _, nl, hdl⟩ := ht
  unfold Builtin.SmallTypes.nextOf
  refine wpAny_bind (wpAny_callSpecial?_slot (name := Str.ofString "__next__") hit.typeIs F.slot_tuple_iterator_next
    (wpAny_call_entry F.slot_tuple_iterator_next hit.typeIs F.entry_tuple_iterator_next ?_ (F.args_tuple_iterator_next_1 _)))
  show wpAny _ _ (field (.ref it) 0 >>= _) _ _ s
  refine wpAny_bind (wpAny_field ho hd (x := .ref t) rfl ?_)
  show wpAny _ _ (if (Value.ref t == Value.none) = true then _ else _) _ _ s
  rw [if_neg (show ¬ ((Value.ref t == Value.none) = true) from Bool.false_ne_true)]
  show wpAny _ _ (field (.ref it) 1 >>= _) _ _ s
  refine wpAny_bind (wpAny_field ho hd (x := .int i 0) rfl ?_)
  show wpAny _ _ (seqItems? (.ref t) >>= _) _ _ s
  refine wpAny_bind (wpAny_seqItems hol hdl ?_)
  simp only [Int.toNat_natCast, hx]
  refine wpAny_bind (wpAny_rule (wpAny_bind (wpAny_setField ho hd (by simp) ?_)))
  show wpAny _ _ (newExc (.type "StopIteration") [] >>= _) _ _ _
  refine wpAny_bind ?_
  simp only [newExc, newTuple]
  refine wpAny_bind (wpAny_newObj_type ?_ (by size_fits))
  refine wpAny_bind (m := firstArgMember _ _) (wpAny_of_eq (a := Value.none) (by first | rfl | (simp only [firstArgMember]; rfl)) ?_)
  refine wpAny_newObj_type ?_ (by size_fits)
  simp only [raiseNew]
  refine wpAny_bind (wpAny_handled ?_)
  first | rw [show A.in1.handled = none from hh] | rw [hh]
  refine wpAny_bind (wpAny_pure (wpAny_throw ?_))
  exact hE _ _ (((Heap.SameBut.update ..).extBut.push _).push _) ⟨_, Heap.get?_push_size _ rfl, rfl⟩

theorem draws_tuple (hh : A.handled = none) (it t : Addr) (hne : t ≠ it) (items : Array Value) :
    Draws prog w A it [it, t] items.size (fun i v => items[i]? = some v) (fun i h => h.IsTupleIter it t i ∧ h.IsTuple t items) where
  live := fun _ _ st => let ⟨o, ho, _⟩ := st.1; ⟨o, ho⟩
  frame := fun _ _ _ st hk => ⟨st.1.at fun o e => hk it (by simp) o e, st.2.at fun o e => hk t (by simp) o e⟩
  item := fun i s Q E hi st hQ => by
    refine tup_next_item st.1 st.2 (x := items[i]) (by simp [hi]) fun h' hit' hs' => ?_
    exact hQ _ h' s.toks (by simp [hi]) ⟨hit', st.2.extBut hs'.extBut hne⟩ hs'
  done := fun s Q E st hE => tup_next_end hh st.1 st.2 (by simp) hE
end

structure ZA (z TI TO i1 i2 : Addr) (fp1 fp2 : List Addr) : Prop where
  TIz : TI ≠ z
  TOz : TO ≠ z
  i1z : i1 ≠ z
  i2z : i2 ≠ z
  TITO : TI ≠ TO
  TIi1 : TI ≠ i1
  TIi2 : TI ≠ i2
  TOi1 : TO ≠ i1
  TOi2 : TO ≠ i2
  i12 : i1 ≠ i2
  z1 : z ∉ fp1
  z2 : z ∉ fp2
  TO1 : TO ∉ fp1
  TO2 : TO ∉ fp2
  c1 : i2 ∉ fp1
  c2 : i1 ∉ fp2

section
variable {prog : Program} {w : World} {A : Around} {E : Value → Shared → Prop} {s : Shared}
variable {z TI TO i1 i2 : Addr} {fp1 fp2 : List Addr} {n1 n2 : Nat} {P1 P2 : Nat → Value → Prop} {St1 St2 : Nat → Heap → Prop}

theorem upd_pair {T : Addr} {a b x : Value} {k : Nat} {Q : Unit → Shared → Prop} (hT : IsPair s.heap T a b)
    (h : ∀ h', h'.get? T = some { cls := .type "tuple", data := .seq ((#[a, b] : Array Value).setIfInBounds k x) } → Heap.SameBut T s.heap h' → Q () { s with heap := h' }) :
    wpAny (model prog w) A (updateSeq T (·.setIfInBounds k x)) Q E s := wpAny_updateSeq_pair hT h

theorem zipD_item {k : Nat} {a b : Value} {Q : Value → Shared → Prop} (D1 : Draws prog w A i1 fp1 n1 P1 St1) (D2 : Draws prog w A i2 fp2 n2 P2 St2) (Z : ZA z TI TO i1 i2 fp1 fp2)
    (hz : IsZip s.heap z TI TO .none) (hTI : IsPair s.heap TI (.ref i1) (.ref i2)) (hTO : IsPair s.heap TO a b) (h1 : St1 k s.heap) (h2 : St2 k s.heap) (hk1 : k < n1) (hk2 : k < n2)
    (hQ : ∀ x y h' tk, P1 k x → P2 k y → IsZip h' z TI TO (rawInt s.heap.objs.size) → IsPair h' TO x y → St1 (k + 1) h' → St2 (k + 1) h' → IsPair h' s.heap.objs.size x y → h'.objs.size = s.heap.objs.size + 1 →
      (∀ c o, c ≠ z → c ≠ TO → c ≠ i1 → c ≠ i2 → s.heap.get? c = some o → h'.get? c = some o) → Q (.ref s.heap.objs.size) { s with heap := h', toks := tk }) :
    wpAny (model prog w) A (Builtin.«zip.__next__» ⟨[.ref z], []⟩) (fun fin s' => ∃ v, fin = .done (.ret v) ∧ Q v s') E s := by
  obtain ⟨hp, g, d, tk₀, os⟩ := s
  show wpAny _ _ (field (.ref z) 2 >>= _) _ _ _
  refine wpAny_bind (wpAny_field hz rfl (x := .bool false) rfl ?_)
  show wpAny _ _ (field (.ref z) 3 >>= _) _ _ _
  refine wpAny_bind (wpAny_field hz rfl (x := .ref TI) rfl ?_)
  refine wpAny_bind (wpAny_seqItems hTI rfl ?_)
  show wpAny _ _ (Builtin.SmallTypes.ownedTupleIsFree (.ref z) >>= _) _ _ _
  refine wpAny_bind ?_
  unfold Builtin.SmallTypes.ownedTupleIsFree
  refine wpAny_bind (wpAny_field hz rfl (x := .none) rfl (wpAny_pure ?_))
  simp only [if_true]
  refine wpAny_bind (wpAny_rule ?_)
  refine wpAny_bind (wpAny_field hz rfl (x := .ref TO) rfl ?_)
  refine wpAny_bind (wpAny_setField_rec hz (by simp) fun h₁ hz₁ hs₁ => ?_)
  replace hz₁ : IsZip h₁ z TI TO .ellipsis := hz₁
  replace hs₁ : Heap.SameBut z hp h₁ := hs₁
  refine wpAny_bind ?_
  simp only [List.zipIdx_cons, List.zipIdx_nil, List.forIn_cons, List.forIn_nil]
  refine wpAny_bind (wpAny_bind (wpAny_onRaise ?_))
  show wpAny _ _ (Builtin.SmallTypes.nextOf (.ref i1) >>= _) _ _ _
  refine wpAny_bind (D1.item k _ _ _ hk1 (D1.frame _ _ _ h1 fun c hc o e => hs₁.extBut c o (fun q => Z.z1 (q ▸ hc)) e) fun x h₂ tk₂ hP1 h1₂ hs₂ => wpAny_pure ?_)
  replace hs₂ : Heap.SameBut i1 h₁ h₂ := hs₂
  have hTO₂ : IsPair h₂ TO a b := hs₂.extBut _ _ Z.TOi1 (hs₁.extBut _ _ Z.TOz hTO)
  refine wpAny_bind (wpAny_seqItems hTO₂ rfl ?_)
  refine wpAny_bind (upd_pair hTO₂ fun h₃ hTO₃ hs₃ => ?_)
  replace hTO₃ : IsPair h₃ TO x b := hTO₃
  replace hs₃ : Heap.SameBut TO h₂ h₃ := hs₃
  refine wpAny_bind (wpAny_letGo (wpAny_pure ?_))
  refine wpAny_bind (wpAny_bind (wpAny_onRaise ?_))
  show wpAny _ _ (Builtin.SmallTypes.nextOf (.ref i2) >>= _) _ _ _
  refine wpAny_bind (D2.item k _ _ _ hk2 (D2.frame _ _ _ h2 fun c hc o e => hs₃.extBut c o (fun q => Z.TO2 (q ▸ hc)) (hs₂.extBut c o (fun q => Z.c2 (q ▸ hc)) (hs₁.extBut c o (fun q => Z.z2 (q ▸ hc)) e))) fun y h₄ tk₄ hP2 h2₄ hs₄ => wpAny_pure ?_)
  replace hs₄ : Heap.SameBut i2 h₃ h₄ := hs₄
  have hTO₄ : IsPair h₄ TO x b := hs₄.extBut _ _ Z.TOi2 hTO₃
  refine wpAny_bind (wpAny_seqItems hTO₄ rfl ?_)
  refine wpAny_bind (upd_pair hTO₄ fun h₅ hTO₅ hs₅ => ?_)
  replace hTO₅ : IsPair h₅ TO x y := hTO₅
  replace hs₅ : Heap.SameBut TO h₄ h₅ := hs₅
  refine wpAny_bind (wpAny_letGo (wpAny_pure (wpAny_pure ?_)))
  refine wpAny_bind (wpAny_seqItems hTO₅ rfl ?_)
  refine wpAny_bind (wpAny_newTuple ?_)
  have hsz : h₅.objs.size = hp.objs.size := by rw [hs₅.1, hs₄.1, hs₃.1, hs₂.1, hs₁.1]
  have hz₅ : IsZip h₅ z TI TO .ellipsis := hs₅.extBut _ _ Z.TOz.symm (hs₄.extBut _ _ Z.i2z.symm (hs₃.extBut _ _ Z.TOz.symm (hs₂.extBut _ _ Z.i1z.symm hz₁)))
  have hk₅ : ∀ c o, c ≠ z → c ≠ TO → c ≠ i1 → c ≠ i2 → hp.get? c = some o → h₅.get? c = some o := fun c o c1 c2 c3 c4 e =>
    hs₅.extBut _ _ c2 (hs₄.extBut _ _ c4 (hs₃.extBut _ _ c2 (hs₂.extBut _ _ c3 (hs₁.extBut _ _ c1 e))))
  have h1₅ : St1 (k + 1) h₅ := D1.frame _ _ _ h1₂ fun c hc o e => hs₅.extBut c o (fun q => Z.TO1 (q ▸ hc)) (hs₄.extBut c o (fun q => Z.c1 (q ▸ hc)) (hs₃.extBut c o (fun q => Z.TO1 (q ▸ hc)) e))
  have h2₅ : St2 (k + 1) h₅ := D2.frame _ _ _ h2₄ fun c hc o e => hs₅.extBut c o (fun q => Z.TO2 (q ▸ hc)) e
  have hzlt : z < h₅.objs.size := Heap.lt_size hz₅
  show wpAny _ _ (Builtin.SmallTypes.ownedTupleHandOut (.ref z) (.ref h₅.objs.size) >>= _) _ _ _
  refine wpAny_bind ?_
  unfold Builtin.SmallTypes.ownedTupleHandOut
  have hz₆ : IsZip (h₅.push { cls := .type "tuple", data := .seq #[x, y] }) z TI TO .ellipsis := Heap.get?_push_of_some _ hz₅
  refine wpAny_bind (wpAny_setField_rec hz₆ (by simp) fun h₇ hz₇ hs₇ => ?_)
  replace hz₇ : IsZip h₇ z TI TO (rawInt h₅.objs.size) := hz₇
  refine wpAny_setField_rec hz₇ (by simp) fun h₈ hz₈ hs₈ => ?_
  replace hz₈ : IsZip h₈ z TI TO (rawInt h₅.objs.size) := hz₈
  have up : ∀ c o, c ≠ z → h₅.get? c = some o → h₈.get? c = some o := fun c o c1 e => hs₈.extBut _ _ c1 (hs₇.extBut _ _ c1 (Heap.get?_push_of_some _ e))
  have hT₈ : IsPair h₈ h₅.objs.size x y := hs₈.extBut _ _ (Nat.ne_of_gt hzlt) (hs₇.extBut _ _ (Nat.ne_of_gt hzlt) (Heap.get?_push_size _ rfl))
  have hz8 : h₈.objs.size = h₅.objs.size + 1 := by rw [hs₈.1, hs₇.1, Heap.size_push]
  rw [hsz] at hz₈ hT₈ hz8
  refine wpAny_pure ⟨_, rfl, ?_⟩
  show Q (.ref h₅.objs.size) _
  rw [hsz]
  exact hQ x y h₈ tk₄ hP1 hP2 hz₈ (up _ _ Z.TOz hTO₅) (D1.frame _ _ _ h1₅ fun c hc o e => up c o (fun q => Z.z1 (q ▸ hc)) e) (D2.frame _ _ _ h2₅ fun c hc o e => up c o (fun q => Z.z2 (q ▸ hc)) e) hT₈ hz8 fun c o c1 c2 c3 c4 e => up c o c1 (hk₅ c o c1 c2 c3 c4 e)

/-- both sources end at once -/
theorem zipD_end {a b : Value} {Q : Fin → Shared → Prop} (D1 : Draws prog w A i1 fp1 n1 P1 St1) (Z : ZA z TI TO i1 i2 fp1 fp2)
    (hz : IsZip s.heap z TI TO .none) (hTI : IsPair s.heap TI (.ref i1) (.ref i2)) (hTO : IsPair s.heap TO a b) (h1 : St1 n1 s.heap)
    (hE : ∀ h' tk e, (∀ c o, c ≠ z → c ≠ TO → c ≠ i1 → c ≠ i2 → s.heap.get? c = some o → h'.get? c = some o) → (∃ o, h'.get? e = some o ∧ o.cls = .type "StopIteration") → E (.ref e) { s with heap := h', toks := tk }) :
    wpAny (model prog w) A (Builtin.«zip.__next__» ⟨[.ref z], []⟩) Q E s := by
  show wpAny _ _ (field (.ref z) 2 >>= _) _ _ _
  refine wpAny_bind (wpAny_field hz rfl (x := .bool false) rfl ?_)
  show wpAny _ _ (field (.ref z) 3 >>= _) _ _ _
  refine wpAny_bind (wpAny_field hz rfl (x := .ref TI) rfl ?_)
  refine wpAny_bind (wpAny_seqItems hTI rfl ?_)
  show wpAny _ _ (Builtin.SmallTypes.ownedTupleIsFree (.ref z) >>= _) _ _ _
  refine wpAny_bind ?_
  unfold Builtin.SmallTypes.ownedTupleIsFree
  refine wpAny_bind (wpAny_field hz rfl (x := .none) rfl (wpAny_pure ?_))
  simp only [if_true]
  refine wpAny_bind (wpAny_rule ?_)
  refine wpAny_bind (wpAny_field hz rfl (x := .ref TO) rfl ?_)
  refine wpAny_bind (wpAny_setField_rec hz (by simp) fun h₁ hz₁ hs₁ => ?_)
  replace hz₁ : IsZip h₁ z TI TO .ellipsis := hz₁
  refine wpAny_bind ?_
  simp only [List.zipIdx_cons, List.zipIdx_nil, List.forIn_cons, List.forIn_nil]
  refine wpAny_bind (wpAny_bind (wpAny_onRaise ?_))
  show wpAny _ _ (Builtin.SmallTypes.nextOf (.ref i1) >>= _) _ _ _
  refine wpAny_bind (D1.done _ _ _ (D1.frame _ _ _ h1 fun c hc o e => hs₁.extBut c o (fun q => Z.z1 (q ▸ hc)) e) fun h₂ e hs₂ he => ?_)
  obtain ⟨oe, hoe, hce⟩ := he
  have hz₂ : IsZip h₂ z TI TO .ellipsis := hs₂ _ _ Z.i1z.symm hz₁
  have hez : e ≠ z := fun x => by subst x; rw [hz₂] at hoe; cases hoe; simp at hce
  refine wpAny_setField_rec hz₂ (by simp) fun h₃ _ hs₃ => hE h₃ _ e (fun c o c1 _ c3 _ x => hs₃.extBut _ _ c1 (hs₂ _ _ c3 (hs₁.extBut _ _ c1 x))) ⟨oe, hs₃.extBut _ _ hez hoe, hce⟩

theorem walks_zipD {n : Nat} (D1 : Draws prog w A.in1 i1 fp1 n P1 St1) (D2 : Draws prog w A.in1 i2 fp2 n P2 St2) (Z : ZA z TI TO i1 i2 fp1 fp2) (m1 : i1 ∈ fp1) (m2 : i2 ∈ fp2) :
    WalksT prog w A z (z :: TI :: TO :: (fp1 ++ fp2)) [z, TO, i1, i2] n
      (fun i vals => ∃ x y, P1 i x ∧ P2 i y ∧ vals = #[x, y])
      (fun i h => IsZip h z TI TO .none ∧ IsPair h TI (.ref i1) (.ref i2) ∧ (∃ a b, IsPair h TO a b) ∧ St1 i h ∧ St2 i h)
      (fun i T h => IsZip h z TI TO (rawInt T) ∧ IsPair h TI (.ref i1) (.ref i2) ∧ (∃ a b, IsPair h TO a b) ∧ St1 (i + 1) h ∧ St2 (i + 1) h ∧ T ≠ z ∧ T ≠ TO ∧ T ≠ i1 ∧ T ≠ i2) where
  sub := fun c hc => by
    simp only [List.mem_cons, List.not_mem_nil, or_false] at hc
    rcases hc with rfl | rfl | rfl | rfl
    · exact List.mem_cons_self ..
    · exact List.mem_cons_of_mem _ (List.mem_cons_of_mem _ (List.mem_cons_self ..))
    · exact List.mem_cons_of_mem _ (List.mem_cons_of_mem _ (List.mem_cons_of_mem _ (List.mem_append_left _ m1)))
    · exact List.mem_cons_of_mem _ (List.mem_cons_of_mem _ (List.mem_cons_of_mem _ (List.mem_append_right _ m2)))
  frame := fun i h h' hst hk => by
    obtain ⟨hz, hTI, ⟨a, b, hTO⟩, h1, h2⟩ := hst
    refine ⟨hk z (by simp) _ hz, hk TI (by simp) _ hTI, ⟨a, b, hk TO (by simp) _ hTO⟩, D1.frame _ _ _ h1 fun c hc o e => hk c ?_ o e, D2.frame _ _ _ h2 fun c hc o e => hk c ?_ o e⟩
    · exact List.mem_cons_of_mem _ (List.mem_cons_of_mem _ (List.mem_cons_of_mem _ (List.mem_append_left _ hc)))
    · exact List.mem_cons_of_mem _ (List.mem_cons_of_mem _ (List.mem_cons_of_mem _ (List.mem_append_right _ hc)))
  item := fun i s Q E hi hst hQ => by
    obtain ⟨hz, hTI, ⟨a, b, hTO⟩, h1, h2⟩ := hst
    have hT : s.TypeIs (.ref z) "zip" := ⟨_, hz, rfl⟩
    unfold pyNext
    refine wpAny_bind (wpAny_attempt (wpAny_callSpecial?_slot (name := Str.ofString "__next__") hT F.slot_zip_next
      (wpAny_call_entry F.slot_zip_next hT F.entry_zip_next
        (zipD_item D1 D2 Z hz hTI hTO h1 h2 hi hi fun x y h' tk hP1 hP2 a1 a2 a3 a4 a5 a6 hk => wpAny_pure ?_) (F.args_zip_next_1 _))))
    have lt : ∀ {c o}, s.heap.get? c = some o → s.heap.objs.size ≠ c := fun e => Nat.ne_of_gt (Heap.lt_size e)
    refine hQ s.heap.objs.size #[x, y] h' tk ⟨_, _, hP1, hP2, rfl⟩ (Nat.le_refl _) ⟨_, a5, rfl, _, rfl⟩
      ⟨a1, hk _ _ Z.TIz Z.TITO Z.TIi1 Z.TIi2 hTI, ⟨_, _, a2⟩, a3, a4, lt hz, lt hTO, (by obtain ⟨_, e⟩ := D1.live _ _ h1; exact lt e), (by obtain ⟨_, e⟩ := D2.live _ _ h2; exact lt e)⟩
      fun c o hc e => hk c o (fun x => hc (by simp [x])) (fun x => hc (by simp [x])) (fun x => hc (by simp [x])) (fun x => hc (by simp [x])) e
  go := fun elts k pos i T s Q E hm hQ => by
    obtain ⟨hz, hTI, ⟨a, b, hTO⟩, h1, h2, _⟩ := hm
    refine wpAny_letOwnedTupleGo_zip hz fun h' hz' hs' => hQ h' ⟨hz', hs'.extBut _ _ Z.TIz hTI, ⟨a, b, hs'.extBut _ _ Z.TOz hTO⟩, D1.frame _ _ _ h1 fun c hc o e => hs'.extBut c o (fun q => Z.z1 (q ▸ hc)) e,
      D2.frame _ _ _ h2 fun c hc o e => hs'.extBut c o (fun q => Z.z2 (q ▸ hc)) e⟩ fun c o hc e => hs'.extBut _ _ (fun x => hc (by simp [x])) e
  apart := fun i T h hm hT => by
    obtain ⟨_, _, _, _, _, t1, t2, t3, t4⟩ := hm
    simp only [List.mem_cons, List.not_mem_nil, or_false] at hT
    rcases hT with rfl | rfl | rfl | rfl
    · exact t1 rfl
    · exact t2 rfl
    · exact t3 rfl
    · exact t4 rfl
  done := fun s Q E hst hQ => by
    obtain ⟨hz, hTI, ⟨a, b, hTO⟩, h1, h2⟩ := hst
    have hT : s.TypeIs (.ref z) "zip" := ⟨_, hz, rfl⟩
    unfold pyNext
    refine wpAny_bind (wpAny_attempt (wpAny_callSpecial?_slot (name := Str.ofString "__next__") hT F.slot_zip_next
      (wpAny_call_entry F.slot_zip_next hT F.entry_zip_next (zipD_end D1 Z hz hTI hTO h1 fun h' tk e hk he => ?_) (F.args_zip_next_1 _))))
    obtain ⟨o, ho, hc⟩ := he
    refine wpAny_bind (wpAny_isInstance (T := "StopIteration") (b := true) ⟨o, ho, hc⟩ isSubtype_stop ?_)
    exact wpAny_pure (hQ _ _ fun c o hc e => hk c o (fun x => hc (by simp [x])) (fun x => hc (by simp [x])) (fun x => hc (by simp [x])) (fun x => hc (by simp [x])) e)
  self := fun i s Q E hst hQ => wpAny_pyIter_zip hst.1 hQ
end
end Mine
end

section -- Zn
open PySem PySem.Spec PySem.Calls PySem.W PyProof.Rows
set_option maxRecDepth 100000
set_option maxHeartbeats 4000000
namespace Mine
noncomputable abbrev zO (c : String) (l : Addr) : Obj := { cls := .type c, data := .fields #[.ref l, .int 0 0] }
noncomputable abbrev zA (h : Heap) (c1 : String) (l1 : Addr) : Heap := h.push (zO c1 l1)
noncomputable abbrev zB (h : Heap) (c1 c2 : String) (l1 l2 : Addr) : Heap := (zA h c1 l1).push (zO c2 l2)
noncomputable abbrev zC (h : Heap) (c1 c2 : String) (l1 l2 : Addr) : Heap := (zB h c1 c2 l1 l2).push { cls := .type "tuple", data := .seq #[.ref h.objs.size, .ref (zA h c1 l1).objs.size] }
noncomputable abbrev zD (h : Heap) (c1 c2 : String) (l1 l2 : Addr) : Heap := (zC h c1 c2 l1 l2).push { cls := .type "tuple", data := .seq #[.none, .none] }
noncomputable abbrev zE (h : Heap) (c1 c2 : String) (l1 l2 : Addr) : Heap := (zD h c1 c2 l1 l2).push { cls := .type "zip", data := .fields #[.none, .bool false, .bool false, .ref (zB h c1 c2 l1 l2).objs.size, .ref (zC h c1 c2 l1 l2).objs.size] }

theorem meets_zip_tt (l1 l2 : Addr) (xs ys : Array Value) :
    Meets (Builtin.«zip.__new__» ⟨[.type "zip", .ref l1, .ref l2], []⟩) (fun _ R s => s.heap.IsTuple l1 xs ∧ s.heap.IsTuple l2 ys ∧
      R (.ok (.ret (.ref (zD s.heap "tuple_iterator" "tuple_iterator" l1 l2).objs.size))) { s with heap := zE s.heap "tuple_iterator" "tuple_iterator" l1 l2 }) :=
  .of_wp fun prog w A R s h => by
    obtain ⟨hp, g, d, tk, os⟩ := s; obtain ⟨hl1, hl2, h⟩ := h
    have hsub := sub_zip
    have hL1 : Heap.IsTuple (Shared.heap ⟨hp, g, d, tk, os⟩) l1 xs := hl1
    have hL2 : Heap.IsTuple (Shared.heap ⟨hp.push { cls := .type "tuple_iterator", data := .fields #[.ref l1, .int 0 0] }, g, d, tk, os⟩) l2 ys := Heap.IsTuple.push hl2 _
    wp_walk using wpAny_pyIter_tuple hL1, wpAny_pyIter_tuple hL2
    exact ⟨_, rfl, h⟩

theorem meets_zip_tl (l1 l2 : Addr) (xs ys : Array Value) :
    Meets (Builtin.«zip.__new__» ⟨[.type "zip", .ref l1, .ref l2], []⟩) (fun _ R s => s.heap.IsTuple l1 xs ∧ s.heap.IsList l2 ys ∧
      R (.ok (.ret (.ref (zD s.heap "tuple_iterator" "list_iterator" l1 l2).objs.size))) { s with heap := zE s.heap "tuple_iterator" "list_iterator" l1 l2 }) :=
  .of_wp fun prog w A R s h => by
    obtain ⟨hp, g, d, tk, os⟩ := s; obtain ⟨hl1, hl2, h⟩ := h
    have hsub := sub_zip
    have hL1 : Heap.IsTuple (Shared.heap ⟨hp, g, d, tk, os⟩) l1 xs := hl1
    have hL2 : Heap.IsList (Shared.heap ⟨hp.push { cls := .type "tuple_iterator", data := .fields #[.ref l1, .int 0 0] }, g, d, tk, os⟩) l2 ys := Heap.IsList.push hl2 _
    wp_walk using wpAny_pyIter_tuple hL1, wpAny_pyIter_list hL2
    exact ⟨_, rfl, h⟩

/-- what stands behind the making of a zip of two -/
structure ZipNew (h h' : Heap) (c1 c2 : String) (l1 l2 : Addr) : Prop where
  z : IsZip h' (h.objs.size + 4) (h.objs.size + 2) (h.objs.size + 3) .none
  ti : IsPair h' (h.objs.size + 2) (.ref h.objs.size) (.ref (h.objs.size + 1))
  to : IsPair h' (h.objs.size + 3) .none .none
  i1 : h'.get? h.objs.size = some (zO c1 l1)
  i2 : h'.get? (h.objs.size + 1) = some (zO c2 l2)
  size : h'.objs.size = h.objs.size + 5
  keep : ∀ c o, h.get? c = some o → h'.get? c = some o
theorem zipNew (h : Heap) (c1 c2 : String) (l1 l2 : Addr) : ZipNew h (zE h c1 c2 l1 l2) c1 c2 l1 l2 ∧ (zD h c1 c2 l1 l2).objs.size = h.objs.size + 4 := by
  have z1 : (zA h c1 l1).objs.size = h.objs.size + 1 := Heap.size_push ..
  have z2 : (zB h c1 c2 l1 l2).objs.size = h.objs.size + 2 := by rw [Heap.size_push, z1]
  have z3 : (zC h c1 c2 l1 l2).objs.size = h.objs.size + 3 := by rw [Heap.size_push, z2]
  have z4 : (zD h c1 c2 l1 l2).objs.size = h.objs.size + 4 := by rw [Heap.size_push, z3]
  have z5 : (zE h c1 c2 l1 l2).objs.size = h.objs.size + 5 := by rw [Heap.size_push, z4]
  have g5 : (zE h c1 c2 l1 l2).get? (zD h c1 c2 l1 l2).objs.size = some _ := Heap.get?_push_size _ rfl
  have g4 : (zE h c1 c2 l1 l2).get? (zC h c1 c2 l1 l2).objs.size = some _ := Heap.get?_push_of_some _ (Heap.get?_push_size _ rfl)
  have g3 : (zE h c1 c2 l1 l2).get? (zB h c1 c2 l1 l2).objs.size = some _ := Heap.get?_push_of_some _ (Heap.get?_push_of_some _ (Heap.get?_push_size _ rfl))
  have g2 : (zE h c1 c2 l1 l2).get? (zA h c1 l1).objs.size = some _ := Heap.get?_push_of_some _ (Heap.get?_push_of_some _ (Heap.get?_push_of_some _ (Heap.get?_push_size _ rfl)))
  have g1 : (zE h c1 c2 l1 l2).get? h.objs.size = some _ := Heap.get?_push_of_some _ (Heap.get?_push_of_some _ (Heap.get?_push_of_some _ (Heap.get?_push_of_some _ (Heap.get?_push_size _ rfl))))
  rw [z2, z3, z4] at g5
  rw [z1, z2] at g3
  rw [z3] at g4
  rw [z1] at g2
  exact ⟨⟨g5, g3, g4, g1, g2, z5, fun c o x => Heap.get?_push_of_some _ (Heap.get?_push_of_some _ (Heap.get?_push_of_some _ (Heap.get?_push_of_some _ (Heap.get?_push_of_some _ x))))⟩, z4⟩

section
variable {prog : Program} {w : World} {A : Around} {E : Value → Shared → Prop} {s : Shared}
theorem call_zip_tt {l1 l2 : Addr} {xs ys : Array Value} {Q : Value → Shared → Prop} (hl1 : s.heap.IsTuple l1 xs) (hl2 : s.heap.IsTuple l2 ys)
    (h : ∀ h', ZipNew s.heap h' "tuple_iterator" "tuple_iterator" l1 l2 → Q (.ref (s.heap.objs.size + 4)) { s with heap := h' }) :
    wpAny (model prog w) A (call (.type "zip") [.ref l1, .ref l2]) Q E s := by
  refine callType_new F.called_zip (by decide) (F.typeCall_zip_2 _ _) (F.newCall_zip_2 _ _) (fun obj => F.args_object_init_3 obj _ _) F.entry_zip_new
    (meets_zip_tt l1 l2 xs ys) ⟨hl1, hl2, ?_⟩
  obtain ⟨z, e⟩ := zipNew s.heap "tuple_iterator" "tuple_iterator" l1 l2
  show _ ∧ _
  rw [e]
  exact ⟨⟨_, z.z, rfl⟩, h _ z⟩
theorem call_zip_tl {l1 l2 : Addr} {xs ys : Array Value} {Q : Value → Shared → Prop} (hl1 : s.heap.IsTuple l1 xs) (hl2 : s.heap.IsList l2 ys)
    (h : ∀ h', ZipNew s.heap h' "tuple_iterator" "list_iterator" l1 l2 → Q (.ref (s.heap.objs.size + 4)) { s with heap := h' }) :
    wpAny (model prog w) A (call (.type "zip") [.ref l1, .ref l2]) Q E s := by
  refine callType_new F.called_zip (by decide) (F.typeCall_zip_2 _ _) (F.newCall_zip_2 _ _) (fun obj => F.args_object_init_3 obj _ _) F.entry_zip_new
    (meets_zip_tl l1 l2 xs ys) ⟨hl1, hl2, ?_⟩
  obtain ⟨z, e⟩ := zipNew s.heap "tuple_iterator" "list_iterator" l1 l2
  show _ ∧ _
  rw [e]
  exact ⟨⟨_, z.z, rfl⟩, h _ z⟩
end
end Mine
end

section -- Zc
open PySem PySem.Spec PySem.Calls PySem.W PyProof.Rows
set_option maxRecDepth 100000
set_option maxHeartbeats 4000000
namespace Mine
open PyProof.Rows.LCg
section
variable {prog : Program} {w : World} {A : Around} {E : Value → Shared → Prop} {s : Shared} {h₀ : Heap} {L : Addr} {m : Str → Option Value} {env : Env}

structure PairSrc (prog : Program) (w : World) (A : Around) (h₀ : Heap) (L : Addr) (news : List (Addr × Obj)) (I : Addr) (s : Shared) (n : Nat) (PP : Nat → Value → Value → Prop) (fp wr : List Addr) (St : Nat → Heap → Prop) (Mid : Nat → Addr → Heap → Prop) : Prop where
  W : WalksT prog w A I fp wr n (fun i vals => ∃ x y, PP i x y ∧ vals = #[x, y]) St Mid
  start : St 0 s.heap
  low : ∀ b ∈ fp, b < s.heap.objs.size
  new : ∀ b ∈ wr, h₀.get? b = none ∧ L ≠ b ∧ ∀ p ∈ news, p.1 ≠ b

theorem pair_block {elt iter : Expr} {a b : Str} {pa pb tp : Pos} {kk : Nat} {scope : Scope} {cl : List (Str × Addr)} {pos : Pos} {s₂ : Shared} {I : Addr} {fp wr : List Addr} {n : Nat} {PP : Nat → Value → Value → Prop} {St : Nat → Heap → Prop} {Mid : Nat → Addr → Heap → Prop} {news : List (Addr × Obj)}
    {R : Nat → Value → Prop} {RR : Value → Addr → Result → Shared → Prop} (hh : A.handled = none) (X : PairSrc prog w A h₀ L news I s₂ n PP fp wr St Mid) (hsz : n ≤ sizeLine)
    (hcell : ∀ y ∈ scope.names, y.2 ≠ .cell) (hkind : scope.kind = .function) (hxa : scope.names.lookup a = some .local) (hxb : scope.names.lookup b = some .local) (hab : ¬ a = b)
    (F : Fr h₀ L s₂.heap m) (N : News h₀ L s₂.heap news)
    (helt : ∀ i x y C m₂ (s' : Shared) (E' : Value → Shared → Prop), i < n → PP i x y → s'.heap.Ns C m₂ → m₂ a = some x → m₂ b = some y →
      wpAny (model prog w) A (eval elt (compEnvC scope cl C env)) (fun v s'' => R i v ∧ ∃ tk, s'' = { s' with toks := tk }) E' s')
    (hRR : ∀ D C h tk m' ys, Fr h₀ L h m → News h₀ L h ((D, lst ys) :: news) → (∀ p ∈ news, p.1 < D) → h.Ns C m' → h₀.get? C = none → C ≠ L → C ≠ D → (∀ p ∈ news, p.1 ≠ C) → ys.length = n → (∀ i v, ys[i]? = some v → R i v) → RR (.ref D) C (.ok .next) { s₂ with heap := h, toks := tk }) :
    wpAny (model prog w) A (newList []) (fun acc s₃ => wpAny (model prog w) A (newFunctionEnv scope env.globals cl [] env.qual none .none (some env)) (fun cenv s₄ =>
      codeAny (model prog w) A (.compStart (.ListComp elt [⟨.Tuple [.Name a pa, .Name b pb] kk tp, iter, [], 0⟩] scope pos) 0 (.ref I) acc { cenv with scope := relabel scope env }) (RR acc cenv.locals) s₄) E s₃) E s₂ := by
  refine wpAny_newObj_type (wpAny_newFunctionEnv hcell (by intro y hy; simp at hy) (fun h₁ hns₁ hsb₁ => ?_) hkind)
  dsimp only at hns₁ hsb₁ ⊢
  generalize hH2 : s₂.heap.push { cls := .type "list", dict := none, data := .seq ([] : List Value).toArray } = H2 at hns₁ hsb₁ ⊢
  have hC : H2.objs.size = s₂.heap.objs.size + 1 := by rw [← hH2, Heap.size_push]
  have hDC : s₂.heap.objs.size ≠ H2.objs.size := by rw [hC]; exact Nat.ne_of_lt (Nat.lt_succ_self _)
  have below : ∀ b, b < s₂.heap.objs.size → b ≠ H2.objs.size ∧ b ≠ s₂.heap.objs.size := fun b hb => ⟨by rw [hC]; exact Nat.ne_of_lt (Nat.lt_succ_of_lt hb), Nat.ne_of_lt hb⟩
  have hDf : s₂.heap.objs.size ∉ fp := fun hm => Nat.lt_irrefl _ (X.low _ hm)
  have hCf : H2.objs.size ∉ fp := fun hm => by have := X.low _ hm; rw [hC] at this; exact Nat.lt_irrefl _ (Nat.lt_of_succ_lt this)
  have hDw : s₂.heap.objs.size ∉ wr := fun hm => hDf (X.W.sub _ hm)
  have hCw : H2.objs.size ∉ wr := fun hm => hCf (X.W.sub _ hm)
  have old : ∀ b o, s₂.heap.get? b = some o → h₁.get? b = some o := fun b o e => hsb₁.extBut b o (below b (Heap.lt_size e)).1 (Heap.get?_push_of_some _ (hH2 ▸ Heap.get?_push_of_some _ e))
  have hacc : h₁.get? s₂.heap.objs.size = some (lst []) := hsb₁.extBut _ _ hDC (Heap.get?_push_of_some _ (hH2 ▸ Heap.get?_push_size _ rfl))
  have hst₁ : St 0 h₁ := X.W.frame _ _ _ X.start fun b _ o e => old b o e
  have fresh : ∀ a, s₂.heap.objs.size ≤ a → s₂.heap.get? a = none := fun a ha => by
    cases e : s₂.heap.get? a with
    | none => rfl
    | some o' => exact absurd (Heap.lt_size e) (Nat.not_lt.mpr ha)
  have fresh₀ : ∀ a, s₂.heap.objs.size ≤ a → h₀.get? a = none := fun a ha => by
    cases e : h₀.get? a with
    | none => rfl
    | some o' => have := F.keep a o' e; rw [fresh a ha] at this; cases this
  have hD₀ : h₀.get? s₂.heap.objs.size = none := fresh₀ _ (Nat.le_refl _)
  have hC₀ : h₀.get? H2.objs.size = none := fresh₀ _ (by rw [hC]; exact Nat.le_succ _)
  have hLlt : L < s₂.heap.objs.size := F.ns.lt
  have hDL : s₂.heap.objs.size ≠ L := Ne.symm (below L hLlt).2
  have hCL : H2.objs.size ≠ L := Ne.symm (below L hLlt).1
  have ltN : ∀ p ∈ news, p.1 < s₂.heap.objs.size := fun p hp => Heap.lt_size (N p hp).1
  -- what a change of the source's own objects, of the namespace and of the list leaves
  have keepF : ∀ h h' : Heap, Fr h₀ L h m → (∀ c o, c ∉ wr → c ≠ H2.objs.size → c ≠ s₂.heap.objs.size → h.get? c = some o → h'.get? c = some o) → Fr h₀ L h' m := fun h h' F' k =>
    ⟨F'.ns.at' fun o e => k L o (fun q => (X.new L q).2.1 rfl) (Ne.symm hCL) (Ne.symm hDL) e, fun c o e => k c o (fun q => by rw [(X.new c q).1] at e; cases e) (fun q => by rw [q, hC₀] at e; cases e) (fun q => by rw [q, hD₀] at e; cases e) (F'.keep c o e), F'.above⟩
  have keepN : ∀ h h' : Heap, News h₀ L h news → (∀ c o, c ∉ wr → c ≠ H2.objs.size → c ≠ s₂.heap.objs.size → h.get? c = some o → h'.get? c = some o) → News h₀ L h' news := fun h h' N' k p hp =>
    ⟨k _ _ (fun q => (X.new _ q).2.2 p hp rfl) (below _ (ltN p hp)).1 (below _ (ltN p hp)).2 (N' p hp).1, (N' p hp).2⟩
  have loop : ∀ s₃ : Shared, s₃ = { s₂ with heap := h₁, toks := s₂.toks + ([] : List (Str × Value)).length } →
      codeAny (model prog w) A (.compLoop (.ListComp elt [⟨.Tuple [.Name a pa, .Name b pb] kk tp, iter, [], 0⟩] scope pos) 0 (.ref I) (.ref s₂.heap.objs.size) (compEnvC scope cl H2.objs.size env))
        (RR (.ref s₂.heap.objs.size) H2.objs.size) s₃ := by
    rintro s₃ rfl
    refine kcp_loop
      (fun k s' => ∃ h' tk i ys m', s' = { s₂ with heap := h', toks := tk } ∧ i ≤ n ∧ k = n + 1 - i ∧ ys.length = i ∧ St i h' ∧ Fr h₀ L h' m ∧ News h₀ L h' news ∧ h'.Ns H2.objs.size m' ∧
        h'.get? s₂.heap.objs.size = some (lst ys) ∧ (∀ j v, ys[j]? = some v → R j v)) ?_ (n + 1)
      ⟨h₁, _, 0, [], _, rfl, Nat.zero_le _, rfl, rfl, hst₁, F.keeps old, N.grown old, hns₁, hacc, fun j v e => by simp at e⟩
    rintro k s' ⟨h', tk, i, ys, m', rfl, hi, rfl, hyl, hst', F', N', hn', hl', hR'⟩
    by_cases hlt : i < n
    · refine X.W.item i _ _ _ hlt hst' fun T vals h₂ tk₂ hP _ hT hMid hk₂ => ?_
      obtain ⟨x, y, hxy, rfl⟩ := hP
      refine X.W.go _ _ _ i T _ _ _ hMid fun h₃ hst₃ hk₃ => ?_
      have hT₃ : h₃.IsTuple T #[x, y] := hT.at fun o e => hk₃ T o (X.W.apart i T _ hMid) e
      have up₃ : ∀ c o, c ∉ wr → h'.get? c = some o → h₃.get? c = some o := fun c o hc e => hk₃ c o hc (hk₂ c o hc e)
      refine kcp_assign (env := compEnvC scope cl H2.objs.size env) hh hT₃ (lookup_relabel_local hxa) (lookup_relabel_local hxb) (by simp [compEnvC, relabel, hkind]) (hn'.at' fun o e => up₃ _ o hCw e) fun h₄ tk₄ hn₄ hs₄ => ?_
      have hst₄ : St (i + 1) h₄ := X.W.frame _ _ _ hst₃ fun c hc o e => hs₄ c o (fun q => hCf (by have q' : c = H2.objs.size := q; rw [← q']; exact hc)) e
      have up : ∀ c o, c ∉ wr → c ≠ H2.objs.size → h'.get? c = some o → h₄.get? c = some o := fun c o h1 h2 e => hs₄ c o h2 (up₃ c o h1 e)
      refine wpAny_mono (helt i x y H2.objs.size _ _ _ hlt hxy hn₄ (by simp [hab]) (by simp)) (fun v s₅ h₅ => ?_) fun _ _ e => e
      obtain ⟨hv, tk₅, rfl⟩ := h₅
      have hl₄ : h₄.get? s₂.heap.objs.size = some (lst ys) := up _ _ hDw hDC hl'
      refine append_at (hsz := by show ys.toArray.size ≤ sizeLine; rw [List.size_toArray, hyl]; exact Nat.le_trans hi hsz) hl₄ fun h₅ hs₅ hD₅ => ?_
      have upAll : ∀ c o, c ∉ wr → c ≠ H2.objs.size → c ≠ s₂.heap.objs.size → h'.get? c = some o → h₅.get? c = some o := fun c o h1 h2 h3 e => hs₅.extBut c o h3 (up c o h1 h2 e)
      refine ⟨n + 1 - (i + 1), by omega, h₅, tk₅, i + 1, ys ++ [v], _, rfl, hlt, rfl, by rw [List.length_append, List.length_singleton, hyl], X.W.frame _ _ _ hst₄ fun c hc o e => hs₅.extBut c o (fun q => hDf (q ▸ hc)) e,
        keepF _ _ F' upAll, keepN _ _ N' upAll, hn₄.sameBut hs₅ (Ne.symm hDC), hD₅.trans (congrArg some (lst_snoc ys v)), fun j u e => ?_⟩
      by_cases hj : j < ys.length
      · rw [List.getElem?_append_left hj] at e
        exact hR' j u e
      · rw [List.getElem?_append_right (Nat.le_of_not_lt hj)] at e
        have : j = i := by
          cases q : j - ys.length with
          | zero => omega
          | succ z => rw [q] at e; simp at e
        subst this
        rw [hyl, Nat.sub_self] at e
        have e' : v = u := by simpa using e
        subst e'
        exact hv
    · obtain rfl : i = n := Nat.le_antisymm hi (Nat.not_lt.mp hlt)
      refine X.W.done _ _ _ hst' fun h₂ tk₂ hk₂ => ?_
      have upAll : ∀ c o, c ∉ wr → c ≠ H2.objs.size → c ≠ s₂.heap.objs.size → h'.get? c = some o → h₂.get? c = some o := fun c o h1 _ _ e => hk₂ c o h1 e
      refine hRR _ _ h₂ tk₂ _ ys (keepF _ _ F' upAll) (fun p hp => ?_) ltN (hn'.at' fun o e => hk₂ _ o hCw e) hC₀ hCL (Ne.symm hDC) (fun p hp => (below _ (ltN p hp)).1) hyl hR'
      rcases List.mem_cons.mp hp with rfl | hp
      · exact ⟨hk₂ _ _ hDw hl', hDL, hD₀⟩
      · exact keepN _ _ N' upAll p hp
  exact codeAny_compStart_list (loop _ rfl) (X.W.self 0 _ _ _ hst₁ (loop _ rfl))

noncomputable def SrcP (prog : Program) (w : World) (A : Around) (h₀ : Heap) (L : Addr) (m : Str → Option Value) (env : Env) (elt : Expr) (a b : Str) (scope : Scope) (cl : List (Str × Addr)) (Q : Value → Shared → Prop) (xv : Value) (s₂ : Shared) : Prop :=
  ∃ (I : Addr) (n : Nat) (PP : Nat → Value → Value → Prop) (fp wr : List Addr) (St : Nat → Heap → Prop) (Mid : Nat → Addr → Heap → Prop) (news : List (Addr × Obj)) (R : Nat → Value → Prop), xv = .ref I ∧ A.handled = none ∧
    PairSrc prog w A h₀ L news I s₂ n PP fp wr St Mid ∧ n ≤ sizeLine ∧ Fr h₀ L s₂.heap m ∧ News h₀ L s₂.heap news ∧
    (∀ i x y C m₂ (s' : Shared) (E' : Value → Shared → Prop), i < n → PP i x y → s'.heap.Ns C m₂ → m₂ a = some x → m₂ b = some y →
      wpAny (model prog w) A (eval elt (compEnvC scope cl C env)) (fun v s'' => R i v ∧ ∃ tk, s'' = { s' with toks := tk }) E' s') ∧
    ∀ D h tk ys, Fr h₀ L h m → News h₀ L h ((D, lst ys) :: news) → (∀ p ∈ news, p.1 < D) → ys.length = n → (∀ i v, ys[i]? = some v → R i v) → Q (.ref D) { s₂ with heap := h, toks := tk }

theorem comp_P {elt iter : Expr} {a b : Str} {pa pb tp : Pos} {kk : Nat} {scope : Scope} {cl : List (Str × Addr)} {pos : Pos} {Q : Value → Shared → Prop}
    (_F₀ : Fr h₀ L s.heap m) (hclos : closureFor scope env = pure cl) (hcell : ∀ y ∈ scope.names, y.2 ≠ .cell) (hkind : scope.kind = .function)
    (hnames : ∀ y ∈ scope.names, y.2 = .local → scope.names.lookup y.1 = some .local) (hxa : scope.names.lookup a = some .local) (hxb : scope.names.lookup b = some .local) (hab : ¬ a = b)
    (h : wpAny (model prog w) A (eval iter env) (SrcP prog w A h₀ L m env elt a b scope cl Q) E s)
    (hs : ∀ x, foldedSetIterable iter env x = pure x) :
    wpAny (model prog w) A (eval (.ListComp elt [⟨.Tuple [.Name a pa, .Name b pb] kk tp, iter, [], 0⟩] scope pos) env) Q E s := by
  rw [eval_ListComp]
  refine wpAny_comprehension_free (use := none) rfl hs hclos hkind hnames (wpAny_mono h (fun xv s₁ h₁ => ?_) fun _ _ e => e)
  obtain ⟨I, n, PP, fp, wr, St, Mid, news, R, rfl, hh, X, hsz, F, N, helt, fin⟩ := h₁
  refine X.W.self 0 _ _ _ X.start ?_
  refine pair_block hh X hsz hcell hkind hxa hxb hab F N helt ?_
  intro D C h tk m' ys F' N' o1 hn hC₀ hCL hCD offC hyl hR
  refine ⟨m', hn, fun h'' hs'' => fin D h'' tk ys (F'.change hs'' hCL hC₀) (fun p hp => ?_) o1 hyl hR⟩
  refine ⟨hs''.extBut _ _ ?_ (N' p hp).1, (N' p hp).2⟩
  rcases List.mem_cons.mp hp with rfl | hp
  · exact Ne.symm hCD
  · exact offC p hp
end
end Mine
end

section -- Zt
open PySem PySem.Spec PySem.Calls PySem.W PyProof.Rows
set_option maxRecDepth 100000
set_option maxHeartbeats 4000000
namespace Mine
section
variable {prog : Program} {w : World} {A : Around} {E : Value → Shared → Prop} {s : Shared} {h₀ : Heap} {env : Env} {m : Str → Option Value} {body : List Stmt} {news : List (Addr × Obj)}

theorem za_new {n l1 l2 : Addr} (h1 : l1 < n) (h2 : l2 < n) : ZA (n + 4) (n + 2) (n + 3) n (n + 1) [n, l1] [n + 1, l2] := by
  have e1 : ∀ k, n ≠ n + (k + 1) := fun k => by refine neN ?_; omega
  have q1 : ∀ k, l1 ≠ n + k := fun k => ktu_ne k h1
  have q2 : ∀ k, l2 ≠ n + k := fun k => ktu_ne k h2
  constructor
  all_goals first
    | (refine neN ?_; omega)
    | (intro hm
       simp only [List.mem_cons, List.not_mem_nil, or_false] at hm
       rcases hm with e | e
       · exact absurd e (by refine neN ?_; omega)
       · first | exact q1 _ e.symm | exact q2 _ e.symm | exact absurd e (Nat.ne_of_gt h1) | exact absurd e (Nat.ne_of_gt h2))

theorem draws_list (hh : A.handled = none) (it l : Addr) (hne : l ≠ it) (items : Array Value) :
    Draws prog w A it [it, l] items.size (fun i v => items[i]? = some v) (fun i h => h.IsListIter it l i ∧ h.IsList l items) := Draws.list hh it l hne items

theorem zip_st_tt {h' : Heap} {l1 l2 : Addr} {xs ys : Array Value} (Z : ZipNew s.heap h' "tuple_iterator" "tuple_iterator" l1 l2) (hl1 : s.heap.IsTuple l1 xs) (hl2 : s.heap.IsTuple l2 ys) :
    IsZip h' (s.heap.objs.size + 4) (s.heap.objs.size + 2) (s.heap.objs.size + 3) .none ∧ IsPair h' (s.heap.objs.size + 2) (.ref s.heap.objs.size) (.ref (s.heap.objs.size + 1)) ∧ (∃ a b, IsPair h' (s.heap.objs.size + 3) a b) ∧
      (h'.IsTupleIter s.heap.objs.size l1 0 ∧ h'.IsTuple l1 xs) ∧ (h'.IsTupleIter (s.heap.objs.size + 1) l2 0 ∧ h'.IsTuple l2 ys) :=
  ⟨Z.z, Z.ti, ⟨_, _, Z.to⟩, ⟨⟨_, Z.i1, rfl, rfl⟩, hl1.at fun o e => Z.keep _ o e⟩, ⟨⟨_, Z.i2, rfl, rfl⟩, hl2.at fun o e => Z.keep _ o e⟩⟩
theorem zip_st_tl {h' : Heap} {l1 l2 : Addr} {xs ys : Array Value} (Z : ZipNew s.heap h' "tuple_iterator" "list_iterator" l1 l2) (hl1 : s.heap.IsTuple l1 xs) (hl2 : s.heap.IsList l2 ys) :
    IsZip h' (s.heap.objs.size + 4) (s.heap.objs.size + 2) (s.heap.objs.size + 3) .none ∧ IsPair h' (s.heap.objs.size + 2) (.ref s.heap.objs.size) (.ref (s.heap.objs.size + 1)) ∧ (∃ a b, IsPair h' (s.heap.objs.size + 3) a b) ∧
      (h'.IsTupleIter s.heap.objs.size l1 0 ∧ h'.IsTuple l1 xs) ∧ (h'.IsListIter (s.heap.objs.size + 1) l2 0 ∧ h'.IsList l2 ys) :=
  ⟨Z.z, Z.ti, ⟨_, _, Z.to⟩, ⟨⟨_, Z.i1, rfl, rfl⟩, hl1.at fun o e => Z.keep _ o e⟩, ⟨⟨_, Z.i2, rfl, rfl⟩, hl2.at fun o e => Z.keep _ o e⟩⟩

/-- zip of two tuples of the ledger in a for's head, turn by turn -/
theorem zip_turns {Q : Flow → Shared → Prop} {elts : List Expr} {k : Nat} {pos : Pos} {l1 l2 : Addr} {lo1 lo2 : Obj} {xs ys : List Value} {n1 n2 : Nat}
    (hh : A.handled = none) (F : Fr h₀ env.locals s.heap m) (N : News h₀ env.locals s.heap news) (hm1 : (l1, lo1) ∈ news) (hc1 : lo1.cls = .type "tuple") (hd1 : lo1.data = .seq xs.toArray n1) (hm2 : (l2, lo2) ∈ news) (hc2 : lo2.cls = .type "tuple") (hd2 : lo2.data = .seq ys.toArray n2) (hlen : xs.length = ys.length)
    (rest₀ : ∀ I : Addr, (∀ p ∈ news, p.1 < I) → ItemsRest prog w A E h₀ env (.Tuple elts k pos) body Q s [(I + 4, "zip"), (I + 2, "tuple"), (I + 3, "tuple"), (I, "tuple_iterator"), (I + 1, "tuple_iterator")] [(l1, lo1), (l2, lo2)] (zipItems xs ys) m news) :
    wpAny (model prog w) A (call (.type "zip") [.ref l1, .ref l2]) (fun xv s₁ => wpAny (model prog w) A (pyIter xv) (fun it s₂ => TurnsAt prog w A h₀ env (.Tuple elts k pos) body Q E it s₂) E s₁) E s := by
  have hax1 := N _ hm1
  have hax2 := N _ hm2
  have hl1 : s.heap.IsTuple l1 xs.toArray := ⟨lo1, hax1.1, hc1, n1, hd1⟩
  have hl2 : s.heap.IsTuple l2 ys.toArray := ⟨lo2, hax2.1, hc2, n2, hd2⟩
  have hlt1 : l1 < s.heap.objs.size := Heap.lt_size hax1.1
  have hlt2 : l2 < s.heap.objs.size := Heap.lt_size hax2.1
  have hLs : env.locals < s.heap.objs.size := F.ns.lt
  have hlen' : xs.toArray.size = ys.toArray.size := by simpa using hlen
  refine call_zip_tt hl1 hl2 fun h' Z => ?_
  refine wpAny_pyIter_zip Z.z ?_
  have D1 : Draws prog w A.in1 s.heap.objs.size [s.heap.objs.size, l1] xs.toArray.size (fun i v => xs.toArray[i]? = some v) (fun i h => h.IsTupleIter s.heap.objs.size l1 i ∧ h.IsTuple l1 xs.toArray) := draws_tuple (show A.in1.handled = none from hh) _ _ (Nat.ne_of_lt hlt1) _
  have D2 : Draws prog w A.in1 (s.heap.objs.size + 1) [s.heap.objs.size + 1, l2] xs.toArray.size (fun i v => ys.toArray[i]? = some v) (fun i h => h.IsTupleIter (s.heap.objs.size + 1) l2 i ∧ h.IsTuple l2 ys.toArray) := hlen' ▸ draws_tuple (show A.in1.handled = none from hh) _ _ (ktu_ne 1 hlt2) _
  refine ktu_core (tk0 := s.toks) (keep := [(l1, lo1), (l2, lo2)]) (KTurns.ofWalksU (walks_zipD D1 D2 (za_new hlt1 hlt2) (by simp) (by simp)).toU) (by simp [zipItems_length, hlen]) ?_ ?_ ?_ ?_ ?_ ?_ ?_ (zip_st_tt Z hl1 hl2) (F.keeps Z.keep) (N.grown Z.keep) (And.intro hm1 (And.intro hm2 trivial)) (rest₀ _ fun p hp => Heap.lt_size (N p hp).1)
  · rintro i v h ⟨T, vals, rfl, ⟨x, y, hx, hy, rfl⟩, hT⟩
    exact ⟨_, zipItems_get xs ys i (x := x) (y := y) (by simpa using hx) (by simpa using hy), T, 0, rfl, hT⟩
  · rintro i h ⟨hz, hTI, ⟨a, b, hTO⟩, ⟨⟨o1, ho1, hc1, _⟩, _⟩, ⟨o2, ho2, hc2, _⟩, _⟩
    have e1 : ∃ o : Obj, h.get? (s.heap.objs.size + 4) = some o ∧ o.cls = .type "zip" := ⟨_, hz, rfl⟩
    have e2 : ∃ o : Obj, h.get? (s.heap.objs.size + 2) = some o ∧ o.cls = .type "tuple" := ⟨_, hTI, rfl⟩
    have e3 : ∃ o : Obj, h.get? (s.heap.objs.size + 3) = some o ∧ o.cls = .type "tuple" := ⟨_, hTO, rfl⟩
    obtain ⟨q1, g1, k1⟩ := e1
    obtain ⟨q2, g2, k2⟩ := e2
    obtain ⟨q3, g3, k3⟩ := e3
    refine ⟨[(s.heap.objs.size + 4, q1), (s.heap.objs.size + 2, q2), (s.heap.objs.size + 3, q3), (s.heap.objs.size, o1), (s.heap.objs.size + 1, o2)], ⟨⟨rfl, k1⟩, ⟨rfl, k2⟩, ⟨rfl, k3⟩, ⟨rfl, hc1⟩, ⟨rfl, hc2⟩, trivial⟩, fun p hp => ?_⟩
    rcases List.mem_cons.mp hp with rfl | hp
    · exact g1
    rcases List.mem_cons.mp hp with rfl | hp
    · exact g2
    rcases List.mem_cons.mp hp with rfl | hp
    · exact g3
    rcases List.mem_cons.mp hp with rfl | hp
    · exact ho1
    rw [List.mem_singleton.mp hp]
    exact ho2
  · intro b hb
    have hb' : b = s.heap.objs.size + 4 ∨ b = s.heap.objs.size + 2 ∨ b = s.heap.objs.size + 3 ∨ b = s.heap.objs.size ∨ b = s.heap.objs.size + 1 := by simpa using hb
    rcases hb' with rfl | rfl | rfl | rfl | rfl
    · exact ⟨by simp, ktu_new F (Nat.le_add_right _ _)⟩
    · exact ⟨by simp, ktu_new F (Nat.le_add_right _ _)⟩
    · exact ⟨by simp, ktu_new F (Nat.le_add_right _ _)⟩
    · exact ⟨by simp, ktu_new F (Nat.le_refl _)⟩
    · exact ⟨by simp, ktu_new F (Nat.le_add_right _ _)⟩
  · intro b hb
    have hb' : b = s.heap.objs.size + 4 ∨ b = s.heap.objs.size + 3 ∨ b = s.heap.objs.size ∨ b = s.heap.objs.size + 1 := by simpa using hb
    rcases hb' with rfl | rfl | rfl | rfl <;> simp
  · intro b hb
    have hb' : b = s.heap.objs.size + 4 ∨ b = s.heap.objs.size + 2 ∨ b = s.heap.objs.size + 3 ∨ b = s.heap.objs.size ∨ b = l1 ∨ b = s.heap.objs.size + 1 ∨ b = l2 := by simpa using hb
    rcases hb' with rfl | rfl | rfl | rfl | rfl | rfl | rfl
    · exact .inl (by simp)
    · exact .inl (by simp)
    · exact .inl (by simp)
    · exact .inl (by simp)
    · exact .inr ⟨lo1, by simp⟩
    · exact .inl (by simp)
    · exact .inr ⟨lo2, by simp⟩
  · intro hI'
    have hb' : env.locals = s.heap.objs.size + 4 ∨ env.locals = s.heap.objs.size + 2 ∨ env.locals = s.heap.objs.size + 3 ∨ env.locals = s.heap.objs.size ∨ env.locals = l1 ∨ env.locals = s.heap.objs.size + 1 ∨ env.locals = l2 := by simpa using hI'
    have n1 := hax1.2.1
    have n2 := hax2.2.1
    rcases hb' with e | e | e | e | e | e | e
    · exact ktu_ne 4 hLs e
    · exact ktu_ne 2 hLs e
    · exact ktu_ne 3 hLs e
    · exact Nat.ne_of_lt hLs e
    · exact n1 e.symm
    · exact ktu_ne 1 hLs e
    · exact n2 e.symm
  · intro p hp hI'
    have hb' : p.1 = s.heap.objs.size + 4 ∨ p.1 = s.heap.objs.size + 3 ∨ p.1 = s.heap.objs.size ∨ p.1 = s.heap.objs.size + 1 := by simpa using hI'
    have hlp := Heap.lt_size (N p hp).1
    rcases hb' with e | e | e | e
    · exact ktu_ne 4 hlp e
    · exact ktu_ne 3 hlp e
    · exact Nat.ne_of_lt hlp e
    · exact ktu_ne 1 hlp e

/-- the same as the source of a pure comprehension: a tuple and a list -/
theorem pair_src_tl {L : Addr} {l1 l2 : Addr} {xs ys : List Value} {Q : Value → Shared → Prop} (hh : A.handled = none) (F : Fr h₀ L s.heap m) (N : News h₀ L s.heap news) (hl1 : s.heap.IsTuple l1 xs.toArray) (hl2 : s.heap.IsList l2 ys.toArray) (hlen : xs.length = ys.length)
    (h : ∀ I h' fp wr St Mid, PairSrc prog w A h₀ L news I { s with heap := h' } xs.length (fun i x y => xs[i]? = some x ∧ ys[i]? = some y) fp wr St Mid → Fr h₀ L h' m → News h₀ L h' news → Q (.ref I) { s with heap := h' }) :
    wpAny (model prog w) A (call (.type "zip") [.ref l1, .ref l2]) Q E s := by
  have hlt1 : l1 < s.heap.objs.size := by obtain ⟨_, e, _⟩ := hl1; exact Heap.lt_size e
  have hlt2 : l2 < s.heap.objs.size := by obtain ⟨_, e, _⟩ := hl2; exact Heap.lt_size e
  have hLs : L < s.heap.objs.size := F.ns.lt
  have hlen' : xs.toArray.size = ys.toArray.size := by simpa using hlen
  refine call_zip_tl hl1 hl2 fun h' Z => ?_
  have D1 : Draws prog w A.in1 s.heap.objs.size [s.heap.objs.size, l1] xs.toArray.size (fun i v => xs.toArray[i]? = some v) (fun i h => h.IsTupleIter s.heap.objs.size l1 i ∧ h.IsTuple l1 xs.toArray) := draws_tuple (show A.in1.handled = none from hh) _ _ (Nat.ne_of_lt hlt1) _
  have D2 : Draws prog w A.in1 (s.heap.objs.size + 1) [s.heap.objs.size + 1, l2] xs.toArray.size (fun i v => ys.toArray[i]? = some v) (fun i h => h.IsListIter (s.heap.objs.size + 1) l2 i ∧ h.IsList l2 ys.toArray) := hlen' ▸ Draws.list (show A.in1.handled = none from hh) _ _ (ktu_ne 1 hlt2) _
  have W := walks_zipD D1 D2 (za_new hlt1 hlt2) (by simp) (by simp)
  have eP : (fun (i : Nat) (vals : Array Value) => ∃ x y, xs.toArray[i]? = some x ∧ ys.toArray[i]? = some y ∧ vals = #[x, y]) = (fun i vals => ∃ x y, (xs[i]? = some x ∧ ys[i]? = some y) ∧ vals = #[x, y]) := by
    funext i vals
    simp only [List.getElem?_toArray, and_assoc]
  have eN : xs.toArray.size = xs.length := by simp
  rw [eP, eN] at W
  refine h _ h' _ _ _ _ ⟨W, zip_st_tl Z hl1 hl2, fun b hb => ?_, fun b hb => ?_⟩ (F.keeps Z.keep) (N.grown Z.keep)
  · show b < h'.objs.size
    rw [Z.size]
    have hb' : b = s.heap.objs.size + 4 ∨ b = s.heap.objs.size + 2 ∨ b = s.heap.objs.size + 3 ∨ b = s.heap.objs.size ∨ b = l1 ∨ b = s.heap.objs.size + 1 ∨ b = l2 := by simpa using hb
    have hlt1' : @LT.lt Nat _ l1 s.heap.objs.size := hlt1
    have hlt2' : @LT.lt Nat _ l2 s.heap.objs.size := hlt2
    show @LT.lt Nat _ b _
    rcases hb' with rfl | rfl | rfl | rfl | rfl | rfl | rfl <;> omega
  · have hb' : b = s.heap.objs.size + 4 ∨ b = s.heap.objs.size + 3 ∨ b = s.heap.objs.size ∨ b = s.heap.objs.size + 1 := by simpa using hb
    have hlp : ∀ p ∈ news, @LT.lt Nat _ p.1 s.heap.objs.size := fun p hp => Heap.lt_size (N p hp).1
    have hLs' : @LT.lt Nat _ L s.heap.objs.size := hLs
    have lo : @LE.le Nat _ s.heap.objs.size b := by rcases hb' with rfl | rfl | rfl | rfl <;> omega
    exact ⟨ktu_new F lo, Nat.ne_of_lt (Nat.lt_of_lt_of_le hLs' lo), fun p hp => Nat.ne_of_lt (Nat.lt_of_lt_of_le (hlp p hp) lo)⟩
end
end Mine
end

section -- Et
open PySem PySem.Spec PySem.Calls PySem.W PyProof.Rows
set_option maxRecDepth 100000
set_option maxHeartbeats 4000000
namespace Mine
section
variable {prog : Program} {w : World} {A : Around} {E : Value → Shared → Prop} {s : Shared} {h₀ : Heap} {env : Env} {target : Expr} {body : List Stmt} {Q : Flow → Shared → Prop}

/-- turn by turn, where the source's own footprint may lie in the ground -/
theorem turns_core {I : Addr} {fp wr : List Addr} {n : Nat} {P Md : Nat → Value → Heap → Prop} {St : Nat → Heap → Prop} {ws : List (Addr × String)} {xs : List Itm} {m₀ : Str → Option Value} {news : List (Addr × Obj)} {hp : Heap} {tk0 : Nat}
    (W : KTurns prog w A target I fp wr n P Md St) (hn : n = xs.length) (hP : ∀ i v h, P i v h → ∃ a, xs[i]? = some a ∧ a.Is v h)
    (hobj : ∀ i h, St i h → ∃ its, Objs ws its ∧ ∀ p ∈ its, h.get? p.1 = some p.2)
    (hws : ∀ b ∈ ws.map (·.1), b ∈ fp ∧ h₀.get? b = none) (hwr : ∀ b ∈ wr, b ∈ ws.map (·.1))
    (hfp : ∀ b ∈ fp, b ∈ ws.map (·.1) ∨ ∃ o, h₀.get? b = some o) (hL : env.locals ∉ fp) (hnw : ∀ p ∈ news, p.1 ∉ wr) (hst : St 0 hp)
    (F : Fr h₀ env.locals hp m₀) (N : News h₀ env.locals hp news)
    (rest : ItemsRest prog w A E h₀ env target body Q s ws [] xs m₀ news) : TurnsAt prog w A h₀ env target body Q E (.ref I) { s with heap := hp, toks := tk0 } := by
  let J : Nat → (Str → Option Value) → List (Addr × Obj) → Prop := fun i m₁ news₁ => ItemsRest prog w A E h₀ env target body Q s ws [] (xs.drop i) m₁ news₁
  refine ⟨I, fp, wr, n, P, Md, St, m₀, news, J, rfl, W, hL, fun b hb => (hws b (hwr b hb)).2, hnw, hst, F, N, (by show ItemsRest prog w A E h₀ env target body Q s ws [] (xs.drop 0) m₀ news; rw [List.drop_zero]; exact rest), ?_, ?_⟩
  · intro i v m₁ news₁ h₁ tk₁ own hin hPi hJ hoff hown hget hall hst₁ F₁ N₁
    obtain ⟨a, ha, hav⟩ := hP i v h₁ hPi
    obtain ⟨its, hits, hval⟩ := hobj (i + 1) h₁ hst₁
    have hmap := hits.map
    have hdrop : xs.drop i = a :: xs.drop (i + 1) := by
      have hlt' : i < xs.length := hn ▸ hin
      rw [List.drop_eq_getElem_cons hlt']
      congr 1
      exact Option.some.inj ((List.getElem?_eq_getElem hlt').symm.trans ha)
    have hJ' : ItemsRest prog w A E h₀ env target body Q s ws [] (a :: xs.drop (i + 1)) m₁ news₁ := by rw [← hdrop]; exact hJ
    have N₂ : News h₀ env.locals h₁ (its ++ news₁) := fun p hp => by
      rcases List.mem_append.mp hp with hp | hp
      · have h1 : p.1 ∈ ws.map (·.1) := by rw [← hmap]; exact List.mem_map.mpr ⟨p, hp, rfl⟩
        exact N₁ _ (List.mem_append_left _ (hall p.1 (hws _ h1).1 (hws _ h1).2 p.2 (hval p hp)))
      · exact N₁ _ (List.mem_append_right _ hp)
    have fin : ∀ s₃, UnrEndW h₀ env.locals { s with heap := h₁, toks := tk₁ } its (fun m' n' => SubL [] n' ∧ ItemsRest prog w A E h₀ env target body Q s ws [] (xs.drop (i + 1)) m' n') s₃ →
        LoopStepU h₀ env.locals wr own (J (i + 1)) { s with heap := h₁, toks := tk₁ } .next s₃ := by
      rintro s₃ ⟨h', tk, m', news', e, F', N', ho, hk', r⟩
      refine ⟨rfl, h', tk, m', news', e, F', ?_, ?_, r⟩
      · rintro ⟨pa, po⟩ hp
        rcases List.mem_append.mp hp with hp | hp
        · have h2 : h₁.get? pa = some po := hget _ hp
          have h0 : h₀.get? pa = none := (N₁ _ (List.mem_append_left _ hp)).2.2
          rcases hfp pa (hown _ hp) with h3 | ⟨o, h3⟩
          · have h4 : pa ∈ its.map (·.1) := by rw [hmap]; exact h3
            obtain ⟨⟨qa, qo⟩, hq, hqe⟩ := List.mem_map.mp h4
            have hqe' : qa = pa := hqe
            subst hqe'
            have h5 : h₁.get? qa = some qo := hval _ hq
            have h6 : qo = po := Option.some.inj (h5.symm.trans h2)
            subst h6
            exact N' _ (List.mem_append_left _ hq)
          · rw [h0] at h3; cases h3
        · exact N' _ (List.mem_append_right _ hp)
      · intro p hp hI
        have h4 : p.1 ∈ its.map (·.1) := by rw [hmap]; exact hwr _ hI
        obtain ⟨q, hq, hqe⟩ := List.mem_map.mp h4
        exact ho p hp q hq hqe.symm
    refine wpAny_mono ((hJ' v h₁ tk₁ hav F₁).at hits N₂) (fun _ s₂ h₂ => wpAny_mono h₂ (fun f s₃ p => ?_) fun _ _ e => e) fun _ _ e => e
    cases f with
    | ret v => exact .ret p
    | brk => exact .brk p
    | next => exact .next (fin _ p)
    | cont => exact .cont (fin _ p)
  · intro h' tk m' news' F' N' _ hJ
    have hJ' : ItemsRest prog w A E h₀ env target body Q s ws [] (xs.drop n) m' news' := hJ
    have z : xs.drop n = [] := List.drop_eq_nil_of_le (Nat.le_of_eq hn.symm)
    rw [z] at hJ'
    exact hJ' h' tk F' N'

theorem meets_enum_tup (l : Addr) (items : Array Value) (n : Nat) (dct : Option Addr) (sl : Array (Option Value)) :
    Meets (Builtin.«enumerate.__new__» ⟨[.type "enumerate", .ref l], []⟩) (fun _ R s => s.heap.get? l = some { cls := .type "tuple", dict := dct, data := .seq items n, slots := sl } ∧
      R (.ok (.ret (.ref (s.heap.push { cls := .type "tuple_iterator", data := .fields #[.ref l, .int 0 0] }).objs.size)))
        { s with heap := (s.heap.push { cls := .type "tuple_iterator", data := .fields #[.ref l, .int 0 0] }).push { cls := .type "enumerate", data := .fields #[.none, .bool false, .ref s.heap.objs.size, rawInt 0, .none, .none] } }) :=
  .of_wp fun prog w A R s h => by
    obtain ⟨hp, g, d, tk, os⟩ := s; obtain ⟨hl, h⟩ := h
    have hsub := sub_enumerate
    have hL : Heap.IsTuple (Shared.heap ⟨hp, g, d, tk, os⟩) l items := ⟨_, hl, rfl, n, rfl⟩
    wp_walk using AutoSeq1.wpAny_loadPart' hl
    refine wpAny_stack_any fun st => wpAny_pure ?_
    split
    · rename_i c _ _ _ _ _
      cases (c == Value.type "enumerate")
      · wp_walk using AutoSeq1.wpAny_loadPart' hl, wpAny_pyIter_tuple hL
        exact ⟨_, rfl, h⟩
      · wp_walk using AutoSeq1.wpAny_loadPart' hl, wpAny_pyIter_tuple hL
        exact ⟨_, rfl, h⟩
    · wp_walk using AutoSeq1.wpAny_loadPart' hl, wpAny_pyIter_tuple hL
      exact ⟨_, rfl, h⟩

theorem call_enum_tup {l : Addr} {items : Array Value} {Q : Value → Shared → Prop} (hL : s.heap.IsTuple l items)
    (h : ∀ h', IsEnum h' (s.heap.objs.size + 1) s.heap.objs.size 0 .none → h'.IsTupleIter s.heap.objs.size l 0 → h'.objs.size = s.heap.objs.size + 2 →
      (∀ b o, s.heap.get? b = some o → h'.get? b = some o) → Q (.ref (s.heap.objs.size + 1)) { s with heap := h' }) :
    wpAny (model prog w) A (call (.type "enumerate") [.ref l]) Q E s := by
  obtain ⟨⟨c, dct, dt, sl⟩, hl, hc, n, hd⟩ := hL
  replace hc : c = .type "tuple" := hc
  replace hd : dt = .seq items n := hd
  subst hc hd
  refine callType_new F.called_enumerate (by decide) (F.typeCall_enumerate_1 _) (F.newCall_enumerate_1 _) (fun obj => F.args_object_init_2 obj _) F.entry_enumerate_new
    (meets_enum_tup l items n dct sl) ⟨hl, ?_⟩
  have hz : (s.heap.push { cls := .type "tuple_iterator", data := .fields #[.ref l, .int 0 0] }).objs.size = s.heap.objs.size + 1 := Heap.size_push ..
  show _ ∧ _
  rw [hz]
  have he : IsEnum ((s.heap.push { cls := .type "tuple_iterator", data := .fields #[.ref l, .int 0 0] }).push
      { cls := .type "enumerate", data := .fields #[.none, .bool false, .ref s.heap.objs.size, rawInt 0, .none, .none] }) (s.heap.objs.size + 1) s.heap.objs.size 0 .none := by
    have := Heap.get?_push_size (s.heap.push { cls := .type "tuple_iterator", data := .fields #[.ref l, .int 0 0] })
      (o := { cls := .type "enumerate", data := .fields #[.none, .bool false, .ref s.heap.objs.size, rawInt 0, .none, .none] }) rfl
    rw [hz] at this; exact this
  refine ⟨⟨_, he, rfl⟩, h _ he ⟨_, Heap.get?_push_of_some _ (Heap.get?_push_size _ rfl), rfl, rfl⟩ (by rw [Heap.size_push, hz]) fun b o x => Heap.get?_push_of_some _ (Heap.get?_push_of_some _ x)⟩

/-- enumerate of a tuple of the ground, turn by turn -/
theorem enum_turns {elts : List Expr} {k : Nat} {pos : Pos} {l : Addr} {vs : List Value} {xs : List Itm} {m₀ : Str → Option Value} {news : List (Addr × Obj)}
    (hh : A.handled = none) (F : Fr h₀ env.locals s.heap m₀) (N : News h₀ env.locals s.heap news) (hT : h₀.IsTuple l vs.toArray) (hx : enumItems 0 vs = xs)
    (rest₀ : ∀ I : Addr, (∀ p ∈ news, p.1 < I) → ItemsRest prog w A E h₀ env (.Tuple elts k pos) body Q s [(I + 1, "enumerate"), (I, "tuple_iterator")] [] xs m₀ news) :
    wpAny (model prog w) A (call (.type "enumerate") [.ref l]) (fun xv s₁ => wpAny (model prog w) A (pyIter xv) (fun it s₂ => TurnsAt prog w A h₀ env (.Tuple elts k pos) body Q E it s₂) E s₁) E s := by
  subst hx
  obtain ⟨lo, hlo, hc, nn, hd⟩ := hT
  have hl : s.heap.IsTuple l vs.toArray := ⟨lo, F.keep _ _ hlo, hc, nn, hd⟩
  have hlt : l < s.heap.objs.size := Heap.lt_size (F.keep _ _ hlo)
  have hLs : env.locals < s.heap.objs.size := F.ns.lt
  have hlL : env.locals ≠ l := fun e => absurd (Heap.lt_size hlo) (Nat.not_lt.mpr (e ▸ F.above))
  refine call_enum_tup hl fun h' hE hI hsz hk => ?_
  refine wpAny_pyIter_enum hE ?_
  have D : Draws prog w A.in1 s.heap.objs.size [s.heap.objs.size, l] vs.toArray.size (fun i v => vs.toArray[i]? = some v) (fun i h => h.IsTupleIter s.heap.objs.size l i ∧ h.IsTuple l vs.toArray) := draws_tuple (show A.in1.handled = none from hh) _ _ (Nat.ne_of_lt hlt) _
  refine turns_core (tk0 := s.toks) (KTurns.ofWalksU (WalksT.enumerateD D (s.heap.objs.size + 1) (Nat.succ_ne_self _) ?_ (by simp)).toU) (by simp [enumItems_length]) ?_ ?_ ?_ ?_ ?_ ?_ ?_ ?_ (F.keeps hk) (N.grown hk) (rest₀ _ fun p hp => Heap.lt_size (N p hp).1)
  · intro hm
    rcases List.mem_cons.mp hm with e | hm
    · exact Nat.succ_ne_self _ e
    · exact ktu_ne 1 hlt (List.mem_singleton.mp hm).symm
  · rintro i v h ⟨T, vals, rfl, ⟨t, x, hx, rfl⟩, hT⟩
    refine ⟨_, enumItems_get vs 0 i (v := x) (by simpa using hx), T, t, rfl, ?_⟩
    show IsTup h T #[.int ((0 + i : Nat) : Int) t, x]
    rw [Nat.zero_add]
    exact hT
  · rintro i h ⟨⟨old, he⟩, ⟨oi, hoi, hic, _⟩, _⟩
    have he' : ∃ oe : Obj, h.get? (s.heap.objs.size + 1) = some oe ∧ oe.cls = .type "enumerate" := ⟨_, he, rfl⟩
    obtain ⟨oe, h1, h2⟩ := he'
    refine ⟨[(s.heap.objs.size + 1, oe), (s.heap.objs.size, oi)], ⟨⟨rfl, h2⟩, ⟨rfl, hic⟩, trivial⟩, fun p hp => ?_⟩
    rcases List.mem_cons.mp hp with rfl | hp
    · exact h1
    · rw [List.mem_singleton.mp hp]; exact hoi
  · intro b hb
    have hb' : b = s.heap.objs.size + 1 ∨ b = s.heap.objs.size := by simpa using hb
    rcases hb' with rfl | rfl
    · exact ⟨by simp, ktu_new F (Nat.le_add_right _ _)⟩
    · exact ⟨by simp, ktu_new F (Nat.le_refl _)⟩
  · intro b hb
    simpa using hb
  · intro b hb
    have hb' : b = s.heap.objs.size + 1 ∨ b = s.heap.objs.size ∨ b = l := by simpa using hb
    rcases hb' with rfl | rfl | rfl
    · exact .inl (by simp)
    · exact .inl (by simp)
    · exact .inr ⟨lo, hlo⟩
  · intro hI'
    have hb' : env.locals = s.heap.objs.size + 1 ∨ env.locals = s.heap.objs.size ∨ env.locals = l := by simpa using hI'
    rcases hb' with e | e | e
    · exact ktu_ne 1 hLs e
    · exact Nat.ne_of_lt hLs e
    · exact hlL e
  · intro p hp hI'
    have hb' : p.1 = s.heap.objs.size + 1 ∨ p.1 = s.heap.objs.size := by simpa using hI'
    have hlp := Heap.lt_size (N p hp).1
    rcases hb' with e | e
    · exact ktu_ne 1 hlp e
    · exact Nat.ne_of_lt hlp e
  · exact ⟨⟨.none, hE⟩, hI, hl.at fun o e => hk l o e⟩
end
end Mine
end

section -- Fa
open PySem PySem.Spec PySem.Calls PySem.W PyProof.Rows
set_option maxRecDepth 100000
set_option maxHeartbeats 4000000
namespace Mine
open PyProof.Rows.LCg
section
variable {prog : Program} {w : World} {A : Around} {E : Value → Shared → Prop} {s : Shared} {h₀ : Heap} {L : Addr} {m : Str → Option Value} {env : Env} {news : List (Addr × Obj)}

theorem len_three {α : Type} : ∀ {l : List α}, l.length = 3 → ∃ x y z, l = [x, y, z]
  | [], h => nomatch h
  | x :: r, h => by
    cases r with
    | nil => exact absurd (show (0 : Nat) = 2 from Nat.succ.inj h) (by decide)
    | cons y r =>
      obtain ⟨z, rfl⟩ := List.length_eq_one_iff.mp (Nat.succ.inj (Nat.succ.inj h))
      exact ⟨x, y, z, rfl⟩
theorem three_ints {ys : List Value} (c0 c1 c2 : Int) (hl : ys.length = 3) (hR : ∀ (i : Nat) (v : Value), ys[i]? = some v → ∃ t c, [c0, c1, c2][i]? = some c ∧ v = Value.int c t) : ∃ t0 t1 t2, ys = [Value.int c0 t0, Value.int c1 t1, Value.int c2 t2] := by
  obtain ⟨x, y, z, rfl⟩ := len_three hl
  obtain ⟨t0, e0, h0, rfl⟩ := hR 0 x rfl
  obtain ⟨t1, e1, h1, rfl⟩ := hR 1 y rfl
  obtain ⟨t2, e2, h2, rfl⟩ := hR 2 z rfl
  exact ⟨t0, t1, t2, by rw [← Option.some.inj h0, ← Option.some.inj h1, ← Option.some.inj h2]⟩

/-- a pure comprehension over a zip of three and three ints -/
theorem SrcP.three {elt : Expr} {a b : Str} {scope : Scope} {cl : List (Str × Addr)} {Q : Value → Shared → Prop} {I : Addr} {fp wr : List Addr} {St : Nat → Heap → Prop} {Mid : Nat → Addr → Heap → Prop} {a1 a2 a3 b1 b2 b3 : Int} {t1 t2 t3 u1 u2 u3 : Tok} (c1 c2 c3 : Int)
    (hh : A.handled = none) (F : Fr h₀ L s.heap m) (N : News h₀ L s.heap news) (X : PairSrc prog w A h₀ L news I s 3 (fun i x y => [Value.int a1 t1, .int a2 t2, .int a3 t3][i]? = some x ∧ [Value.int b1 u1, .int b2 u2, .int b3 u3][i]? = some y) fp wr St Mid)
    (e1 : ∀ C m₂ (s' : Shared) (E' Q' : Value → Shared → Prop), s'.heap.Ns C m₂ → m₂ a = some (.int a1 t1) → m₂ b = some (.int b1 u1) → (∀ t tk, Q' (.int c1 t) { s' with toks := tk }) → wpAny (model prog w) A (eval elt (compEnvC scope cl C env)) Q' E' s')
    (e2 : ∀ C m₂ (s' : Shared) (E' Q' : Value → Shared → Prop), s'.heap.Ns C m₂ → m₂ a = some (.int a2 t2) → m₂ b = some (.int b2 u2) → (∀ t tk, Q' (.int c2 t) { s' with toks := tk }) → wpAny (model prog w) A (eval elt (compEnvC scope cl C env)) Q' E' s')
    (e3 : ∀ C m₂ (s' : Shared) (E' Q' : Value → Shared → Prop), s'.heap.Ns C m₂ → m₂ a = some (.int a3 t3) → m₂ b = some (.int b3 u3) → (∀ t tk, Q' (.int c3 t) { s' with toks := tk }) → wpAny (model prog w) A (eval elt (compEnvC scope cl C env)) Q' E' s')
    (fin : ∀ D h tk v1 v2 v3, Fr h₀ L h m → News h₀ L h ((D, lst [.int c1 v1, .int c2 v2, .int c3 v3]) :: news) → (∀ p ∈ news, p.1 < D) → Q (.ref D) { s with heap := h, toks := tk }) :
    SrcP prog w A h₀ L m env elt a b scope cl Q (.ref I) s := by
  refine ⟨I, 3, _, fp, wr, St, Mid, news, fun i v => ∃ t c, [c1, c2, c3][i]? = some c ∧ v = Value.int c t, rfl, hh, X, by decide, F, N, ?_, ?_⟩
  · intro i x y C m₂ s' E' hi hxy hn hx hy
    obtain ⟨hx', hy'⟩ := hxy
    match i, hi with
    | 0, _ =>
      cases hx'; cases hy'
      exact e1 C m₂ s' E' _ hn hx hy fun t tk => ⟨⟨t, c1, rfl, rfl⟩, tk, rfl⟩
    | 1, _ =>
      cases hx'; cases hy'
      exact e2 C m₂ s' E' _ hn hx hy fun t tk => ⟨⟨t, c2, rfl, rfl⟩, tk, rfl⟩
    | 2, _ =>
      cases hx'; cases hy'
      exact e3 C m₂ s' E' _ hn hx hy fun t tk => ⟨⟨t, c3, rfl, rfl⟩, tk, rfl⟩
  · intro D h tk ys F' N' lt hl hR
    obtain ⟨v1, v2, v3, rfl⟩ := three_ints c1 c2 c3 hl hR
    exact fin D h tk v1 v2 v3 F' N' lt
end
end Mine
end

section -- Cm
open PySem PySem.Spec PySem.Calls PySem.W PyProof.Rows
set_option maxRecDepth 100000
set_option maxHeartbeats 4000000
namespace Mine
open PyProof.Rows.LCg PyProof.Rows.LCt

/-- a source of a comprehension: what one pyIter makes of it -/
structure Src (prog : Program) (w : World) (A : Around) (h₀ : Heap) (L : Addr) (xv : Value) (s₁ : Shared) (n : Nat) (P : Nat → Value → Prop) (S : List (Addr × Obj) → Prop) (oI : Obj) (fp : List Addr) (St : Nat → Heap → Prop) : Prop where
  W : Walks prog w A s₁.heap.objs.size fp [s₁.heap.objs.size] n P St
  has : ∀ i h, St i h → ∃ o, h.get? s₁.heap.objs.size = some o
  keep : ∀ i h h' o nw, St i h → h.get? s₁.heap.objs.size = some o → h'.get? s₁.heap.objs.size = some o → (∀ b o, h₀.get? b = some o → h'.get? b = some o) → News h₀ L h' nw → S nw → St i h'
  start : St 0 (s₁.heap.push oI)
  low : ∀ b ∈ fp, b ≤ s₁.heap.objs.size
  iter : ∀ (Q E : Value → Shared → Prop), Q (.ref s₁.heap.objs.size) { s₁ with heap := s₁.heap.push oI } → wpAny (model prog w) A (pyIter xv) Q E s₁

section
variable {prog : Program} {w : World} {A : Around} {E : Value → Shared → Prop} {s : Shared} {h₀ : Heap} {L : Addr} {m : Str → Option Value} {env : Env}

noncomputable def SrcU (prog : Program) (w : World) (A : Around) (h₀ : Heap) (L : Addr) (m : Str → Option Value) (env : Env) (elt : Expr) (x : Str) (scope : Scope) (cl : List (Str × Addr)) (Q : Value → Shared → Prop) (xv : Value) (s₁ : Shared) : Prop :=
  ∃ (n : Nat) (P : Nat → Value → Prop) (S : List (Addr × Obj) → Prop) (oI : Obj) (fp : List Addr) (St : Nat → Heap → Prop) (news : List (Addr × Obj)),
    Src prog w A h₀ L xv s₁ n P S oI fp St ∧ Fr h₀ L s₁.heap m ∧ News h₀ L s₁.heap news ∧ S news ∧ n ≤ sizeLine ∧
    ∀ g : Heap, CompRest prog w A h₀ L m env elt x scope cl { s₁ with heap := g } S P (FinE h₀ L m { s₁ with heap := g } Q) n 0 [] news
noncomputable def SrcT (prog : Program) (w : World) (A : Around) (h₀ : Heap) (L : Addr) (m : Str → Option Value) (env : Env) (ct elt : Expr) (x : Str) (scope : Scope) (cl : List (Str × Addr)) (Q : Value → Shared → Prop) (xv : Value) (s₁ : Shared) : Prop :=
  ∃ (n : Nat) (P : Nat → Value → Prop) (S : List (Addr × Obj) → Prop) (oI : Obj) (fp : List Addr) (St : Nat → Heap → Prop) (news : List (Addr × Obj)),
    Src prog w A h₀ L xv s₁ n P S oI fp St ∧ Fr h₀ L s₁.heap m ∧ News h₀ L s₁.heap news ∧ S news ∧ n ≤ sizeLine ∧
    ∀ g : Heap, CompRestT prog w A h₀ L m env ct elt x scope cl { s₁ with heap := g } S P (FinE h₀ L m { s₁ with heap := g } Q) n 0 [] news

theorem comp_U {elt iter : Expr} {x : Str} {px : Pos} {scope : Scope} {cl : List (Str × Addr)} {pos : Pos} {Q : Value → Shared → Prop}
    (_F₀ : Fr h₀ L s.heap m) (hclos : closureFor scope env = pure cl) (hcell : ∀ y ∈ scope.names, y.2 ≠ .cell) (hkind : scope.kind = .function)
    (hnames : ∀ y ∈ scope.names, y.2 = .local → scope.names.lookup y.1 = some .local) (hx : scope.names.lookup x = some .local)
    (h : wpAny (model prog w) A (eval iter env) (SrcU prog w A h₀ L m env elt x scope cl Q) E s)
    (hs : ∀ x, foldedSetIterable iter env x = pure x) :
    wpAny (model prog w) A (eval (.ListComp elt [⟨.Name x px, iter, [], 0⟩] scope pos) env) Q E s := by
  rw [eval_ListComp]
  refine wpAny_comprehension_free (use := none) rfl hs hclos hkind hnames (wpAny_mono h (fun xv s₁ h₁ => ?_) fun _ _ e => e)
  obtain ⟨n, P, S, oI, fp, St, news, X, F, N, hS, hsz, R⟩ := h₁
  refine X.iter _ _ ?_
  refine block_U X.W hsz X.has X.keep hcell hkind hx X.start (fun b hb => ?_) (F.push _) (fun p hp => ⟨Heap.get?_push_of_some _ (N p hp).1, (N p hp).2⟩) (Nat.ne_of_lt F.ns.lt) (next_is_new F) (fun p hp => Nat.ne_of_lt (Heap.lt_size (N p hp).1)) hS (R _) ?_
  · show b < (s₁.heap.push _).objs.size
    rw [Heap.size_push]
    exact Nat.lt_succ_of_le (X.low b hb)
  · intro D C h tk m' ys news' F' N' o1 hn hC₀ hD₀ hCL hDL hCD offC fin
    refine ⟨m', hn, fun h'' hs'' => fin D h'' tk (F'.change hs'' hCL hC₀) (fun p hp => ?_) o1⟩
    refine ⟨hs''.extBut _ _ ?_ (N' p hp).1, (N' p hp).2⟩
    rcases List.mem_cons.mp hp with rfl | hp
    · exact Ne.symm hCD
    · exact offC p hp

theorem comp_T {ct elt iter : Expr} {x : Str} {px : Pos} {scope : Scope} {cl : List (Str × Addr)} {pos : Pos} {Q : Value → Shared → Prop}
    (_F₀ : Fr h₀ L s.heap m) (hclos : closureFor scope env = pure cl) (hcell : ∀ y ∈ scope.names, y.2 ≠ .cell) (hkind : scope.kind = .function)
    (hnames : ∀ y ∈ scope.names, y.2 = .local → scope.names.lookup y.1 = some .local) (hx : scope.names.lookup x = some .local)
    (h : wpAny (model prog w) A (eval iter env) (SrcT prog w A h₀ L m env ct elt x scope cl Q) E s)
    (hs : ∀ x, foldedSetIterable iter env x = pure x) :
    wpAny (model prog w) A (eval (.ListComp elt [⟨.Name x px, iter, [ct], 0⟩] scope pos) env) Q E s := by
  rw [eval_ListComp]
  refine wpAny_comprehension_free (use := none) rfl hs hclos hkind hnames (wpAny_mono h (fun xv s₁ h₁ => ?_) fun _ _ e => e)
  obtain ⟨n, P, S, oI, fp, St, news, X, F, N, hS, hsz, R⟩ := h₁
  refine X.iter _ _ ?_
  refine block_T X.W hsz X.has X.keep hcell hkind hx X.start (fun b hb => ?_) (F.push _) (fun p hp => ⟨Heap.get?_push_of_some _ (N p hp).1, (N p hp).2⟩) (Nat.ne_of_lt F.ns.lt) (next_is_new F) (fun p hp => Nat.ne_of_lt (Heap.lt_size (N p hp).1)) hS (R _) ?_
  · show b < (s₁.heap.push _).objs.size
    rw [Heap.size_push]
    exact Nat.lt_succ_of_le (X.low b hb)
  · intro D C h tk m' ys news' F' N' o1 hn hC₀ hD₀ hCL hDL hCD offC fin
    refine ⟨m', hn, fun h'' hs'' => fin D h'' tk (F'.change hs'' hCL hC₀) (fun p hp => ?_) o1⟩
    refine ⟨hs''.extBut _ _ ?_ (N' p hp).1, (N' p hp).2⟩
    rcases List.mem_cons.mp hp with rfl | hp
    · exact Ne.symm hCD
    · exact offC p hp

/-- a tuple of the ledger -/
noncomputable def TupAt (h₀ : Heap) (ax : Addr) (its : Array Value) (news : List (Addr × Obj)) : Prop := h₀.IsTuple ax its ∨ ∃ o, (ax, o) ∈ news ∧ o.cls = .type "tuple" ∧ ∃ n, o.data = .seq its n
theorem TupAt.tup {h : Heap} {ax : Addr} {its : Array Value} {news : List (Addr × Obj)} (x : TupAt h₀ ax its news) (k : ∀ b o, h₀.get? b = some o → h.get? b = some o) (N : News h₀ L h news) : h.IsTuple ax its := by
  rcases x with ⟨o, e, r⟩ | ⟨o, hm, r⟩
  · exact ⟨o, k _ _ e, r⟩
  · exact ⟨o, (N _ hm).1, r⟩

theorem src_tup {s₁ : Shared} {ax : Addr} {its : Array Value} {news : List (Addr × Obj)} (hh : A.handled = none) (F : Fr h₀ L s₁.heap m) (N : News h₀ L s₁.heap news) (hT : TupAt h₀ ax its news) :
    Src prog w A h₀ L (.ref ax) s₁ its.size (fun i v => its[i]? = some v) (TupAt h₀ ax its) { cls := .type "tuple_iterator", data := .fields #[.ref ax, .int 0 0] } [s₁.heap.objs.size, ax] (fun i h => h.IsTupleIter s₁.heap.objs.size ax i ∧ h.IsTuple ax its) := by
  have ht := hT.tup F.keep N
  have hlt : ax < s₁.heap.objs.size := by obtain ⟨_, e, _⟩ := ht; exact Heap.lt_size e
  exact {
    W := Walks.tuple hh _ ax (Nat.ne_of_lt hlt) its
    has := fun i h st => by obtain ⟨o, e, _⟩ := st.1; exact ⟨o, e⟩
    keep := fun i h h' o nw st e e' k N S => ⟨by obtain ⟨o', q, r⟩ := st.1; rw [e] at q; cases q; exact ⟨o, e', r⟩, S.tup k N⟩
    start := ⟨⟨_, Heap.get?_push_size _ rfl, rfl, rfl⟩, ht.at fun o e => Heap.get?_push_of_some _ e⟩
    low := fun b hb => by
      rcases List.mem_cons.mp hb with rfl | hb
      · exact Nat.le_refl _
      · rw [List.mem_singleton.mp hb]; exact Nat.le_of_lt hlt
    iter := fun Q E hQ => wpAny_pyIter_tuple ht hQ }

theorem src_range {s₁ : Shared} {r : Addr} {a b c : Int} {t u v : Tok} {n : Nat} (hh : A.handled = none) (hr : IsRange s₁.heap r a b c t u v) (hsm : Builtin.Range.small a b c = true) (hn : Builtin.Range.rangeSize a b c = ((n : Nat) : Int)) :
    Src prog w A h₀ L (.ref r) s₁ n (fun i v => ∃ t, v = .int (a + (i : Int) * c) t) (fun _ => True) { cls := .type "range_iterator", data := .fields #[rawInt a, rawInt (Builtin.Range.rangeSize a b c), rawInt c] } [s₁.heap.objs.size] (fun i h => IsRangeIter h s₁.heap.objs.size (a + (i : Nat) * c) ((n : Int) - (i : Nat)) c) where
  W := Walks.range hh _ a c n
  has := fun i h st => ⟨_, st⟩
  keep := fun i h h' o nw st e e' _ _ _ => by
    have st' : h.get? s₁.heap.objs.size = some _ := st
    show h'.get? s₁.heap.objs.size = some _
    rw [e', ← e]; exact st'
  start := by
    show IsRangeIter _ _ _ _ _
    rw [hn]
    simpa using Heap.get?_push_size s₁.heap (o := { cls := .type "range_iterator", data := .fields #[rawInt a, rawInt ((n : Nat) : Int), rawInt c] }) rfl
  low := fun b hb => by rw [List.mem_singleton.mp hb]; exact Nat.le_refl _
  iter := fun Q E hQ => wpAny_pyIter_range hr hsm hQ

theorem src_bytes {s₁ : Shared} {b : Array UInt8} {t : Tok} (hh : A.handled = none) :
    Src prog w A h₀ L (.bytes b t) s₁ b.size (fun i v => ∃ c u, b[i]? = some c ∧ v = .int (c.toNat : Int) u) (fun _ => True) { cls := .type "bytes_iterator", data := .fields #[.bytes b t, .int 0 0] } [s₁.heap.objs.size] (fun i h => KBw.IsBytesIter h s₁.heap.objs.size b t i) where
  W := KBw.walks hh _ b t
  has := fun i h st => by obtain ⟨o, e, _⟩ := st; exact ⟨o, e⟩
  keep := fun i h h' o nw st e e' _ _ _ => by obtain ⟨o', q, r⟩ := st; rw [e] at q; cases q; exact ⟨o, e', r⟩
  start := ⟨_, Heap.get?_push_size _ rfl, rfl, rfl⟩
  low := fun b hb => by rw [List.mem_singleton.mp hb]; exact Nat.le_refl _
  iter := fun Q E hQ => KBw.pyIter_bytes hQ
end
end Mine
namespace Mine
open PyProof.Rows.LCg PyProof.Rows.LCt
section
variable {prog : Program} {w : World} {A : Around} {h₀ : Heap} {L : Addr} {m : Str → Option Value} {env : Env} {s₁ : Shared} {news : List (Addr × Obj)} {ct elt : Expr} {x : Str} {scope : Scope} {cl : List (Str × Addr)} {Q : Value → Shared → Prop}
theorem SrcU.tup {ax : Addr} {o : Obj} {its : Array Value} {k : Nat} (hh : A.handled = none) (F : Fr h₀ L s₁.heap m) (N : News h₀ L s₁.heap news) (hm : (ax, o) ∈ news) (hc : o.cls = .type "tuple") (hd : o.data = .seq its k) (hsz : its.size ≤ sizeLine)
    (h : ∀ g : Heap, CompRest prog w A h₀ L m env elt x scope cl { s₁ with heap := g } (TupAt h₀ ax its) (fun i v => its[i]? = some v) (FinE h₀ L m { s₁ with heap := g } Q) its.size 0 [] news) :
    SrcU prog w A h₀ L m env elt x scope cl Q (.ref ax) s₁ :=
  have S : TupAt h₀ ax its news := .inr ⟨o, hm, hc, k, hd⟩
  ⟨_, _, _, _, _, _, news, src_tup hh F N S, F, N, S, hsz, h⟩
theorem SrcT.tup {ax : Addr} {o : Obj} {its : Array Value} {k : Nat} (hh : A.handled = none) (F : Fr h₀ L s₁.heap m) (N : News h₀ L s₁.heap news) (hm : (ax, o) ∈ news) (hc : o.cls = .type "tuple") (hd : o.data = .seq its k) (hsz : its.size ≤ sizeLine)
    (h : ∀ g : Heap, CompRestT prog w A h₀ L m env ct elt x scope cl { s₁ with heap := g } (TupAt h₀ ax its) (fun i v => its[i]? = some v) (FinE h₀ L m { s₁ with heap := g } Q) its.size 0 [] news) :
    SrcT prog w A h₀ L m env ct elt x scope cl Q (.ref ax) s₁ :=
  have S : TupAt h₀ ax its news := .inr ⟨o, hm, hc, k, hd⟩
  ⟨_, _, _, _, _, _, news, src_tup hh F N S, F, N, S, hsz, h⟩
theorem SrcU.range {r : Addr} {a b c : Int} {t u v : Tok} {n : Nat} (hh : A.handled = none) (F : Fr h₀ L s₁.heap m) (N : News h₀ L s₁.heap news) (hr : IsRange s₁.heap r a b c t u v) (hsm : Builtin.Range.small a b c = true) (hn : Builtin.Range.rangeSize a b c = ((n : Nat) : Int)) (hsz : n ≤ sizeLine)
    (h : ∀ g : Heap, CompRest prog w A h₀ L m env elt x scope cl { s₁ with heap := g } (fun _ => True) (fun i v => ∃ t, v = .int (a + (i : Int) * c) t) (FinE h₀ L m { s₁ with heap := g } Q) n 0 [] news) :
    SrcU prog w A h₀ L m env elt x scope cl Q (.ref r) s₁ := ⟨_, _, _, _, _, _, news, src_range hh hr hsm hn, F, N, trivial, hsz, h⟩
theorem SrcT.range {r : Addr} {a b c : Int} {t u v : Tok} {n : Nat} (hh : A.handled = none) (F : Fr h₀ L s₁.heap m) (N : News h₀ L s₁.heap news) (hr : IsRange s₁.heap r a b c t u v) (hsm : Builtin.Range.small a b c = true) (hn : Builtin.Range.rangeSize a b c = ((n : Nat) : Int)) (hsz : n ≤ sizeLine)
    (h : ∀ g : Heap, CompRestT prog w A h₀ L m env ct elt x scope cl { s₁ with heap := g } (fun _ => True) (fun i v => ∃ t, v = .int (a + (i : Int) * c) t) (FinE h₀ L m { s₁ with heap := g } Q) n 0 [] news) :
    SrcT prog w A h₀ L m env ct elt x scope cl Q (.ref r) s₁ := ⟨_, _, _, _, _, _, news, src_range hh hr hsm hn, F, N, trivial, hsz, h⟩
theorem SrcT.bytes {b : Array UInt8} {t : Tok} (hh : A.handled = none) (F : Fr h₀ L s₁.heap m) (N : News h₀ L s₁.heap news) (hsz : b.size ≤ sizeLine)
    (h : ∀ g : Heap, CompRestT prog w A h₀ L m env ct elt x scope cl { s₁ with heap := g } (fun _ => True) (fun i v => ∃ c u, b[i]? = some c ∧ v = .int (c.toNat : Int) u) (FinE h₀ L m { s₁ with heap := g } Q) b.size 0 [] news) :
    SrcT prog w A h₀ L m env ct elt x scope cl Q (.bytes b t) s₁ := ⟨_, _, _, _, _, _, news, src_bytes hh, F, N, trivial, hsz, h⟩
end
end Mine
end

section -- En
open PySem PySem.Spec PySem.Calls PySem.W PyProof.Rows
set_option maxRecDepth 100000
set_option maxHeartbeats 4000000
namespace Mine
section
variable {prog : Program} {w : World} {A A₀ : Around} {s : Shared} {K : Frag} {L : Addr} {h₀ base : Heap} {m mg mb : Str → Option Value} {own rest : List (Addr × Obj)} {p : Program} {loose : List Str} {mean : ExcName → Option Value}

/-- a def is entered: of the caller's ledger its own part is handed on, the rest is ground -/
theorem code_own {env : Env} {outer : List Env} {R : Result → Shared → Prop} {name qual : Str} {params : Arguments} {body : List Stmt} {scope : Scope} {dV kV doc pm cdv ct oc : Value} {an od : Option Addr} {osl : Array (Option Value)} {f : Addr} {args : Args} {binds : List (Str × Value)}
    (B : Below A₀ base outer h₀) (F : Fr h₀ L s.heap m) (X₀ : K.In h₀) (N : News h₀ L s.heap own) (NR : News h₀ L s.heap rest) (hoff : ∀ q ∈ rest, ∀ p ∈ own, q.1 ≠ p.1) (T : Top p loose mean mg mb h₀) (hA : A.frames = some (env :: outer)) (hf : env.frame = some L) (hke : env.scope.kind = .function)
    (ho : K.lookup f = some ⟨oc, od, .func (fnOf name qual params body scope dV kV doc pm an cdv ct), osl⟩) (hcd : codeIn K cdv qual = true) (hroom : A.depth < recursionLimit)
    (hbind : BindsTo s (fnOf name qual params body scope dV kV doc pm an cdv ct) args binds) (hloc : ∀ y ∈ binds, scope.names.lookup y.1 = some .local)
    (h : ∀ g L' h₁, Fr h₀ L g m → Fr g L' h₁ (fun y => binds.reverse.lookup y) → News g L' h₁ own → Below A base (env :: outer) g → K.In g → Top p loose mean mg mb g → (∀ q ∈ rest, g.get? q.1 = some q.2) → (∀ b o, s.heap.get? b = some o → (∀ p ∈ own, b ≠ p.1) → g.get? b = some o) →
      wpAny (model prog w) (A.deeper (envOf qual scope L' f cdv)) (execs body (envOf qual scope L' f cdv))
        (fun fl s' => LeaveK h₀ L m g (fun r s' => News h₀ L s'.heap rest → R r s') (match fl with | .ret v => v | _ => .none) s')
        (fun e s' => wpAny (model prog w) (A.deeper (envOf qual scope L' f cdv)) (leaving (envOf qual scope L' f cdv) e) (fun _ s'' => R (.error e) s'') (fun e' s'' => R (.error e') s'') s')
        { s with heap := h₁, toks := s.toks + binds.length })
    (hco : scope.isCoroutine = false) (hgen : scope.isGenerator = false) (hk : scope.kind = .function)
    (hcell : ∀ x ∈ scope.names, x.2 ≠ .cell) : codeAny (model prog w) A (.call (.ref f) args) R s := by
  have hF := (X₀.keeps F.keep) _ _ ho
  obtain ⟨FG, BG, st, lv⟩ := groundX (R := fun r s' => News h₀ L s'.heap rest → R r s') B F N hA hf hke
  have hr : ∀ q ∈ rest, (hideAll s.heap (own.map (·.1))).get? q.1 = some q.2 := fun q hq => hideAll_get _ (NR q hq).1 fun hm => by
    obtain ⟨p, hp, e⟩ := List.mem_map.mp hm
    exact hoff q hq p hp e.symm
  have hs : ∀ b o, s.heap.get? b = some o → (∀ p ∈ own, b ≠ p.1) → (hideAll s.heap (own.map (·.1))).get? b = some o := fun b o e no => hideAll_get _ e fun hm => by
    obtain ⟨p, hp, e⟩ := List.mem_map.mp hm
    exact no p hp e.symm
  refine codeAny_call_def (fd := fnOf name qual params body scope dV kV doc pm an cdv ct) (body := body) (binds := binds) hroom hF rfl (T.nolimit.keeps F.keep) (codeRec_of (X₀.keeps F.keep) hcd) rfl hbind hcell hloc (fun h₁ hns hk₁ => ?_) hco hgen hk
  refine wpAny_mono (h _ s.heap.objs.size h₁ FG ⟨hns, fun b o e => hk₁ b o (of_hideAll _ e), Nat.le_of_eq (hideAll_size _ _)⟩
    (fun p hp => ⟨hk₁ _ _ (N p hp).1, Nat.ne_of_lt (Heap.lt_size (N p hp).1), hideAll_none _ (List.mem_map_of_mem hp)⟩) BG (X₀.keeps st) (T.keeps st) hr hs) (fun fl s' hl => ?_) fun _ _ y => y
  have hl' := hl
  obtain ⟨L', m', news', F', _, _⟩ := hl'
  exact lv _ _ hl fun q hq => ⟨F'.keep _ _ (hr q hq), (NR q hq).2⟩

/-- the same for a def whose own comprehensions close over names -/
theorem code_ownC {env : Env} {outer : List Env} {R : Result → Shared → Prop} {name qual : Str} {params : Arguments} {body : List Stmt} {scope : Scope} {dV kV doc pm cdv ct oc : Value} {an od : Option Addr} {osl : Array (Option Value)} {f : Addr} {args : Args} {binds : List (Str × Value)}
    (B : Below A₀ base outer h₀) (F : Fr h₀ L s.heap m) (X₀ : K.In h₀) (N : News h₀ L s.heap own) (NR : News h₀ L s.heap rest) (hoff : ∀ q ∈ rest, ∀ p ∈ own, q.1 ≠ p.1) (T : Top p loose mean mg mb h₀) (hA : A.frames = some (env :: outer)) (hf : env.frame = some L) (hke : env.scope.kind = .function)
    (ho : K.lookup f = some ⟨oc, od, .func (fnOf name qual params body scope dV kV doc pm an cdv ct), osl⟩) (hcd : codeIn K cdv qual = true) (hroom : A.depth < recursionLimit)
    (hbind : BindsTo s (fnOf name qual params body scope dV kV doc pm an cdv ct) args binds) (hkind : (binds.all fun y => scope.names.lookup y.1 == some .local || scope.names.lookup y.1 == some .cell) = true)
    (hnd : ((cellsFrom 0 scope.names []).map (·.1)).Nodup)
    (h : ∀ g L' h₁ tk cells, Fr h₀ L g m → Fr g L' h₁ (bindL (envOfC qual scope L' f cdv).kindOf binds fun _ => none) → News g L' h₁ (cells ++ own) →
      CellsAre (bindC (envOfC qual scope L' f cdv).kindOf binds fun _ => none) (cellsFrom (L' + 1) scope.names []) cells → Below A base (env :: outer) g → K.In g → Top p loose mean mg mb g → (∀ p ∈ own, p.1 < L') → (∀ q ∈ rest, g.get? q.1 = some q.2) → (∀ b o, s.heap.get? b = some o → (∀ p ∈ own, b ≠ p.1) → g.get? b = some o) →
      wpAny (model prog w) (A.deeper (envOfC qual scope L' f cdv)) (execs body (envOfC qual scope L' f cdv))
        (fun fl s' => LeaveK h₀ L m g (fun r s' => News h₀ L s'.heap rest → R r s') (match fl with | .ret v => v | _ => .none) s')
        (fun e s' => wpAny (model prog w) (A.deeper (envOfC qual scope L' f cdv)) (leaving (envOfC qual scope L' f cdv) e) (fun _ s'' => R (.error e) s'') (fun e' s'' => R (.error e') s'') s')
        { s with heap := h₁, toks := tk })
    (hco : scope.isCoroutine = false) (hgen : scope.isGenerator = false) (hk : scope.kind = .function) : codeAny (model prog w) A (.call (.ref f) args) R s := by
  have hF := (X₀.keeps F.keep) _ _ ho
  obtain ⟨FG, BG, st, lv⟩ := groundX (R := fun r s' => News h₀ L s'.heap rest → R r s') B F N hA hf hke
  have hr : ∀ q ∈ rest, (hideAll s.heap (own.map (·.1))).get? q.1 = some q.2 := fun q hq => hideAll_get _ (NR q hq).1 fun hm => by
    obtain ⟨p, hp, e⟩ := List.mem_map.mp hm
    exact hoff q hq p hp e.symm
  have hs : ∀ b o, s.heap.get? b = some o → (∀ p ∈ own, b ≠ p.1) → (hideAll s.heap (own.map (·.1))).get? b = some o := fun b o e no => hideAll_get _ e fun hm => by
    obtain ⟨p, hp, e⟩ := List.mem_map.mp hm
    exact no p hp e.symm
  refine codeAny_call_function hroom hF rfl hco hgen rfl (codeRec_of (X₀.keeps F.keep) hcd) (hbind _ _ _ _ ?_)
  refine wpAny_newFunctionEnv_cells hk (kindsX hkind _) fun env' he s' x => ?_
  subst he
  refine ⟨((T.nolimit).keeps F.keep).keeps x.toInCall.keep, codeAny_func ?_⟩
  obtain ⟨h₁, tk, rfl, _⟩ := x.done
  have hk₁ := x.toInCall.keep
  obtain ⟨cells, NC, Y⟩ := Cl.news (h₀ := s.heap) (Nat.le_refl _) fun n c hm => ⟨x.cell n c (lookup_of_mem_nodup (cellsFrom_names scope.names 0 (s.heap.objs.size + 1) [] [] rfl ▸ hnd) hm), x.above n c hm⟩
  refine wpAny_mono (h _ s.heap.objs.size h₁ tk cells FG ⟨x.toInCall.ns, fun b o e => hk₁ b o (of_hideAll _ e), Nat.le_of_eq (hideAll_size _ _)⟩ (fun p hp => ?_) Y BG (X₀.keeps st) (T.keeps st) (fun p hp => Heap.lt_size (N p hp).1) hr hs) (fun fl s' hl => ?_) fun _ _ y => y
  · rcases List.mem_append.mp hp with hp | hp
    · refine ⟨(NC p hp).1, (NC p hp).2.1, ?_⟩
      cases q : (hideAll s.heap (own.map (·.1))).get? p.1 with
      | none => rfl
      | some o => have := of_hideAll _ q; rw [(NC p hp).2.2] at this; cases this
    · exact ⟨hk₁ _ _ (N p hp).1, Nat.ne_of_lt (Heap.lt_size (N p hp).1), hideAll_none _ (List.mem_map_of_mem hp)⟩
  · have hl' := hl
    obtain ⟨L', m', news', F', _, _⟩ := hl'
    exact lv _ _ hl fun q hq => ⟨F'.keep _ _ (hr q hq), (NR q hq).2⟩

/-- what came back lies apart from what stood -/
theorem off_new {g h : Heap} {L' D : Addr} {o : Obj} {l : List (Addr × Obj)} (hr : ∀ q ∈ rest, g.get? q.1 = some q.2) (N : News g L' h l) (hm : (D, o) ∈ l) : ∀ q ∈ rest, q.1 ≠ D := fun q hq e => by
  have h1 := hr q hq
  rw [e, (N _ hm).2.2] at h1
  cases h1
noncomputable def AllNe (d : Addr) : List (Addr × Obj) → Prop
  | [] => True
  | p :: r => @Ne Nat p.1 d ∧ AllNe d r
theorem allNe_of {d : Addr} : ∀ {l : List (Addr × Obj)}, (∀ p ∈ l, p.1 ≠ d) → AllNe d l
  | [], _ => trivial
  | p :: _, h => ⟨h p (.head _), allNe_of fun q hq => h q (.tail _ hq)⟩
theorem news_cons {h₀ h : Heap} {L : Addr} {a : Addr × Obj} {l : List (Addr × Obj)} (N : News h₀ L h [a]) (M : News h₀ L h l) : News h₀ L h (a :: l) := fun p hp => by
  rcases List.mem_cons.mp hp with rfl | hp
  · exact N _ (.head _)
  · exact M p hp
theorem news_one {h₀ h : Heap} {L : Addr} {a : Addr × Obj} {l : List (Addr × Obj)} (N : News h₀ L h l) (hm : a ∈ l) : News h₀ L h [a] := fun p hp => by
  rw [List.mem_singleton.mp hp]
  exact N _ hm
end
end Mine
end

section -- Tm
open PySem PySem.Spec PySem.Calls PySem.W PyProof.Rows
set_option maxRecDepth 100000
set_option maxHeartbeats 4000000
namespace Mine
theorem noFill_tuple_mul : fillsNumberSlot (.type "tuple") "mul" = pure false :=
  PySem.fillsNumberSlot_seq (id := "tuple.__mul__") (r := some (.builtin "tuple.__rmul__")) F.slot_tuple_mul.lookup (by decide +kernel) F.slot_tuple_rmul.lookup (by decide +kernel)
theorem repeat_tuple : seqRepeat? (.type "tuple") = pure (some (.builtin "tuple.__mul__")) := by
  unfold seqRepeat?
  rw [PySem.seqSlot_of (T := "tuple") (name := "__mul__") (id := "tuple.__mul__") F.slot_tuple_mul.lookup (by decide +kernel), PySem.seqSlot_of (T := "tuple") (name := "__rmul__") (id := "tuple.__rmul__") F.slot_tuple_rmul.lookup (by decide +kernel)]
  rfl
theorem int_rmul_tup (a : Int) (t : Tok) (l : Addr) (items : Array Value) (n : Nat) (d : Option Addr) (sl : Array (Option Value)) :
    Meets (Builtin.«int.__rmul__» ⟨[.int a t, .ref l], []⟩) (fun _ R s => s.heap.get? l = some { cls := .type "tuple", dict := d, data := .seq items n, slots := sl } ∧ R (.ok (.ret Value.notImplemented)) s) :=
  .of_wp fun prog w A R s h => by obtain ⟨hp, g, d, tk, os⟩ := s; obtain ⟨hl, h⟩ := h; wp_walk; exact ⟨_, rfl, h⟩
theorem tup_mul_three (l : Addr) (v : Value) (n : Nat) (d : Option Addr) (sl : Array (Option Value)) (u : Tok) :
    Meets (Builtin.«tuple.__mul__» ⟨[.ref l, .int 3 u], []⟩) (fun _ R s => s.heap.get? l = some { cls := .type "tuple", dict := d, data := .seq #[v] n, slots := sl } ∧ R (.ok (.ret (Value.ref s.heap.objs.size))) { s with heap := s.heap.push { cls := Value.type "tuple", data := Data.seq #[v, v, v] } }) :=
  .of_wp fun prog w A R s h => by
    obtain ⟨hp, g, d, tk, os⟩ := s; obtain ⟨hl, h⟩ := h
    wp_walk
    exact ⟨_, rfl, h⟩
section
variable {prog : Program} {w : World} {A : Around} {E : Value → Shared → Prop} {s : Shared} {h₀ : Heap} {L : Addr} {m : Str → Option Value} {news : List (Addr × Obj)} {l : Addr} {v : Value} {k : Nat} {u : Tok} {Q : Value → Shared → Prop}
theorem tup_three (Fm : Fr h₀ L s.heap m) (N : News h₀ L s.heap news) (hm : (l, ({ cls := .type "tuple", data := .seq #[v] k } : Obj)) ∈ news)
    (h : ∀ D h', Fr h₀ L h' m → News h₀ L h' ((D, ({ cls := .type "tuple", data := .seq #[v, v, v] } : Obj)) :: news) → (∀ p ∈ news, p.1 < D) → Q (.ref D) { s with heap := h' }) :
    wpAny (model prog w) A (binaryOp .Mult (.ref l) (.int 3 u)) Q E s := by
  have ho := (N _ hm).1
  refine wpAny_binaryOp_repeat_ref (T := "tuple") (U := "int") (by decide) ⟨_, ho, rfl⟩ (fun s' => typeIs_int s' 3 u) noFill_tuple_mul F.fills_int_mul F.slot_int_rmul repeat_tuple F.slot_int_index.lookup
    (call_meets F.slot_int_rmul (typeIs_int s 3 u) F.entry_int_rmul (F.args_int_rmul_2 _ _) (int_rmul_tup 3 u l #[v] k none #[])
      ⟨ho, rfl, ⟨_, ho, rfl⟩, call_meets F.slot_tuple_mul ⟨_, ho, rfl⟩ F.entry_tuple_mul (F.args_tuple_mul_2 _ _)
        (tup_mul_three l v k none #[] u) ⟨ho, ?_⟩⟩)
  exact h _ _ (Fm.push _) (News.push Fm N _) fun p hp => Heap.lt_size (N p hp).1
end
end Mine
end

theorem Mine.offC1 : True := by
  w_top off
  trivial

section -- C1
open PySem PySem.Spec PySem.Calls PySem.W PyProof.Rows
set_option linter.unusedVariables false
set_option maxRecDepth 100000
set_option maxHeartbeats 8000000
set_option pp.deepTerms false
namespace Mine
variable {w : World} {mean : ExcName → Option Value} {mg mb : Str → Option Value} {dp un : Nat} {gd : Option (List Code)} {cn : Str} {cs : Scope} {a : Addr} {ccd : Value} {cl : List (Str × Addr)} {outer : List Env} {A₀ : Around} {base h₀ : Heap} {L : Addr} {m : Str → Option Value} {news : List (Addr × Obj)} {s : Shared} {Q E : Value → Shared → Prop}
theorem c_rgb_of
   (B : Below A₀ base outer h₀) (F : Fr h₀ L s.heap m) (X : (Mine.hd.heap_39 w.params).In h₀) (N : News h₀ L s.heap news) (T : Top Mine.hd.view_39 (looseW Mine.hd.view_39 []) mean mg mb h₀) (hk : cs.kind = .function)
   (hdp : dp + 1 < recursionLimit) (hun : un + 8 < cLine)
   {c : Int} {t : Tok}
   (hret : ∀ (D : Addr) (t1 t2 t3 : Tok) (n : Nat) (h' : Heap) (tk' : Nat), Fr h₀ L h' m → News h₀ L h' ((D, ({ cls := .type "tuple", data := .seq #[.int (pR c) t1, .int (pG c) t2, .int (pB c) t3] n } : Obj)) :: news) → AllNe D news → Q (.ref D) { s with heap := h', toks := tk' }) :
   wpAny (model PySem.Challenge.rw_og0237_01.row.prog w) (ktrTop dp un gd cn cs L a ccd cl outer) (call (.ref 28) [.int c t]) Q E s := by
  refine wpAny_call ?_
  revert X; k_fill; intro X
  k_dflt (refine' code_own (own := []) (rest := news) ?k1 ?k2 ?k3 ?k4 ?kr ?ko ?k5 ?kA ?kF ?kK ?k6 ?k7 ?k8 ?k9 ?kB ?_ ?c2 ?c3 ?c4 ?c5; (case kA => exact rfl); (case kF => exact rfl); (case kK => assumption); (case k1 => exact B); (case k2 => exact F); (case k3 => exact X); (case k4 => exact News.nil); (case kr => exact N); (case ko => exact fun _ _ _ h => nomatch h); (case k5 => exact T); (case k6 => k_is); (case k7 => k_is); (case k8 => first | exact dp_ok 0 hdp rfl | exact dp_ok 1 hdp rfl | exact dp_ok 2 hdp rfl | exact dp_ok 3 hdp rfl | ktr_room); (case k9 => exact BindsTo.of_eq rfl); (case c5 => decide); (case kB => exact locs rfl); (case c2 => exact rfl); (case c3 => exact rfl); (case c4 => exact rfl); k_whole)
  intro g' L' h' FG' F' N' B' X' T' R' S'
  (try dsimp only)
  (try k_fold)
  repeat' (first
    | (k_unfold; (try dsimp only))
    | ((with_reducible show wpAny _ _ (execs (_ :: _) _) _ _ _); (try k_gentoks); (try k_fold); (try dsimp only); refine (let A9 : Around := _; (?_ : wpAny _ A9 _ _ _ _)); (with_reducible rename News _ _ _ _ => kN); (with_reducible rename Fr _ _ _ _ => kF); refine (let n9 : List (Addr × Obj) := _; let m9 : Str → Option Value := _; (fun (kN : News _ _ _ n9) (kF : Fr _ _ _ m9) => ?_) kN kF); refine wpAny_execs_cons ?_; (try dsimp only))
    | (walk1; all_goals (try dsimp only))
    | (dsimp only; walk1)
    | (leave1; (try dsimp only)))
  rename News h₀ L _ news => kR
  rename News h₀ L _ (_ :: _) => kN
  rename News g' _ _ _ => kM
  rw [pR_is, pG_is, pB_is] at kN
  exact hret _ _ _ _ _ _ _ (by k_asm) (news_cons (news_one kN (.head _)) kR) (allNe_of (off_new R' kM (.head _)))

theorem c_rgb_number
   (B : Below A₀ base outer h₀) (F : Fr h₀ L s.heap m) (X : (Mine.hd.heap_39 w.params).In h₀) (N : News h₀ L s.heap news) (T : Top Mine.hd.view_39 (looseW Mine.hd.view_39 []) mean mg mb h₀) (hk : cs.kind = .function)
   (hdp : dp + 1 < recursionLimit) (hun : un + 8 < cLine)
   {x y z : Int} {t u v : Tok} (hx0 : 0 ≤ x) (hx : x < 256) (hy0 : 0 ≤ y) (hy : y < 256) (hz0 : 0 ≤ z) (hz : z < 256)
   (hret : ∀ (t : Tok) (h' : Heap) (tk' : Nat), Fr h₀ L h' m → News h₀ L h' news → Q (.int (x * 65536 + y * 256 + z) t) { s with heap := h', toks := tk' }) :
   wpAny (model PySem.Challenge.rw_og0237_01.row.prog w) (ktrTop dp un gd cn cs L a ccd cl outer) (call (.ref 90) [.int x t, .int y u, .int z v]) Q E s := by
  refine wpAny_call ?_
  revert X; k_fill; intro X
  k_dflt (refine' code_own (own := []) (rest := news) ?k1 ?k2 ?k3 ?k4 ?kr ?ko ?k5 ?kA ?kF ?kK ?k6 ?k7 ?k8 ?k9 ?kB ?_ ?c2 ?c3 ?c4 ?c5; (case kA => exact rfl); (case kF => exact rfl); (case kK => assumption); (case k1 => exact B); (case k2 => exact F); (case k3 => exact X); (case k4 => exact News.nil); (case kr => exact N); (case ko => exact fun _ _ _ h => nomatch h); (case k5 => exact T); (case k6 => k_is); (case k7 => k_is); (case k8 => first | exact dp_ok 0 hdp rfl | exact dp_ok 1 hdp rfl | exact dp_ok 2 hdp rfl | exact dp_ok 3 hdp rfl | ktr_room); (case k9 => exact BindsTo.of_eq rfl); (case c5 => decide); (case kB => exact locs rfl); (case c2 => exact rfl); (case c3 => exact rfl); (case c4 => exact rfl); k_whole)
  intro g' L' h' FG' F' N' B' X' T' R' S'
  (try dsimp only)
  (try k_fold)
  repeat' (first
    | (k_unfold; (try dsimp only))
    | ((with_reducible show wpAny _ _ (execs (_ :: _) _) _ _ _); (try k_gentoks); (try k_fold); (try dsimp only); refine (let A9 : Around := _; (?_ : wpAny _ A9 _ _ _ _)); (with_reducible rename News _ _ _ _ => kN); (with_reducible rename Fr _ _ _ _ => kF); refine (let n9 : List (Addr × Obj) := _; let m9 : Str → Option Value := _; (fun (kN : News _ _ _ n9) (kF : Fr _ _ _ m9) => ?_) kN kF); refine wpAny_execs_cons ?_; (try dsimp only))
    | (walk1; all_goals (try dsimp only))
    | (dsimp only; walk1)
    | (leave1; (try dsimp only)))
  rw [rgb_bits hx0 hy0 hy hz0 hz]
  exact hret _ _ _ (by k_asm) (by k_asm)

end Mine
end

theorem Mine.offC2 : True := by
  w_top off
  trivial

section -- C2
open PySem PySem.Spec PySem.Calls PySem.W PyProof.Rows
set_option linter.unusedVariables false
set_option maxRecDepth 100000
set_option maxHeartbeats 8000000
set_option pp.deepTerms false
namespace Mine
variable {w : World} {mean : ExcName → Option Value} {mg mb : Str → Option Value} {dp un : Nat} {gd : Option (List Code)} {cn : Str} {cs : Scope} {a : Addr} {ccd : Value} {cl : List (Str × Addr)} {outer : List Env} {A₀ : Around} {base h₀ : Heap} {L : Addr} {m : Str → Option Value} {news : List (Addr × Obj)} {s : Shared} {Q E : Value → Shared → Prop}
theorem c_palette
   (B : Below A₀ base outer h₀) (F : Fr h₀ L s.heap m) (X : (Mine.hd.heap_39 w.params).In h₀) (N : News h₀ L s.heap news) (T : Top Mine.hd.view_39 (looseW Mine.hd.view_39 []) mean mg mb h₀) (hk : cs.kind = .function)
   (hdp : dp + 2 < recursionLimit) (hun : un + 16 < cLine)
   {c : Int} {t : Tok} (h0 : 16 ≤ c) (h1 : c < 256)
   (hret : ∀ (t : Tok) (h' : Heap) (tk' : Nat), Fr h₀ L h' m → News h₀ L h' news → Q (.int (pal c) t) { s with heap := h', toks := tk' }) :
   wpAny (model PySem.Challenge.rw_og0237_01.row.prog w) (ktrTop dp un gd cn cs L a ccd cl outer) (call (.ref 97) [.int c t]) Q E s := by
  refine wpAny_call ?_
  revert X; k_fill; intro X
  k_dflt (refine' code_own (own := []) (rest := news) ?k1 ?k2 ?k3 ?k4 ?kr ?ko ?k5 ?kA ?kF ?kK ?k6 ?k7 ?k8 ?k9 ?kB ?_ ?c2 ?c3 ?c4 ?c5; (case kA => exact rfl); (case kF => exact rfl); (case kK => assumption); (case k1 => exact B); (case k2 => exact F); (case k3 => exact X); (case k4 => exact News.nil); (case kr => exact N); (case ko => exact fun _ _ _ h => nomatch h); (case k5 => exact T); (case k6 => k_is); (case k7 => k_is); (case k8 => first | exact dp_ok 0 hdp rfl | exact dp_ok 1 hdp rfl | exact dp_ok 2 hdp rfl | exact dp_ok 3 hdp rfl | ktr_room); (case k9 => exact BindsTo.of_eq rfl); (case c5 => decide); (case kB => exact locs rfl); (case c2 => exact rfl); (case c3 => exact rfl); (case c4 => exact rfl); k_whole)
  intro g' L' h' FG' F' N' B' X' T' R' S'
  (try dsimp only)
  (try k_fold)
  repeat' (first
    | (k_unfold; (try dsimp only))
    | ((with_reducible show wpAny _ _ (execs (_ :: _) _) _ _ _); (try k_gentoks); (try k_fold); (try dsimp only); refine (let A9 : Around := _; (?_ : wpAny _ A9 _ _ _ _)); (with_reducible rename News _ _ _ _ => kN); (with_reducible rename Fr _ _ _ _ => kF); refine (let n9 : List (Addr × Obj) := _; let m9 : Str → Option Value := _; (fun (kN : News _ _ _ n9) (kF : Fr _ _ _ m9) => ?_) kN kF); refine wpAny_execs_cons ?_; (try dsimp only))
    | ((with_reducible show wpAny _ _ (call (Value.ref _) _) _ _ _); first | (k_here; (with_reducible show wpAny _ _ (call (Value.ref 90) [_, _, _]) _ _ _); k_dflt (refine' c_rgb_number ?k0z1 ?k1z1 ?k2z1 ?k3z1 ?k4z1 ?k5z1 ?k6z1 ?k7z1 ?p0z1 ?p1z1 ?p2z1 ?p3z1 ?p4z1 ?p5z1 ?_; (case k0z1 => k_asm); (case k1z1 => k_asm); (case k2z1 => k_asm); (case k3z1 => k_asm); (case k4z1 => k_asm); (case k5z1 => first | exact rfl | assumption); (case k6z1 => first | exact dp_ok 0 hdp rfl | exact dp_ok 1 hdp rfl | exact dp_ok 2 hdp rfl | exact dp_ok 3 hdp rfl | ktr_room); (case k7z1 => first | exact un_ok hun rfl | exact un_ok0 hun rfl | ktr_units); (case p0z1 => first | omega | exact (lev_in _).1 | exact (lev_in _).2); (case p1z1 => first | omega | exact (lev_in _).1 | exact (lev_in _).2); (case p2z1 => first | omega | exact (lev_in _).1 | exact (lev_in _).2); (case p3z1 => first | omega | exact (lev_in _).1 | exact (lev_in _).2); (case p4z1 => first | omega | exact (lev_in _).1 | exact (lev_in _).2); (case p5z1 => first | omega | exact (lev_in _).1 | exact (lev_in _).2);  k_whole); intro t9 h9 tk9 F9 N9; (try dsimp only); (try k_fold)) | (k_here; (with_reducible show wpAny _ _ (call (Value.ref 28) [_]) _ _ _); k_dflt (refine' c_rgb_of ?k0z0 ?k1z0 ?k2z0 ?k3z0 ?k4z0 ?k5z0 ?k6z0 ?k7z0 ?_; (case k0z0 => k_asm); (case k1z0 => k_asm); (case k2z0 => k_asm); (case k3z0 => k_asm); (case k4z0 => k_asm); (case k5z0 => first | exact rfl | assumption); (case k6z0 => first | exact dp_ok 0 hdp rfl | exact dp_ok 1 hdp rfl | exact dp_ok 2 hdp rfl | exact dp_ok 3 hdp rfl | ktr_room); (case k7z0 => first | exact un_ok hun rfl | exact un_ok0 hun rfl | ktr_units);  k_whole); intro D9 t9 u9 v9 n9 h9 tk9 F9 N9 l9; (try simp only [AllNe, and_true] at l9); (try dsimp only); (try k_fold)))
    | (walk1; all_goals (try dsimp only))
    | (dsimp only; walk1)
    | (leave1; (try dsimp only)))
  · rw [fdiv_pos _ (by decide), fdiv_pos _ (by decide), fmod_pos _ (by decide), fmod_pos _ (by decide)]
    have e : pal c = lev ((c - 16) / 36) * 65536 + lev ((c - 16) / 6 % 6) * 256 + lev ((c - 16) % 6) := by
      unfold pal palR palG palB
      rw [if_pos (by omega), if_pos (by omega), if_pos (by omega)]
    rw [e] at hret
    exact hret _ _ _ (by k_asm) (by k_asm)
  · have e : pal c = (8 + 10 * (c - 232)) * 65536 + (8 + 10 * (c - 232)) * 256 + (8 + 10 * (c - 232)) := by
      unfold pal palR palG palB
      rw [if_neg (by omega), if_neg (by omega), if_neg (by omega)]
    rw [e] at hret
    exact hret _ _ _ (by k_asm) (by k_asm)

end Mine
end

section -- Lr
open PySem PySem.Spec PySem.Calls PySem.W PyProof.Rows
set_option linter.unusedVariables false
set_option maxRecDepth 100000
set_option maxHeartbeats 8000000
namespace Mine
/-- the frame of a loop's turns: two names that they write over m0 -/
noncomputable def ov2 (x1 x2 : Str) (v1 v2 : Option Value) (m0 : Str → Option Value) : Str → Option Value := fun y => if y = x1 then v1 else if y = x2 then v2 else m0 y
theorem ov2_back {x1 x2 : Str} {v1 v2 w1 w2 : Option Value} {m0 : Str → Option Value} : (fun y => if y = x1 then w1 else if y = x2 then w2 else ov2 x1 x2 v1 v2 m0 y) = ov2 x1 x2 w1 w2 m0 := by
  funext y
  unfold ov2
  by_cases h1 : y = x1
  · simp only [if_pos h1]
  · by_cases h2 : y = x2
    · simp only [if_neg h1, if_pos h2]
    · simp only [if_neg h1, if_neg h2]
theorem ov2_start {x1 x2 : Str} {m0 : Str → Option Value} (e1 : m0 x1 = none) (e2 : m0 x2 = none) : m0 = ov2 x1 x2 none none m0 := by
  funext y
  unfold ov2
  by_cases h1 : y = x1
  · rw [if_pos h1, h1, e1]
  · by_cases h2 : y = x2
    · rw [if_neg h1, if_pos h2, h2, e2]
    · rw [if_neg h1, if_neg h2]
theorem AllObj.imp {k k' : List (Addr × Obj) → Prop} : ∀ {ws : List (Addr × String)}, (∀ its, k its → k' its) → AllObj ws k → AllObj ws k' := by
  intro ws
  induction ws generalizing k k' with
  | nil => exact fun f h => f [] h
  | cons w r ih => exact fun f h o hc => ih (fun its x => f _ x) (h o hc)
section
variable {prog : Program} {w : World} {A : Around} {E : Value → Shared → Prop} {h₀ : Heap} {env : Env} {target : Expr} {body : List Stmt} {Q : Flow → Shared → Prop} {s : Shared} {ws : List (Addr × String)} {keep : List (Addr × Obj)} {m m' m0 : Str → Option Value} {news news' : List (Addr × Obj)}
theorem itm_at {r : List Itm} (h : ItemsRest prog w A E h₀ env target body Q s ws keep r m news) (e : m' = m) : ItemsRest prog w A E h₀ env target body Q s ws keep r m' news := e ▸ h
theorem itm_sub {r : List Itm} (h : ItemsRest prog w A E h₀ env target body Q s ws keep r m news) (sub : ∀ p ∈ news, p ∈ news') : ItemsRest prog w A E h₀ env target body Q s ws keep r m news' := by
  cases r with
  | nil => exact fun h' tk F N => h h' tk F fun p hp => N p (sub p hp)
  | cons a r =>
    exact fun v h' tk i F => AllObj.imp (fun its x N => x fun p hp => by
      rcases List.mem_append.mp hp with hp | hp
      · exact N _ (List.mem_append_left _ hp)
      · exact N p (List.mem_append_right _ (sub p hp))) (h v h' tk i F)
/-- a loop over three ints that fills a list -/
theorem itm3_ind {x1 x2 : Str} {l : Addr} {tp : Addr × Obj} {base : List (Addr × Obj)} {d1 d2 d3 : Int} {t1 t2 t3 : Tok} (RF : Int → Value → Prop) (hm : m = ov2 x1 x2 none none m0)
    (turn : ∀ (d : Int) (td : Tok) (xs : List Value) (k : Nat) (v1 v2 : Option Value) (r : List Itm), (d = d1 ∨ d = d2 ∨ d = d3) → xs.length ≤ 2 →
      (∀ y k' w1 w2, RF d y → ItemsRest prog w A E h₀ env target body Q s ws keep r (ov2 x1 x2 w1 w2 m0) (tp :: (l, W.listOf (xs ++ [y]).toArray k') :: base)) →
      ItemsRest prog w A E h₀ env target body Q s ws keep (.val (.int d td) :: r) (ov2 x1 x2 v1 v2 m0) (tp :: (l, W.listOf xs.toArray k) :: base))
    (fin : ∀ y1 y2 y3 k v1 v2, RF d1 y1 → RF d2 y2 → RF d3 y3 → ItemsRest prog w A E h₀ env target body Q s ws keep [] (ov2 x1 x2 v1 v2 m0) (tp :: (l, W.listOf [y1, y2, y3].toArray k) :: base)) :
    ItemsRest prog w A E h₀ env target body Q s ws keep (List.map Itm.val [.int d1 t1, .int d2 t2, .int d3 t3]) m (tp :: (l, W.listOf #[] 0) :: base) := by
  subst hm
  exact turn d1 t1 [] 0 none none _ (.inl rfl) (by decide) fun y1 k1 n1 q1 h1 => turn d2 t2 [y1] k1 n1 q1 _ (.inr (.inl rfl)) (by simp) fun y2 k2 n2 q2 h2 =>
    turn d3 t3 [y1, y2] k2 n2 q2 _ (.inr (.inr rfl)) (by simp) fun y3 k3 n3 q3 h3 => fin y1 y2 y3 k3 n3 q3 h1 h2 h3
end
end Mine
end

section -- Lz
open PySem PySem.Spec PySem.Calls PySem.W PyProof.Rows
set_option linter.unusedVariables false
set_option maxRecDepth 100000
set_option maxHeartbeats 8000000
namespace Mine
/-- the frame of a loop's turns: three names that they write over m0 -/
noncomputable def ov3 (x1 x2 x3 : Str) (v1 v2 v3 : Option Value) (m0 : Str → Option Value) : Str → Option Value := fun y => if y = x1 then v1 else if y = x2 then v2 else if y = x3 then v3 else m0 y
theorem ov3_back {x1 x2 x3 : Str} {v1 v2 v3 w1 w2 w3 : Option Value} {m0 : Str → Option Value} : (fun y => if y = x1 then w1 else if y = x2 then w2 else if y = x3 then w3 else ov3 x1 x2 x3 v1 v2 v3 m0 y) = ov3 x1 x2 x3 w1 w2 w3 m0 := by
  funext y
  unfold ov3
  by_cases h1 : y = x1
  · simp only [if_pos h1]
  · by_cases h2 : y = x2
    · simp only [if_neg h1, if_pos h2]
    · by_cases h3 : y = x3
      · simp only [if_neg h1, if_neg h2, if_pos h3]
      · simp only [if_neg h1, if_neg h2, if_neg h3]
theorem ov3_start {x1 x2 x3 : Str} {v1 : Option Value} {m0 : Str → Option Value} (e2 : m0 x2 = none) (e3 : m0 x3 = none) : (fun y => if y = x1 then v1 else m0 y) = ov3 x1 x2 x3 v1 none none m0 := by
  funext y
  unfold ov3
  by_cases h1 : y = x1
  · simp only [if_pos h1]
  · by_cases h2 : y = x2
    · rw [if_neg h1, if_neg h1, if_pos h2, h2, e2]
    · by_cases h3 : y = x3
      · rw [if_neg h1, if_neg h1, if_neg h2, if_pos h3, h3, e3]
      · simp only [if_neg h1, if_neg h2, if_neg h3]
section
variable {prog : Program} {w : World} {A : Around} {E : Value → Shared → Prop} {h₀ : Heap} {env : Env} {target : Expr} {body : List Stmt} {Q : Flow → Shared → Prop} {s : Shared} {ws : List (Addr × String)} {keep : List (Addr × Obj)} {m m0 : Str → Option Value} {news : List (Addr × Obj)}
/-- a loop over two triples that sums -/
theorem zip3_ind {x1 x2 x3 : Str} {p1 p2 p3 q1 q2 q3 : Int} {t1 t2 t3 u1 u2 u3 t0 : Tok} (f : Int → Int → Int) (hm : m = ov3 x1 x2 x3 (some (.int 0 t0)) none none m0)
    (turn : ∀ (p q F : Int) (tp tq tF : Tok) (v2 v3 : Option Value) (r : List Itm), ((p = p1 ∧ q = q1) ∨ (p = p2 ∧ q = q2) ∨ (p = p3 ∧ q = q3)) → (F = 0 ∨ F = 0 + f p1 q1 ∨ F = 0 + f p1 q1 + f p2 q2) →
      (∀ t w2 w3, ItemsRest prog w A E h₀ env target body Q s ws keep r (ov3 x1 x2 x3 (some (.int (F + f p q) t)) w2 w3 m0) news) →
      ItemsRest prog w A E h₀ env target body Q s ws keep (zipItems [.int p tp] [.int q tq] ++ r) (ov3 x1 x2 x3 (some (.int F tF)) v2 v3 m0) news)
    (fin : ∀ t v2 v3, ItemsRest prog w A E h₀ env target body Q s ws keep [] (ov3 x1 x2 x3 (some (.int (0 + f p1 q1 + f p2 q2 + f p3 q3) t)) v2 v3 m0) news) :
    ItemsRest prog w A E h₀ env target body Q s ws keep (zipItems [.int p1 t1, .int p2 t2, .int p3 t3] [.int q1 u1, .int q2 u2, .int q3 u3]) m news := by
  subst hm
  refine turn p1 q1 0 t1 u1 t0 none none (zipItems [.int p2 t2, .int p3 t3] [.int q2 u2, .int q3 u3]) (.inl ⟨rfl, rfl⟩) (.inl rfl) fun ta n1 o1 => turn p2 q2 _ t2 u2 ta n1 o1 (zipItems [.int p3 t3] [.int q3 u3]) (.inr (.inl ⟨rfl, rfl⟩)) (.inr (.inl rfl)) fun tb n2 o2 =>
    turn p3 q3 _ t3 u3 tb n2 o2 [] (.inr (.inr ⟨rfl, rfl⟩)) (.inr (.inr rfl)) fun tc n3 o3 => fin tc n3 o3
end
end Mine
end

theorem Mine.offC3 : True := by
  w_top off
  trivial

section -- C3
open PySem PySem.Spec PySem.Calls PySem.W PyProof.Rows
set_option linter.unusedVariables false
set_option maxRecDepth 100000
set_option maxHeartbeats 8000000
set_option pp.deepTerms false
namespace Mine
variable {w : World} {mean : ExcName → Option Value} {mg mb : Str → Option Value} {dp un : Nat} {gd : Option (List Code)} {cn : Str} {cs : Scope} {a : Addr} {ccd : Value} {cl : List (Str × Addr)} {outer : List Env} {A₀ : Around} {base h₀ : Heap} {L : Addr} {m : Str → Option Value} {news : List (Addr × Obj)} {s : Shared} {Q E : Value → Shared → Prop}
theorem c_distance
   (B : Below A₀ base outer h₀) (F : Fr h₀ L s.heap m) (X : (Mine.hd.heap_39 w.params).In h₀) (N : News h₀ L s.heap news) (T : Top Mine.hd.view_39 (looseW Mine.hd.view_39 []) mean mg mb h₀) (hk : cs.kind = .function)
   (hdp : dp + 2 < recursionLimit) (hun : un + 16 < cLine)
   {c d : Int} {t u : Tok}
   (hret : ∀ (t : Tok) (h' : Heap) (tk' : Nat), Fr h₀ L h' m → News h₀ L h' news → Q (.int (dist c d) t) { s with heap := h', toks := tk' }) :
   wpAny (model PySem.Challenge.rw_og0237_01.row.prog w) (ktrTop dp un gd cn cs L a ccd cl outer) (call (.ref 104) [.int c t, .int d u]) Q E s := by
  refine wpAny_call ?_
  revert X; k_fill; intro X
  k_dflt (refine' code_own (own := []) (rest := news) ?k1 ?k2 ?k3 ?k4 ?kr ?ko ?k5 ?kA ?kF ?kK ?k6 ?k7 ?k8 ?k9 ?kB ?_ ?c2 ?c3 ?c4 ?c5; (case kA => exact rfl); (case kF => exact rfl); (case kK => assumption); (case k1 => exact B); (case k2 => exact F); (case k3 => exact X); (case k4 => exact News.nil); (case kr => exact N); (case ko => exact fun _ _ _ h => nomatch h); (case k5 => exact T); (case k6 => k_is); (case k7 => k_is); (case k8 => first | exact dp_ok 0 hdp rfl | exact dp_ok 1 hdp rfl | exact dp_ok 2 hdp rfl | exact dp_ok 3 hdp rfl | ktr_room); (case k9 => exact BindsTo.of_eq rfl); (case c5 => decide); (case kB => exact locs rfl); (case c2 => exact rfl); (case c3 => exact rfl); (case c4 => exact rfl); k_whole)
  intro g' L' h' FG' F' N' B' X' T' R' S'
  (try dsimp only)
  (try k_fold)
  have a1 := pR_in c
  have a2 := pG_in c
  have a3 := pB_in c
  have b1 := pR_in d
  have b2 := pG_in d
  have b3 := pB_in d
  repeat' ((fail_if_success (with_reducible show ItemsRest _ _ _ _ _ _ _ _ _ _ _ _ _ _ _)); first
    | (k_unfold; (try dsimp only))
    | ((with_reducible show wpAny _ _ (execs (_ :: _) _) _ _ _); (try k_gentoks); (try k_fold); (try dsimp only); refine (let A9 : Around := _; (?_ : wpAny _ A9 _ _ _ _)); (with_reducible rename News _ _ _ _ => kN); (with_reducible rename Fr _ _ _ _ => kF); refine (let n9 : List (Addr × Obj) := _; let m9 : Str → Option Value := _; (fun (kN : News _ _ _ n9) (kF : Fr _ _ _ m9) => ?_) kN kF); refine wpAny_execs_cons ?_; (try dsimp only))
    | ((with_reducible show wpAny _ _ (call (Value.ref _) _) _ _ _); first | (k_here; (with_reducible show wpAny _ _ (call (Value.ref 28) [_]) _ _ _); k_dflt (refine' c_rgb_of ?k0z0 ?k1z0 ?k2z0 ?k3z0 ?k4z0 ?k5z0 ?k6z0 ?k7z0 ?_; (case k0z0 => k_asm); (case k1z0 => k_asm); (case k2z0 => k_asm); (case k3z0 => k_asm); (case k4z0 => k_asm); (case k5z0 => first | exact rfl | assumption); (case k6z0 => first | exact dp_ok 0 hdp rfl | exact dp_ok 1 hdp rfl | exact dp_ok 2 hdp rfl | exact dp_ok 3 hdp rfl | ktr_room); (case k7z0 => first | exact un_ok hun rfl | exact un_ok0 hun rfl | ktr_units);  k_whole); intro D9 t9 u9 v9 n9 h9 tk9 F9 N9 l9; (try simp only [AllNe, and_true] at l9); (try dsimp only); (try k_fold)))
    | ((with_reducible show ItemsRest _ _ _ _ _ _ _ _ _ _ _ _ _ _ _); exact itm_sub (itm_at (ih _ _ _) ov3_back) (by kcf_all))
    | (k_here; (with_reducible show wpAny _ _ (call (Value.type _) [Value.ref _, Value.ref _]) (fun xv s₁ => wpAny _ _ (pyIter xv) (fun it s₂ => TurnsAt _ _ _ _ _ _ _ _ _ it s₂) _ s₁) _ _); (rename Fr _ _ _ _ => lF'); (rename News _ _ _ _ => lN'); (with_unfolding_all refine zip_turns (by rfl) lF' lN' (by k_mem) (by rfl) (by rfl) (by k_mem) (by rfl) (by rfl) (by rfl) ?_); clear lF' lN'; intro i' l1; (try k_lt l1))
    | ((with_reducible show wpAny _ _ (exec (Stmt.For (Expr.Tuple _ _ _) (Expr.Call _ _ _ _) (_ :: _) [] _) _) _ _ _); (k_here; (rename Fr _ _ _ _ => lF'); (with_unfolding_all refine' For_turns lF' ?_; k_whole)))
    | (walk1; all_goals (try dsimp only))
    | (dsimp only; walk1)
    | (leave1; (try dsimp only)))
  refine zip3_ind (x1 := Str.ofString "found") (x2 := Str.ofString "far") (x3 := Str.ofString "near") (fun p q => (p - q) * (p - q)) (ov3_start rfl rfl) (fun p q G tp tq tG v2 v3 r hp hG ih => ?_) (fun t v2 v3 => ?_)
  · have hp0 : 0 ≤ p ∧ p < 256 := by omega
    have hq0 : 0 ≤ q ∧ q < 256 := by omega
    clear hp
    repeat' (first
    | (k_unfold; (try dsimp only))
    | ((with_reducible show wpAny _ _ (execs (_ :: _) _) _ _ _); (try k_gentoks); (try k_fold); (try dsimp only); refine (let A9 : Around := _; (?_ : wpAny _ A9 _ _ _ _)); (with_reducible rename News _ _ _ _ => kN); (with_reducible rename Fr _ _ _ _ => kF); refine (let n9 : List (Addr × Obj) := _; let m9 : Str → Option Value := _; (fun (kN : News _ _ _ n9) (kF : Fr _ _ _ m9) => ?_) kN kF); refine wpAny_execs_cons ?_; (try dsimp only))
    | ((with_reducible show wpAny _ _ (call (Value.ref _) _) _ _ _); first | (k_here; (with_reducible show wpAny _ _ (call (Value.ref 28) [_]) _ _ _); k_dflt (refine' c_rgb_of ?k0z0 ?k1z0 ?k2z0 ?k3z0 ?k4z0 ?k5z0 ?k6z0 ?k7z0 ?_; (case k0z0 => k_asm); (case k1z0 => k_asm); (case k2z0 => k_asm); (case k3z0 => k_asm); (case k4z0 => k_asm); (case k5z0 => first | exact rfl | assumption); (case k6z0 => first | exact dp_ok 0 hdp rfl | exact dp_ok 1 hdp rfl | exact dp_ok 2 hdp rfl | exact dp_ok 3 hdp rfl | ktr_room); (case k7z0 => first | exact un_ok hun rfl | exact un_ok0 hun rfl | ktr_units);  k_whole); intro D9 t9 u9 v9 n9 h9 tk9 F9 N9 l9; (try simp only [AllNe, and_true] at l9); (try dsimp only); (try k_fold)))
    | ((with_reducible show ItemsRest _ _ _ _ _ _ _ _ _ _ _ _ _ _ _); exact itm_sub (itm_at (ih _ _ _) ov3_back) (by kcf_all))
    | (k_here; (with_reducible show wpAny _ _ (call (Value.type _) [Value.ref _, Value.ref _]) (fun xv s₁ => wpAny _ _ (pyIter xv) (fun it s₂ => TurnsAt _ _ _ _ _ _ _ _ _ it s₂) _ s₁) _ _); (rename Fr _ _ _ _ => lF'); (rename News _ _ _ _ => lN'); (with_unfolding_all refine zip_turns (by rfl) lF' lN' (by k_mem) (by rfl) (by rfl) (by k_mem) (by rfl) (by rfl) (by rfl) ?_); clear lF' lN'; intro i' l1; (try k_lt l1))
    | ((with_reducible show wpAny _ _ (exec (Stmt.For (Expr.Tuple _ _ _) (Expr.Call _ _ _ _) (_ :: _) [] _) _) _ _ _); (k_here; (rename Fr _ _ _ _ => lF'); (with_unfolding_all refine' For_turns lF' ?_; k_whole)))
    | (walk1; all_goals (try dsimp only))
    | (dsimp only; walk1)
    | (leave1; (try dsimp only)))
  · repeat' (first
    | (k_unfold; (try dsimp only))
    | ((with_reducible show wpAny _ _ (execs (_ :: _) _) _ _ _); (try k_gentoks); (try k_fold); (try dsimp only); refine (let A9 : Around := _; (?_ : wpAny _ A9 _ _ _ _)); (with_reducible rename News _ _ _ _ => kN); (with_reducible rename Fr _ _ _ _ => kF); refine (let n9 : List (Addr × Obj) := _; let m9 : Str → Option Value := _; (fun (kN : News _ _ _ n9) (kF : Fr _ _ _ m9) => ?_) kN kF); refine wpAny_execs_cons ?_; (try dsimp only))
    | ((with_reducible show wpAny _ _ (call (Value.ref _) _) _ _ _); first | (k_here; (with_reducible show wpAny _ _ (call (Value.ref 28) [_]) _ _ _); k_dflt (refine' c_rgb_of ?k0z0 ?k1z0 ?k2z0 ?k3z0 ?k4z0 ?k5z0 ?k6z0 ?k7z0 ?_; (case k0z0 => k_asm); (case k1z0 => k_asm); (case k2z0 => k_asm); (case k3z0 => k_asm); (case k4z0 => k_asm); (case k5z0 => first | exact rfl | assumption); (case k6z0 => first | exact dp_ok 0 hdp rfl | exact dp_ok 1 hdp rfl | exact dp_ok 2 hdp rfl | exact dp_ok 3 hdp rfl | ktr_room); (case k7z0 => first | exact un_ok hun rfl | exact un_ok0 hun rfl | ktr_units);  k_whole); intro D9 t9 u9 v9 n9 h9 tk9 F9 N9 l9; (try simp only [AllNe, and_true] at l9); (try dsimp only); (try k_fold)))
    | ((with_reducible show ItemsRest _ _ _ _ _ _ _ _ _ _ _ _ _ _ _); exact itm_sub (itm_at (ih _ _ _) ov3_back) (by kcf_all))
    | (k_here; (with_reducible show wpAny _ _ (call (Value.type _) [Value.ref _, Value.ref _]) (fun xv s₁ => wpAny _ _ (pyIter xv) (fun it s₂ => TurnsAt _ _ _ _ _ _ _ _ _ it s₂) _ s₁) _ _); (rename Fr _ _ _ _ => lF'); (rename News _ _ _ _ => lN'); (with_unfolding_all refine zip_turns (by rfl) lF' lN' (by k_mem) (by rfl) (by rfl) (by k_mem) (by rfl) (by rfl) (by rfl) ?_); clear lF' lN'; intro i' l1; (try k_lt l1))
    | ((with_reducible show wpAny _ _ (exec (Stmt.For (Expr.Tuple _ _ _) (Expr.Call _ _ _ _) (_ :: _) [] _) _) _ _ _); (k_here; (rename Fr _ _ _ _ => lF'); (with_unfolding_all refine' For_turns lF' ?_; k_whole)))
    | (walk1; all_goals (try dsimp only))
    | (dsimp only; walk1)
    | (leave1; (try dsimp only)))
    exact hret _ _ _ (by k_asm) (by k_asm)

end Mine
end

theorem Mine.offC4 : True := by
  w_top off
  trivial

section -- C4
open PySem PySem.Spec PySem.Calls PySem.W PyProof.Rows
set_option linter.unusedVariables false
set_option maxRecDepth 100000
set_option maxHeartbeats 8000000
set_option pp.deepTerms false
namespace Mine
variable {w : World} {mean : ExcName → Option Value} {mg mb : Str → Option Value} {dp un : Nat} {gd : Option (List Code)} {cn : Str} {cs : Scope} {a : Addr} {ccd : Value} {cl : List (Str × Addr)} {outer : List Env} {A₀ : Around} {base h₀ : Heap} {L : Addr} {m : Str → Option Value} {news : List (Addr × Obj)} {s : Shared} {Q E : Value → Shared → Prop}
noncomputable def nl (p : Int) : Int := if p ≤ 47 then 0 else if p ≤ 115 then 1 else if p ≤ 155 then 2 else if p ≤ 195 then 3 else if p ≤ 235 then 4 else 5
theorem nl_in (p : Int) : 0 ≤ nl p ∧ nl p ≤ 5 := by unfold nl; (repeat' split) <;> omega
noncomputable def upto (c i : Int) : Int := if nl c ≤ i then nl c else i
noncomputable def levA (n : Nat) : Int := [0, 95, 135, 175, 215, 255].getD n 0
noncomputable def bOf (c : Int) : Nat → Int
  | 0 => 0
  | a + 1 => upto c a
theorem bOf_in (c : Int) : ∀ a : Nat, 0 ≤ bOf c a ∧ bOf c a ≤ 5
  | 0 => ⟨Int.le_refl 0, by show (0 : Int) ≤ 5; decide⟩
  | a + 1 => by
    have := nl_in c
    show 0 ≤ upto c a ∧ upto c a ≤ 5
    unfold upto
    split <;> omega
theorem lvc_fin : ∀ a : Nat, a < 6 → ∀ n : Nat, n < 256 → if (if (n : Int) - levA a < 0 then -((n : Int) - levA a) else (n : Int) - levA a) < (if (n : Int) - [0, 95, 135, 175, 215, 255].getD (bOf n a).toNat 0 < 0 then -((n : Int) - [0, 95, 135, 175, 215, 255].getD (bOf n a).toNat 0) else (n : Int) - [0, 95, 135, 175, 215, 255].getD (bOf n a).toNat 0)
    then (a : Int) = upto n (a : Int) else bOf n a = upto n (a : Int) := by decide +kernel
section
variable {c b : Int} {a : Nat} (hk : a < 6) (h0 : 0 ≤ c) (h1 : c < 256) (hb : b = bOf c a)
include hk h0 h1 hb
theorem lev_yes (hc : (if c - levA a < 0 then -(c - levA a) else c - levA a) < (if c - [0, 95, 135, 175, 215, 255].getD b.toNat 0 < 0 then -(c - [0, 95, 135, 175, 215, 255].getD b.toNat 0) else c - [0, 95, 135, 175, 215, 255].getD b.toNat 0)) : (a : Int) = upto c (a : Int) := by
  have h := lvc_fin a hk c.toNat (by omega)
  rw [Int.toNat_of_nonneg h0, ← hb, if_pos hc] at h
  exact h
theorem lev_no (hc : ¬ (if c - levA a < 0 then -(c - levA a) else c - levA a) < (if c - [0, 95, 135, 175, 215, 255].getD b.toNat 0 < 0 then -(c - [0, 95, 135, 175, 215, 255].getD b.toNat 0) else c - [0, 95, 135, 175, 215, 255].getD b.toNat 0)) : b = upto c (a : Int) := by
  have h := lvc_fin a hk c.toNat (by omega)
  rw [Int.toNat_of_nonneg h0, ← hb, if_neg hc] at h
  exact h
end
theorem lev_last (c : Int) : bOf c 6 = nl c := by
  have := nl_in c
  show upto c ((5 : Nat) : Int) = nl c
  unfold upto
  rw [if_pos (by omega)]
theorem best_same {m : Str → Option Value} {x : Str} {v : Value} (h : m x = some v) : m = fun y => if y = x then some v else m y := by
  funext y
  by_cases e : y = x
  · rw [if_pos e, e, h]
  · rw [if_neg e]
theorem fr_as {g h : Heap} {L : Addr} {m m' : Str → Option Value} (F : Fr g L h m) (e : m = m') : Fr g L h m' := e ▸ F
/-- the frame of the turns: what they write over m0 -/
noncomputable def ov (vl vn : Option Value) (b : Int) (t : Tok) (m0 : Str → Option Value) : Str → Option Value := fun y => if y = Str.ofString "level" then vl else if y = Str.ofString "number" then vn else if y = Str.ofString "best" then some (.int b t) else m0 y
theorem ov_back {vl vn vl' vn' : Option Value} {b b' : Int} {t t' : Tok} {m0 : Str → Option Value} :
    (fun y => if y = Str.ofString "best" then some (Value.int b' t') else if y = Str.ofString "level" then vl' else if y = Str.ofString "number" then vn' else ov vl vn b t m0 y) = ov vl' vn' b' t' m0 := by
  funext y
  unfold ov
  by_cases h1 : y = Str.ofString "best"
  · have h2 : ¬ y = Str.ofString "level" := by rw [h1]; decide
    have h3 : ¬ y = Str.ofString "number" := by rw [h1]; decide
    simp only [if_pos h1, if_neg h2, if_neg h3]
  · by_cases h2 : y = Str.ofString "level"
    · simp only [if_neg h1, if_pos h2]
    · by_cases h3 : y = Str.ofString "number"
      · simp only [if_neg h1, if_neg h2, if_pos h3]
      · simp only [if_neg h1, if_neg h2, if_neg h3]
theorem ov_start {t : Tok} {m0 : Str → Option Value} (e1 : m0 (Str.ofString "level") = none) (e2 : m0 (Str.ofString "number") = none) : (fun y => if y = Str.ofString "best" then some (Value.int 0 t) else m0 y) = ov none none 0 t m0 := by
  funext y
  unfold ov
  by_cases h1 : y = Str.ofString "best"
  · have h2 : ¬ y = Str.ofString "level" := by rw [h1]; decide
    have h3 : ¬ y = Str.ofString "number" := by rw [h1]; decide
    simp only [if_pos h1, if_neg h2, if_neg h3]
  · by_cases h2 : y = Str.ofString "level"
    · simp only [if_neg h1, if_pos h2]; rw [h2, e1]
    · by_cases h3 : y = Str.ofString "number"
      · simp only [if_neg h1, if_neg h2, if_pos h3]; rw [h3, e2]
      · simp only [if_neg h1, if_neg h2, if_neg h3]
theorem items_at {prog : Program} {A : Around} {env : Env} {target : Expr} {body : List Stmt} {Q : Flow → Shared → Prop} {ws : List (Addr × String)} {keep : List (Addr × Obj)} {r : List Itm} {m' : Str → Option Value} (h : ItemsRest prog w A E h₀ env target body Q s ws keep r m news) (e : m' = m) :
    ItemsRest prog w A E h₀ env target body Q s ws keep r m' news := e ▸ h
theorem items_ind {prog : Program} {A : Around} {env : Env} {target : Expr} {body : List Stmt} {Q : Flow → Shared → Prop} {ws : List (Addr × String)} {keep : List (Addr × Obj)} {c : Int} {m0 : Str → Option Value} {u0 u1 u2 u3 u4 u5 tb : Tok}
    (hm : m = ov none none 0 tb m0)
    (turn : ∀ (a : Nat) (b : Int) (t u : Tok) (vl vn : Option Value) (r : List Itm) (news : List (Addr × Obj)), a < 6 → 0 ≤ b → b ≤ 5 → b = bOf c a →
      (∀ t' vl' vn' b' news', b' = bOf c (a + 1) → ItemsRest prog w A E h₀ env target body Q s ws keep r (ov vl' vn' b' t' m0) news') →
      ItemsRest prog w A E h₀ env target body Q s ws keep (.pair (fun t => .int (a : Int) t) (.int (levA a) u) :: r) (ov vl vn b t m0) news)
    (fin : ∀ b t vl vn news, b = bOf c 6 → ItemsRest prog w A E h₀ env target body Q s ws keep [] (ov vl vn b t m0) news) :
    ItemsRest prog w A E h₀ env target body Q s ws keep (enumItems 0 [.int 0 u0, .int 95 u1, .int 135 u2, .int 175 u3, .int 215 u4, .int 255 u5]) m news := by
  subst hm
  have go : ∀ (a : Nat) (b : Int) (t u : Tok) (vl vn : Option Value) (r : List Itm) (news : List (Addr × Obj)), a < 6 → b = bOf c a →
      (∀ t' vl' vn' b' news', b' = bOf c (a + 1) → ItemsRest prog w A E h₀ env target body Q s ws keep r (ov vl' vn' b' t' m0) news') →
      ItemsRest prog w A E h₀ env target body Q s ws keep (.pair (fun t => .int (a : Int) t) (.int (levA a) u) :: r) (ov vl vn b t m0) news :=
    fun a b t u vl vn r news ha hb ih => turn a b t u vl vn r news ha (hb ▸ (bOf_in c a).1) (hb ▸ (bOf_in c a).2) hb ih
  exact go 0 0 _ _ _ _ _ _ (by decide) rfl fun t1 l1 n1 b1 w1 e1 => go 1 b1 _ _ _ _ _ _ (by decide) e1 fun t2 l2 n2 b2 w2 e2 => go 2 b2 _ _ _ _ _ _ (by decide) e2 fun t3 l3 n3 b3 w3 e3 =>
    go 3 b3 _ _ _ _ _ _ (by decide) e3 fun t4 l4 n4 b4 w4 e4 => go 4 b4 _ _ _ _ _ _ (by decide) e4 fun t5 l5 n5 b5 w5 e5 => go 5 b5 _ _ _ _ _ _ (by decide) e5 fun t6 l6 n6 b6 w6 e6 => fin b6 t6 l6 n6 w6 e6
noncomputable def LevOk (h₀ : Heap) (L : Addr) (m : Str → Option Value) (news : List (Addr × Obj)) (c i : Int) (s s' : Shared) : Prop :=
  ∃ (b : Int) (t : Tok) (h' : Heap) (tk' : Nat), s' = { s with heap := h', toks := tk' } ∧ b = upto c i ∧ Fr h₀ L h' (fun y => if y = Str.ofString "best" then some (.int b t) else m y) ∧ News h₀ L h' news
theorem lev_cut {A : Around} {env : Env} {test : PySem.Expr} {body orelse : List Stmt} {pos : Pos} {i : Int} {ti : Tok} {Q : Flow → Shared → Prop} (c : Int) (F : Fr h₀ L s.heap m) (N : News h₀ L s.heap news) (hi : m (Str.ofString "number") = some (.int i ti))
    (h1 : wpAny (model PySem.Challenge.rw_og0237_01.row.prog w) A (isTrue test env (eval test env)) (fun b s₂ => if b then wpAny (model PySem.Challenge.rw_og0237_01.row.prog w) A (execs body env) (fun fl s' => fl = .next ∧ LevOk h₀ L m news c i s s') E s₂ else wpAny (model PySem.Challenge.rw_og0237_01.row.prog w) A (execs orelse env) (fun fl s' => fl = .next ∧ LevOk h₀ L m news c i s s') E s₂) E s)
    (h2 : ∀ (b : Int) (t : Tok) (h' : Heap) (tk' : Nat), 0 ≤ b → b ≤ 5 → b = upto c i → Fr h₀ L h' (fun y => if y = Str.ofString "best" then some (.int b t) else m y) → News h₀ L h' news → Q .next { s with heap := h', toks := tk' })
    (h0 : 0 ≤ i) : wpAny (model PySem.Challenge.rw_og0237_01.row.prog w) A (exec (.If test body orelse pos) env) Q E s :=
  wpAny_mono (wpAny_If h1) (fun fl s' hq => by
    obtain ⟨rfl, b, t, h', tk', rfl, e, a, d⟩ := hq
    have := nl_in c
    refine h2 b t h' tk' ?_ ?_ e a d <;> (rw [e]; unfold upto; split <;> omega)) fun _ _ e => e
theorem end_turn {prog : Program} {A : Around} {env : Env} {target : Expr} {body : List Stmt} {Q : Flow → Shared → Prop} {ws : List (Addr × String)} {r : List Itm} {m' : Str → Option Value} {s₀ s₁ : Shared} {a1 a2 : Addr × Obj} {h' : Heap} {tk : Nat} {all : List (Addr × Obj)}
    (F : Fr h₀ env.locals h' m') (N : News h₀ env.locals h' all) (e1 : a1 ∈ all) (e2 : a2 ∈ all) (h : ItemsRest prog w A E h₀ env target body Q s₀ ws [] r m' []) :
    UnrEndW h₀ env.locals s₁ [a1, a2] (fun m' n' => SubL [] n' ∧ ItemsRest prog w A E h₀ env target body Q s₀ ws [] r m' n') { s₁ with heap := h', toks := tk } :=
  ⟨h', tk, m', [], rfl, F, fun p hp => by
    rcases List.mem_cons.mp hp with rfl | hp
    · exact N _ e1
    · rcases List.mem_cons.mp hp with rfl | hp
      · exact N _ e2
      · exact (nomatch hp), fun _ hp => (nomatch hp), trivial, h⟩
theorem c_nearest_level
   (B : Below A₀ base outer h₀) (F : Fr h₀ L s.heap m) (X : (Mine.hd.heap_39 w.params).In h₀) (N : News h₀ L s.heap news) (T : Top Mine.hd.view_39 (looseW Mine.hd.view_39 []) mean mg mb h₀) (hk : cs.kind = .function)
   (hdp : dp + 1 < recursionLimit) (hun : un + 8 < cLine)
   {c : Int} {t : Tok} (h0 : 0 ≤ c) (h1 : c < 256)
   (hret : ∀ (t : Tok) (h' : Heap) (tk' : Nat), Fr h₀ L h' m → News h₀ L h' news → Q (.int (nl c) t) { s with heap := h', toks := tk' }) :
   wpAny (model PySem.Challenge.rw_og0237_01.row.prog w) (ktrTop dp un gd cn cs L a ccd cl outer) (call (.ref 111) [.int c t]) Q E s := by
  refine wpAny_call ?_
  revert X; k_fill; intro X
  k_dflt (refine' code_own (own := []) (rest := news) ?k1 ?k2 ?k3 ?k4 ?kr ?ko ?k5 ?kA ?kF ?kK ?k6 ?k7 ?k8 ?k9 ?kB ?_ ?c2 ?c3 ?c4 ?c5; (case kA => exact rfl); (case kF => exact rfl); (case kK => assumption); (case k1 => exact B); (case k2 => exact F); (case k3 => exact X); (case k4 => exact News.nil); (case kr => exact N); (case ko => exact fun _ _ _ h => nomatch h); (case k5 => exact T); (case k6 => k_is); (case k7 => k_is); (case k8 => first | exact dp_ok 0 hdp rfl | exact dp_ok 1 hdp rfl | exact dp_ok 2 hdp rfl | exact dp_ok 3 hdp rfl | ktr_room); (case k9 => exact BindsTo.of_eq rfl); (case c5 => decide); (case kB => exact locs rfl); (case c2 => exact rfl); (case c3 => exact rfl); (case c4 => exact rfl); k_whole)
  intro g' L' h' FG' F' N' B' X' T' R' S'
  (try dsimp only)
  (try k_fold)
  repeat' ((fail_if_success (with_reducible show ItemsRest _ _ _ _ _ _ _ _ _ _ _ _ _ _ _)); first
    | (k_unfold; (try dsimp only))
    | ((with_reducible show wpAny _ _ (execs (_ :: _) _) _ _ _); (try k_gentoks); (try k_fold); (try dsimp only); refine (let A9 : Around := _; (?_ : wpAny _ A9 _ _ _ _)); (with_reducible rename News _ _ _ _ => kN); (with_reducible rename Fr _ _ _ _ => kF); refine (let n9 : List (Addr × Obj) := _; let m9 : Str → Option Value := _; (fun (kN : News _ _ _ n9) (kF : Fr _ _ _ m9) => ?_) kN kF); refine wpAny_execs_cons ?_; (try dsimp only))
    | ((with_reducible show UnrEndW _ _ _ _ _ _); (with_reducible rename News _ _ _ _ => kN); (with_reducible rename Fr _ _ _ _ => kF); exact end_turn kF kN (by k_mem) (by k_mem) (items_at (ih _ _ _ _ _ (by assumption)) ov_back))
    | ((with_reducible show LevOk _ _ _ _ _ _ _ _); (with_reducible rename News _ _ _ _ => kN); (with_reducible rename Fr _ _ _ _ => kF); first | exact ⟨_, _, _, _, rfl, lev_yes (by assumption) h0 h1 (by assumption) (by assumption), kF, kN⟩ | exact ⟨_, _, _, _, rfl, lev_no (by assumption) h0 h1 (by assumption) (by assumption), fr_as kF (best_same rfl), kN⟩)
    | (k_here; (with_reducible show wpAny _ _ (call (Value.type _) [Value.ref _]) (fun xv s₁ => wpAny _ _ (pyIter xv) (fun it s₂ => TurnsAt _ _ _ _ _ _ _ _ _ it s₂) _ s₁) _ _); (rename Fr _ _ _ _ => lF'); (rename News _ _ _ _ => lN'); k_dflt (refine' enum_turns ?q1z2 lF' lN' ?q2z2 ?q3z2 ?q4z2; (case q1z2 => exact rfl); (case q2z2 => exact tupK (by k_asm) (by k_is)); (case q3z2 => exact rfl)); clear lF' lN'; intro i' l1; (try k_lt l1))
    | ((with_reducible show wpAny _ _ (exec (Stmt.For (Expr.Tuple _ _ _) (Expr.Call _ _ _ _) (_ :: _) [] _) _) _ _ _); (k_here; (rename Fr _ _ _ _ => lF'); (with_unfolding_all refine' For_turns lF' ?_; k_whole)))
    | (k_here; (with_reducible show wpAny _ _ (exec (Stmt.If _ _ _ _) _) _ _ _); (with_reducible rename News _ _ _ _ => kN); (with_reducible rename Fr _ _ _ _ => kF); refine lev_cut c kF kN (by exact rfl) ?_ (fun b9 t9 h9 tk9 b0 b1 hb F9 N9 => ?_) (by omega); (try dsimp only))
    | (walk1; all_goals (try dsimp only))
    | (dsimp only; walk1)
    | (leave1; (try dsimp only)))
  refine items_ind (c := c) (ov_start rfl rfl) (fun a b t u vl vn r news ha b0 b1 hb ih => ?_) (fun b t vl vn news hb => ?_)
  · repeat' (first
    | (k_unfold; (try dsimp only))
    | ((with_reducible show wpAny _ _ (execs (_ :: _) _) _ _ _); (try k_gentoks); (try k_fold); (try dsimp only); refine (let A9 : Around := _; (?_ : wpAny _ A9 _ _ _ _)); (with_reducible rename News _ _ _ _ => kN); (with_reducible rename Fr _ _ _ _ => kF); refine (let n9 : List (Addr × Obj) := _; let m9 : Str → Option Value := _; (fun (kN : News _ _ _ n9) (kF : Fr _ _ _ m9) => ?_) kN kF); refine wpAny_execs_cons ?_; (try dsimp only))
    | ((with_reducible show UnrEndW _ _ _ _ _ _); (with_reducible rename News _ _ _ _ => kN); (with_reducible rename Fr _ _ _ _ => kF); exact end_turn kF kN (by k_mem) (by k_mem) (items_at (ih _ _ _ _ _ (by assumption)) ov_back))
    | ((with_reducible show LevOk _ _ _ _ _ _ _ _); (with_reducible rename News _ _ _ _ => kN); (with_reducible rename Fr _ _ _ _ => kF); first | exact ⟨_, _, _, _, rfl, lev_yes (by assumption) h0 h1 (by assumption) (by assumption), kF, kN⟩ | exact ⟨_, _, _, _, rfl, lev_no (by assumption) h0 h1 (by assumption) (by assumption), fr_as kF (best_same rfl), kN⟩)
    | (k_here; (with_reducible show wpAny _ _ (call (Value.type _) [Value.ref _]) (fun xv s₁ => wpAny _ _ (pyIter xv) (fun it s₂ => TurnsAt _ _ _ _ _ _ _ _ _ it s₂) _ s₁) _ _); (rename Fr _ _ _ _ => lF'); (rename News _ _ _ _ => lN'); k_dflt (refine' enum_turns ?q1z2 lF' lN' ?q2z2 ?q3z2 ?q4z2; (case q1z2 => exact rfl); (case q2z2 => exact tupK (by k_asm) (by k_is)); (case q3z2 => exact rfl)); clear lF' lN'; intro i' l1; (try k_lt l1))
    | ((with_reducible show wpAny _ _ (exec (Stmt.For (Expr.Tuple _ _ _) (Expr.Call _ _ _ _) (_ :: _) [] _) _) _ _ _); (k_here; (rename Fr _ _ _ _ => lF'); (with_unfolding_all refine' For_turns lF' ?_; k_whole)))
    | (k_here; (with_reducible show wpAny _ _ (exec (Stmt.If _ _ _ _) _) _ _ _); (with_reducible rename News _ _ _ _ => kN); (with_reducible rename Fr _ _ _ _ => kF); refine lev_cut c kF kN (by exact rfl) ?_ (fun b9 t9 h9 tk9 b0 b1 hb F9 N9 => ?_) (by omega); (try dsimp only))
    | (walk1; all_goals (try dsimp only))
    | (dsimp only; walk1)
    | (leave1; (try dsimp only)))
  · repeat' (first
    | (k_unfold; (try dsimp only))
    | ((with_reducible show wpAny _ _ (execs (_ :: _) _) _ _ _); (try k_gentoks); (try k_fold); (try dsimp only); refine (let A9 : Around := _; (?_ : wpAny _ A9 _ _ _ _)); (with_reducible rename News _ _ _ _ => kN); (with_reducible rename Fr _ _ _ _ => kF); refine (let n9 : List (Addr × Obj) := _; let m9 : Str → Option Value := _; (fun (kN : News _ _ _ n9) (kF : Fr _ _ _ m9) => ?_) kN kF); refine wpAny_execs_cons ?_; (try dsimp only))
    | ((with_reducible show UnrEndW _ _ _ _ _ _); (with_reducible rename News _ _ _ _ => kN); (with_reducible rename Fr _ _ _ _ => kF); exact end_turn kF kN (by k_mem) (by k_mem) (items_at (ih _ _ _ _ _ (by assumption)) ov_back))
    | ((with_reducible show LevOk _ _ _ _ _ _ _ _); (with_reducible rename News _ _ _ _ => kN); (with_reducible rename Fr _ _ _ _ => kF); first | exact ⟨_, _, _, _, rfl, lev_yes (by assumption) h0 h1 (by assumption) (by assumption), kF, kN⟩ | exact ⟨_, _, _, _, rfl, lev_no (by assumption) h0 h1 (by assumption) (by assumption), fr_as kF (best_same rfl), kN⟩)
    | (k_here; (with_reducible show wpAny _ _ (call (Value.type _) [Value.ref _]) (fun xv s₁ => wpAny _ _ (pyIter xv) (fun it s₂ => TurnsAt _ _ _ _ _ _ _ _ _ it s₂) _ s₁) _ _); (rename Fr _ _ _ _ => lF'); (rename News _ _ _ _ => lN'); k_dflt (refine' enum_turns ?q1z2 lF' lN' ?q2z2 ?q3z2 ?q4z2; (case q1z2 => exact rfl); (case q2z2 => exact tupK (by k_asm) (by k_is)); (case q3z2 => exact rfl)); clear lF' lN'; intro i' l1; (try k_lt l1))
    | ((with_reducible show wpAny _ _ (exec (Stmt.For (Expr.Tuple _ _ _) (Expr.Call _ _ _ _) (_ :: _) [] _) _) _ _ _); (k_here; (rename Fr _ _ _ _ => lF'); (with_unfolding_all refine' For_turns lF' ?_; k_whole)))
    | (k_here; (with_reducible show wpAny _ _ (exec (Stmt.If _ _ _ _) _) _ _ _); (with_reducible rename News _ _ _ _ => kN); (with_reducible rename Fr _ _ _ _ => kF); refine lev_cut c kF kN (by exact rfl) ?_ (fun b9 t9 h9 tk9 b0 b1 hb F9 N9 => ?_) (by omega); (try dsimp only))
    | (walk1; all_goals (try dsimp only))
    | (dsimp only; walk1)
    | (leave1; (try dsimp only)))
    rw [lev_last] at hb
    rw [← hb] at hret
    exact hret _ _ _ (by k_asm) (by k_asm)

end Mine
end

theorem Mine.offC5 : True := by
  w_top off
  trivial

section -- C5
open PySem PySem.Spec PySem.Calls PySem.W PyProof.Rows
set_option linter.unusedVariables false
set_option maxRecDepth 100000
set_option maxHeartbeats 8000000
set_option pp.deepTerms false
namespace Mine
variable {w : World} {mean : ExcName → Option Value} {mg mb : Str → Option Value} {dp un : Nat} {gd : Option (List Code)} {cn : Str} {cs : Scope} {a : Addr} {ccd : Value} {cl : List (Str × Addr)} {outer : List Env} {A₀ : Around} {base h₀ : Heap} {L : Addr} {m : Str → Option Value} {news : List (Addr × Obj)} {s : Shared} {Q E : Value → Shared → Prop}
noncomputable def bst (c b0 : Int) (pre : List Int) : Int := pre.foldl (fun b i => if dist (pal i) c < dist (pal b) c then i else b) b0
noncomputable def b0 (c : Int) : Int := 16 + 36 * nl (pR c) + 6 * nl (pG c) + nl (pB c)
theorem bst_snoc (c b : Int) (pre : List Int) (i : Int) : bst c b (pre ++ [i]) = if dist (pal i) c < dist (pal (bst c b pre)) c then i else bst c b pre := by
  unfold bst
  rw [List.foldl_append]
  rfl
theorem bst_take {c b i x : Int} {pre : List Int} (h : x = bst c b pre) (hlt : dist (pal i) c < dist (pal x) c) : i = bst c b (pre ++ [i]) := by
  subst h
  rw [bst_snoc, if_pos hlt]
theorem bst_stay {c b i x : Int} {pre : List Int} (h : x = bst c b pre) (hlt : ¬ dist (pal i) c < dist (pal x) c) : x = bst c b (pre ++ [i]) := by
  subst h
  rw [bst_snoc, if_neg hlt]
noncomputable def nearest (c : Int) : Int := bst c (b0 c) (rangeKs 232 24)
theorem c_nearest
   (B : Below A₀ base outer h₀) (F : Fr h₀ L s.heap m) (X : (Mine.hd.heap_39 w.params).In h₀) (N : News h₀ L s.heap news) (T : Top Mine.hd.view_39 (looseW Mine.hd.view_39 []) mean mg mb h₀) (hk : cs.kind = .function)
   (hdp : dp + 3 < recursionLimit) (hun : un + 24 < cLine)
   {c : Int} {t : Tok} (h0 : 0 ≤ c) (h1 : c < 16777216)
   (hret : ∀ (t : Tok) (h' : Heap) (tk' : Nat), Fr h₀ L h' m → News h₀ L h' news → Q (.int (nearest c) t) { s with heap := h', toks := tk' }) :
   wpAny (model PySem.Challenge.rw_og0237_01.row.prog w) (ktrTop dp un gd cn cs L a ccd cl outer) (call (.ref 116) [.int c t]) Q E s := by
  refine wpAny_call ?_
  revert X; k_fill; intro X
  k_dflt (refine' code_own (own := []) (rest := news) ?k1 ?k2 ?k3 ?k4 ?kr ?ko ?k5 ?kA ?kF ?kK ?k6 ?k7 ?k8 ?k9 ?kB ?_ ?c2 ?c3 ?c4 ?c5; (case kA => exact rfl); (case kF => exact rfl); (case kK => assumption); (case k1 => exact B); (case k2 => exact F); (case k3 => exact X); (case k4 => exact News.nil); (case kr => exact N); (case ko => exact fun _ _ _ h => nomatch h); (case k5 => exact T); (case k6 => k_is); (case k7 => k_is); (case k8 => first | exact dp_ok 0 hdp rfl | exact dp_ok 1 hdp rfl | exact dp_ok 2 hdp rfl | exact dp_ok 3 hdp rfl | ktr_room); (case k9 => exact BindsTo.of_eq rfl); (case c5 => decide); (case kB => exact locs rfl); (case c2 => exact rfl); (case c3 => exact rfl); (case c4 => exact rfl); k_whole)
  intro g' L' h' FG' F' N' B' X' T' R' S'
  (try dsimp only)
  (try k_fold)
  (k_with "state" => first | exact ⟨rfl, by omega, by omega⟩ | exact ⟨bst_take (by assumption) (by assumption), by omega, by omega⟩ | exact ⟨bst_stay (by assumption) (by assumption), by assumption, by assumption⟩)
  have a1 := nl_in (pR c)
  have a2 := nl_in (pG c)
  have a3 := nl_in (pB c)
  repeat' (first
    | (k_unfold; (try dsimp only))
    | ((with_reducible show wpAny _ _ (execs (_ :: _) _) _ _ _); (try k_gentoks); (try k_fold); (try dsimp only); refine (let A9 : Around := _; (?_ : wpAny _ A9 _ _ _ _)); (with_reducible rename News _ _ _ _ => kN); (with_reducible rename Fr _ _ _ _ => kF); refine wpAny_execs_cons ?_; (try dsimp only))
    | ((with_reducible show wpAny _ _ (call (Value.ref _) _) _ _ _); first | (k_here; (with_reducible show wpAny _ _ (call (Value.ref 111) [_]) _ _ _); k_dflt (refine' c_nearest_level ?k0z5 ?k1z5 ?k2z5 ?k3z5 ?k4z5 ?k5z5 ?k6z5 ?k7z5 ?p0z5 ?p1z5 ?_; (case k0z5 => k_asm); (case k1z5 => k_asm); (case k2z5 => k_asm); (case k3z5 => k_asm); (case k4z5 => k_asm); (case k5z5 => first | exact rfl | assumption); (case k6z5 => first | exact dp_ok 0 hdp rfl | exact dp_ok 1 hdp rfl | exact dp_ok 2 hdp rfl | exact dp_ok 3 hdp rfl | ktr_room); (case k7z5 => first | exact un_ok hun rfl | exact un_ok0 hun rfl | ktr_units); (case p0z5 => first | exact (pR_in _).1 | exact (pG_in _).1 | exact (pB_in _).1); (case p1z5 => first | exact (pR_in _).2 | exact (pG_in _).2 | exact (pB_in _).2);  k_whole); intro t9 h9 tk9 F9 N9; (try dsimp only); (try k_fold)) | (k_here; (with_reducible show wpAny _ _ (call (Value.ref 104) [_, _]) _ _ _); k_dflt (refine' c_distance ?k0z4 ?k1z4 ?k2z4 ?k3z4 ?k4z4 ?k5z4 ?k6z4 ?k7z4 ?_; (case k0z4 => k_asm); (case k1z4 => k_asm); (case k2z4 => k_asm); (case k3z4 => k_asm); (case k4z4 => k_asm); (case k5z4 => first | exact rfl | assumption); (case k6z4 => first | exact dp_ok 0 hdp rfl | exact dp_ok 1 hdp rfl | exact dp_ok 2 hdp rfl | exact dp_ok 3 hdp rfl | ktr_room); (case k7z4 => first | exact un_ok hun rfl | exact un_ok0 hun rfl | ktr_units);  k_whole); intro t9 h9 tk9 F9 N9; (try dsimp only); (try k_fold)) | (k_here; (with_reducible show wpAny _ _ (call (Value.ref 97) [_]) _ _ _); k_dflt (refine' c_palette ?k0z3 ?k1z3 ?k2z3 ?k3z3 ?k4z3 ?k5z3 ?k6z3 ?k7z3 ?p0z3 ?p1z3 ?_; (case k0z3 => k_asm); (case k1z3 => k_asm); (case k2z3 => k_asm); (case k3z3 => k_asm); (case k4z3 => k_asm); (case k5z3 => first | exact rfl | assumption); (case k6z3 => first | exact dp_ok 0 hdp rfl | exact dp_ok 1 hdp rfl | exact dp_ok 2 hdp rfl | exact dp_ok 3 hdp rfl | ktr_room); (case k7z3 => first | exact un_ok hun rfl | exact un_ok0 hun rfl | ktr_units); (case p0z3 => omega); (case p1z3 => omega);  k_whole); intro t9 h9 tk9 F9 N9; (try dsimp only); (try k_fold)) | (k_here; (with_reducible show wpAny _ _ (call (Value.ref 28) [_]) _ _ _); k_dflt (refine' c_rgb_of ?k0z2 ?k1z2 ?k2z2 ?k3z2 ?k4z2 ?k5z2 ?k6z2 ?k7z2 ?_; (case k0z2 => k_asm); (case k1z2 => k_asm); (case k2z2 => k_asm); (case k3z2 => k_asm); (case k4z2 => k_asm); (case k5z2 => first | exact rfl | assumption); (case k6z2 => first | exact dp_ok 0 hdp rfl | exact dp_ok 1 hdp rfl | exact dp_ok 2 hdp rfl | exact dp_ok 3 hdp rfl | ktr_room); (case k7z2 => first | exact un_ok hun rfl | exact un_ok0 hun rfl | ktr_units);  k_whole); intro D9 t9 u9 v9 n9 h9 tk9 F9 N9 l9; (try simp only [AllNe, and_true] at l9); (try dsimp only); (try k_fold)))
    | ((with_reducible show SrcU _ _ _ _ _ _ _ _ _ _ _ _ _ _); (k_here; k_dflt (first | (refine' SrcU.tup ?q1z7 ?q2z7 ?q3z7 ?q4z7 ?q5z7 ?q6z7 ?q7z7 ?q8z7; (case q1z7 => rfl); (case q2z7 => k_asm); (case q3z7 => k_asm); (case q4z7 => k_mem); (case q5z7 => rfl); (case q6z7 => rfl); (case q7z7 => first | size_fits | exact Nat.le_of_ble_eq_true rfl); intro g'; lcg_lit))))
    | ((with_reducible show wpAny _ _ (eval (Expr.ListComp _ _ _ _) _) _ _ _); (k_here; k_dflt (refine' comp_U ?q0z6 ?q1z6 ?q2z6 ?q3z6 ?q4z6 ?q5z6 ?q6z6 ?q7z6; (case q0z6 => k_asm); (case q1z6 => with_unfolding_all rfl); (case q2z6 => decide); (case q3z6 => rfl); (case q4z6 => decide); (case q5z6 => rfl); (case q7z6 => (intro _; rfl)))))
    | ((with_reducible show wpAny _ _ (pyIter (Value.ref _)) _ _ _); k_state_given ["rgb", "best!"] (fun rgb b pre best => best = bst rgb b pre ∧ 16 ≤ best ∧ best < 256) "best")
    | ((with_reducible show wpAny _ _ (exec (Stmt.For (Expr.Name _ _) (Expr.Call _ _ _ _) (_ :: _) [] _) _) _ _ _); (k_here; (rename Fr _ _ _ _ => lF'); (with_unfolding_all refine' For_invVF lF' ?k1z0 ?k2z0 ?_; (case k1z0 => exact rfl); (case k2z0 => exact rfl); k_whole)))
    | (walk1; all_goals (try dsimp only))
    | (dsimp only; walk1)
    | (leave1; (try dsimp only)))
  rename _ = bst _ _ _ => hb
  have e : nearest c = _ := hb.symm
  rw [e] at hret
  exact hret _ _ _ (by k_asm) (by k_asm)

end Mine
end

theorem Mine.offC6 : True := by
  w_top off
  trivial

section -- C6
open PySem PySem.Spec PySem.Calls PySem.W PyProof.Rows
set_option linter.unusedVariables false
set_option maxRecDepth 100000
set_option maxHeartbeats 8000000
set_option pp.deepTerms false
namespace Mine
variable {w : World} {mean : ExcName → Option Value} {mg mb : Str → Option Value} {dp un : Nat} {gd : Option (List Code)} {cn : Str} {cs : Scope} {a : Addr} {ccd : Value} {cl : List (Str × Addr)} {outer : List Env} {A₀ : Around} {base h₀ : Heap} {L : Addr} {m : Str → Option Value} {news : List (Addr × Obj)} {s : Shared} {Q E : Value → Shared → Prop}
noncomputable def far3 (a1 a2 a3 b1 b2 b3 : Int) : Int := (a1 - b1) * (a1 - b1) + ((a2 - b2) * (a2 - b2) + ((a3 - b3) * (a3 - b3) + 0))
theorem c_law_far
   (B : Below A₀ base outer h₀) (F : Fr h₀ L s.heap m) (X : (Mine.hd.heap_39 w.params).In h₀) (N : News h₀ L s.heap news) (T : Top Mine.hd.view_39 (looseW Mine.hd.view_39 []) mean mg mb h₀) (hk : cs.kind = .function)
   (hdp : dp + 1 < recursionLimit) (hun : un + 8 < cLine)
   {a1 a2 a3 b1 b2 b3 : Int} {t1 t2 t3 u1 u2 u3 : Tok} {l1 l2 : Addr} {n1 n2 : Nat} (hm1 : s.heap.get? l1 = some { cls := .type "tuple", data := .seq #[.int a1 t1, .int a2 t2, .int a3 t3] n1 }) (hm2 : s.heap.get? l2 = some { cls := .type "list", data := .seq #[.int b1 u1, .int b2 u2, .int b3 u3] n2 }) (ha1 : 0 ≤ a1 ∧ a1 < 256) (ha2 : 0 ≤ a2 ∧ a2 < 256) (ha3 : 0 ≤ a3 ∧ a3 < 256) (hb1 : 0 ≤ b1 ∧ b1 < 256) (hb2 : 0 ≤ b2 ∧ b2 < 256) (hb3 : 0 ≤ b3 ∧ b3 < 256)
   (hret : ∀ (t : Tok) (h' : Heap) (tk' : Nat), Fr h₀ L h' m → News h₀ L h' news → Q (.int (far3 a1 a2 a3 b1 b2 b3) t) { s with heap := h', toks := tk' }) :
   wpAny (model PySem.Challenge.rw_og0237_01.row.prog w) (ktrTop dp un gd cn cs L a ccd cl outer) (call (.ref 147) [.ref l1, .ref l2]) Q E s := by
  refine wpAny_call ?_
  revert X; k_fill; intro X
  k_dflt (refine' code_own (own := []) (rest := news) ?k1 ?k2 ?k3 ?k4 ?kr ?ko ?k5 ?kA ?kF ?kK ?k6 ?k7 ?k8 ?k9 ?kB ?_ ?c2 ?c3 ?c4 ?c5; (case kA => exact rfl); (case kF => exact rfl); (case kK => assumption); (case k1 => exact B); (case k2 => exact F); (case k3 => exact X); (case k4 => exact News.nil); (case kr => exact N); (case ko => exact fun _ _ _ h => nomatch h); (case k5 => exact T); (case k6 => k_is); (case k7 => k_is); (case k8 => first | exact dp_ok 0 hdp rfl | exact dp_ok 1 hdp rfl | exact dp_ok 2 hdp rfl | exact dp_ok 3 hdp rfl | ktr_room); (case k9 => exact BindsTo.of_eq rfl); (case c5 => decide); (case kB => exact locs rfl); (case c2 => exact rfl); (case c3 => exact rfl); (case c4 => exact rfl); k_whole)
  intro g' L' h' FG' F' N' B' X' T' R' S'
  (try dsimp only)
  (try k_fold)
  repeat' (first
    | (k_unfold; (try dsimp only))
    | ((with_reducible show wpAny _ _ (execs (_ :: _) _) _ _ _); (try k_gentoks); (try k_fold); (try dsimp only); refine (let A9 : Around := _; (?_ : wpAny _ A9 _ _ _ _)); (with_reducible rename News _ _ _ _ => kN); (with_reducible rename Fr _ _ _ _ => kF); refine (let n9 : List (Addr × Obj) := _; let m9 : Str → Option Value := _; (fun (kN : News _ _ _ n9) (kF : Fr _ _ _ m9) => ?_) kN kF); refine wpAny_execs_cons ?_; (try dsimp only))
    | (k_here; (with_reducible show wpAny _ _ (eval (Expr.Name _ _) (compEnvC _ _ _ _)) _ _ _); k_dflt (refine' ldVarK ?q1z1 ?q2z1 ?_ ?q3z1 ?q4z1 ?q5z1; (case q1z1 => assumption); (case q2z1 => assumption); (case q3z1 => rfl); (case q4z1 => rfl); (case q5z1 => decide)))
    | ((with_reducible show wpAny _ _ (eval (Expr.ListComp _ _ _ _) _) _ _ _); (k_here; k_dflt (refine' comp_P ?q0z0 ?q1z0 ?q2z0 ?q3z0 ?q4z0 ?q5z0 ?q6z0 ?q8z0 ?q9z0 ?q7z0; (case q0z0 => k_asm); (case q1z0 => with_unfolding_all rfl); (case q2z0 => decide); (case q3z0 => rfl); (case q4z0 => decide); (case q5z0 => rfl); (case q6z0 => rfl); (case q8z0 => decide); (case q7z0 => (intro _; rfl)))))
    | (walk1; all_goals (try dsimp only))
    | (dsimp only; walk1)
    | (leave1; (try dsimp only)))
  have T1 : g'.IsTuple l1 [Value.int a1 t1, Value.int a2 t2, Value.int a3 t3].toArray := ⟨_, S' _ _ hm1 (fun _ h => nomatch h), rfl, _, rfl⟩
  have T2 : g'.IsList l2 [Value.int b1 u1, Value.int b2 u2, Value.int b3 u3].toArray := ⟨_, S' _ _ hm2 (fun _ h => nomatch h), rfl, _, rfl⟩
  rename Fr g' _ _ _ => kF
  rename News g' _ _ _ => kN
  refine pair_src_tl rfl kF kN (T1.at fun o e => kF.keep _ o e) (T2.at fun o e => kF.keep _ o e) rfl fun I hI fp wr St Mid PX F1 N1 => ?_
  refine SrcP.three ((a1 - b1) * (a1 - b1)) ((a2 - b2) * (a2 - b2)) ((a3 - b3) * (a3 - b3)) rfl F1 N1 PX ?_ ?_ ?_ ?_
  all_goals first
    | (intro C m₂ s' E' Q' hn hx hy hQ
       repeat' (first
    | (k_unfold; (try dsimp only))
    | ((with_reducible show wpAny _ _ (execs (_ :: _) _) _ _ _); (try k_gentoks); (try k_fold); (try dsimp only); refine (let A9 : Around := _; (?_ : wpAny _ A9 _ _ _ _)); (with_reducible rename News _ _ _ _ => kN); (with_reducible rename Fr _ _ _ _ => kF); refine (let n9 : List (Addr × Obj) := _; let m9 : Str → Option Value := _; (fun (kN : News _ _ _ n9) (kF : Fr _ _ _ m9) => ?_) kN kF); refine wpAny_execs_cons ?_; (try dsimp only))
    | (k_here; (with_reducible show wpAny _ _ (eval (Expr.Name _ _) (compEnvC _ _ _ _)) _ _ _); k_dflt (refine' ldVarK ?q1z1 ?q2z1 ?_ ?q3z1 ?q4z1 ?q5z1; (case q1z1 => assumption); (case q2z1 => assumption); (case q3z1 => rfl); (case q4z1 => rfl); (case q5z1 => decide)))
    | ((with_reducible show wpAny _ _ (eval (Expr.ListComp _ _ _ _) _) _ _ _); (k_here; k_dflt (refine' comp_P ?q0z0 ?q1z0 ?q2z0 ?q3z0 ?q4z0 ?q5z0 ?q6z0 ?q8z0 ?q9z0 ?q7z0; (case q0z0 => k_asm); (case q1z0 => with_unfolding_all rfl); (case q2z0 => decide); (case q3z0 => rfl); (case q4z0 => decide); (case q5z0 => rfl); (case q6z0 => rfl); (case q8z0 => decide); (case q7z0 => (intro _; rfl)))))
    | (walk1; all_goals (try dsimp only))
    | (dsimp only; walk1)
    | (leave1; (try dsimp only)))
       all_goals exact hQ _ _)
    | (intro D h tk v1 v2 v3 F2 N2 lt
       clear F1 N1 kF kN T1 T2
       (try k_fold)
       repeat' (first
    | (k_unfold; (try dsimp only))
    | ((with_reducible show wpAny _ _ (execs (_ :: _) _) _ _ _); (try k_gentoks); (try k_fold); (try dsimp only); refine (let A9 : Around := _; (?_ : wpAny _ A9 _ _ _ _)); (with_reducible rename News _ _ _ _ => kN); (with_reducible rename Fr _ _ _ _ => kF); refine (let n9 : List (Addr × Obj) := _; let m9 : Str → Option Value := _; (fun (kN : News _ _ _ n9) (kF : Fr _ _ _ m9) => ?_) kN kF); refine wpAny_execs_cons ?_; (try dsimp only))
    | (k_here; (with_reducible show wpAny _ _ (eval (Expr.Name _ _) (compEnvC _ _ _ _)) _ _ _); k_dflt (refine' ldVarK ?q1z1 ?q2z1 ?_ ?q3z1 ?q4z1 ?q5z1; (case q1z1 => assumption); (case q2z1 => assumption); (case q3z1 => rfl); (case q4z1 => rfl); (case q5z1 => decide)))
    | ((with_reducible show wpAny _ _ (eval (Expr.ListComp _ _ _ _) _) _ _ _); (k_here; k_dflt (refine' comp_P ?q0z0 ?q1z0 ?q2z0 ?q3z0 ?q4z0 ?q5z0 ?q6z0 ?q8z0 ?q9z0 ?q7z0; (case q0z0 => k_asm); (case q1z0 => with_unfolding_all rfl); (case q2z0 => decide); (case q3z0 => rfl); (case q4z0 => decide); (case q5z0 => rfl); (case q6z0 => rfl); (case q8z0 => decide); (case q7z0 => (intro _; rfl)))))
    | (walk1; all_goals (try dsimp only))
    | (dsimp only; walk1)
    | (leave1; (try dsimp only)))
       exact hret _ _ _ (by k_asm) (by k_asm))

end Mine
end

theorem Mine.offC7 : True := by
  w_top off
  trivial

section -- C7
open PySem PySem.Spec PySem.Calls PySem.W PyProof.Rows
set_option linter.unusedVariables false
set_option maxRecDepth 100000
set_option maxHeartbeats 8000000
set_option pp.deepTerms false
namespace Mine
variable {w : World} {mean : ExcName → Option Value} {mg mb : Str → Option Value} {dp un : Nat} {gd : Option (List Code)} {cn : Str} {cs : Scope} {a : Addr} {ccd : Value} {cl : List (Str × Addr)} {outer : List Env} {A₀ : Around} {base h₀ : Heap} {L : Addr} {m : Str → Option Value} {news : List (Addr × Obj)} {s : Shared} {Q E : Value → Shared → Prop}
theorem fd36 (x : Int) : Int.fdiv x 36 = x / 36 := fdiv_pos x (by decide)
theorem fd6 (x : Int) : Int.fdiv x 6 = x / 6 := fdiv_pos x (by decide)
theorem fm6 (x : Int) : Int.fmod x 6 = x % 6 := fmod_pos x (by decide)
theorem c_law_rgb
   (B : Below A₀ base outer h₀) (F : Fr h₀ L s.heap m) (X : (Mine.hd.heap_39 w.params).In h₀) (N : News h₀ L s.heap news) (T : Top Mine.hd.view_39 (looseW Mine.hd.view_39 []) mean mg mb h₀) (hk : cs.kind = .function)
   (hdp : dp + 1 < recursionLimit) (hun : un + 8 < cLine)
   {c : Int} {t : Tok} (h0 : 16 ≤ c) (h1 : c < 256)
   (hret : ∀ (D : Addr) (t1 t2 t3 : Tok) (n : Nat) (h' : Heap) (tk' : Nat), Fr h₀ L h' m → News h₀ L h' ((D, ({ cls := .type "tuple", data := .seq #[.int (palR c) t1, .int (palG c) t2, .int (palB c) t3] n } : Obj)) :: news) → AllNe D news → Q (.ref D) { s with heap := h', toks := tk' }) :
   wpAny (model PySem.Challenge.rw_og0237_01.row.prog w) (ktrTop dp un gd cn cs L a ccd cl outer) (call (.ref 135) [.int c t]) Q E s := by
  refine wpAny_call ?_
  revert X; k_fill; intro X
  k_dflt (refine' code_own (own := []) (rest := news) ?k1 ?k2 ?k3 ?k4 ?kr ?ko ?k5 ?kA ?kF ?kK ?k6 ?k7 ?k8 ?k9 ?kB ?_ ?c2 ?c3 ?c4 ?c5; (case kA => exact rfl); (case kF => exact rfl); (case kK => assumption); (case k1 => exact B); (case k2 => exact F); (case k3 => exact X); (case k4 => exact News.nil); (case kr => exact N); (case ko => exact fun _ _ _ h => nomatch h); (case k5 => exact T); (case k6 => k_is); (case k7 => k_is); (case k8 => first | exact dp_ok 0 hdp rfl | exact dp_ok 1 hdp rfl | exact dp_ok 2 hdp rfl | exact dp_ok 3 hdp rfl | ktr_room); (case k9 => exact BindsTo.of_eq rfl); (case c5 => decide); (case kB => exact locs rfl); (case c2 => exact rfl); (case c3 => exact rfl); (case c4 => exact rfl); k_whole)
  intro g' L' h' FG' F' N' B' X' T' R' S'
  (try dsimp only)
  (try k_fold)
  repeat' (first
    | (k_unfold; (try dsimp only))
    | ((with_reducible show wpAny _ _ (execs (_ :: _) _) _ _ _); (try k_gentoks); (try k_fold); (try dsimp only); refine (let A9 : Around := _; (?_ : wpAny _ A9 _ _ _ _)); (with_reducible rename News _ _ _ _ => kN); (with_reducible rename Fr _ _ _ _ => kF); refine (let n9 : List (Addr × Obj) := _; let m9 : Str → Option Value := _; (fun (kN : News _ _ _ n9) (kF : Fr _ _ _ m9) => ?_) kN kF); refine wpAny_execs_cons ?_; (try dsimp only))
    | (k_here; (with_reducible show wpAny _ _ (subscriptTail _ _ (Value.ref _) (Value.int _ _)) _ _ _); k_dflt (refine' item_anyT (ns := [0, 95, 135, 175, 215, 255]) ?q1z1 ?q2z1 ?q3z1 ?q4z1 ?q5z1 ?_ ?q6z1; (case q1z1 => exact News.isTup (by k_asm) (by k_mem)); (case q2z1 => (repeat' constructor)); (case q3z1 => (simp only [fd36, fd6, fm6]; omega)); (case q4z1 => (simp only [fd36, fd6, fm6, List.length_cons, List.length_nil]; omega)); (case q5z1 => (simp only [fd36, fd6, fm6]; omega)); (case q6z1 => with_unfolding_all rfl)); intro t')
    | (k_here; (with_reducible show wpAny _ _ (binaryOp Operator.Mult (Value.ref _) (Value.int _ _)) _ _ _); k_dflt (refine' tup_three ?q1z0 ?q2z0 ?q3z0 ?_; (case q1z0 => k_asm); (case q2z0 => k_asm); (case q3z0 => k_mem)); intro D' h' F' N' l1; (try k_lt l1))
    | (walk1; all_goals (try dsimp only))
    | (dsimp only; walk1)
    | (leave1; (try dsimp only)))
  · have e1 : palR c = 8 + 10 * (c - 232) := if_neg (by omega)
    have e2 : palG c = 8 + 10 * (c - 232) := if_neg (by omega)
    have e3 : palB c = 8 + 10 * (c - 232) := if_neg (by omega)
    rw [e1, e2, e3] at hret
    rename News h₀ L _ news => kR
    rename News h₀ L _ (_ :: _) => kN
    rename News g' _ _ _ => kM
    exact hret _ _ _ _ _ _ _ (by k_asm) (news_cons (news_one kN (.head _)) kR) (allNe_of (off_new R' kM (.head _)))
  · have e1 : palR c = lev ((c - 16) / 36) := if_pos (by omega)
    have e2 : palG c = lev ((c - 16) / 6 % 6) := if_pos (by omega)
    have e3 : palB c = lev ((c - 16) % 6) := if_pos (by omega)
    rw [e1, e2, e3] at hret
    rename News h₀ L _ news => kR
    rename News h₀ L _ (_ :: _) => kN
    rename News g' _ _ _ => kM
    simp only [fd36, fd6, fm6] at kN
    exact hret _ _ _ _ _ _ _ (by k_asm) (news_cons (news_one kN (.head _)) kR) (allNe_of (off_new R' kM (.head _)))

end Mine
end

theorem Mine.offC8 : True := by
  w_top off
  trivial

section -- C8
open PySem PySem.Spec PySem.Calls PySem.W PyProof.Rows
set_option linter.unusedVariables false
set_option maxRecDepth 100000
set_option maxHeartbeats 8000000
set_option pp.deepTerms false
namespace Mine
variable {w : World} {mean : ExcName → Option Value} {mg mb : Str → Option Value} {dp un : Nat} {gd : Option (List Code)} {cn : Str} {cs : Scope} {a : Addr} {ccd : Value} {cl : List (Str × Addr)} {outer : List Env} {A₀ : Around} {base h₀ : Heap} {L : Addr} {m : Str → Option Value} {news : List (Addr × Obj)} {s : Shared} {Q E : Value → Shared → Prop}
noncomputable def hv (c : Int) : Option Int := if 48 ≤ c ∧ c ≤ 57 then some (c - 48) else if 65 ≤ c ∧ c ≤ 70 then some (c - 55) else if 97 ≤ c ∧ c ≤ 102 then some (c - 87) else none
theorem hv1 {c : Int} (a : 48 ≤ c) (b : c ≤ 57) : hv c = some (c - 48) := by unfold hv; rw [if_pos (by omega)]
theorem hv2 {c : Int} (a : 65 ≤ c) (b : c ≤ 70) : hv c = some (c - 55) := by unfold hv; rw [if_neg (by omega), if_pos (by omega)]
theorem hv3 {c : Int} (a : 97 ≤ c) (b : c ≤ 102) : hv c = some (c - 87) := by unfold hv; rw [if_neg (by omega), if_neg (by omega), if_pos (by omega)]
theorem hv0 {c : Int} (a : ¬ (48 ≤ c ∧ c ≤ 57)) (b : ¬ (65 ≤ c ∧ c ≤ 70)) (d : ¬ (97 ≤ c ∧ c ≤ 102)) : hv c = none := by unfold hv; rw [if_neg a, if_neg b, if_neg d]
theorem hv_in {c i : Int} (h : hv c = some i) : 0 ≤ i ∧ i < 16 := by
  unfold hv at h
  (repeat' split at h) <;> first | (cases h; omega) | cases h
theorem c_hex
   (B : Below A₀ base outer h₀) (F : Fr h₀ L s.heap m) (X : (Mine.hd.heap_39 w.params).In h₀) (N : News h₀ L s.heap news) (T : Top Mine.hd.view_39 (looseW Mine.hd.view_39 []) mean mg mb h₀) (hk : cs.kind = .function)
   (hdp : dp + 1 < recursionLimit) (hun : un + 8 < cLine)
   {c : Int} {t : Tok} (h0 : 0 ≤ c) (h1 : c < 256)
   (hsome : ∀ (i : Int) (t : Tok) (h' : Heap) (tk' : Nat), hv c = some i → Fr h₀ L h' m → News h₀ L h' news → Q (.int i t) { s with heap := h', toks := tk' })
   (hnone : ∀ (h' : Heap) (tk' : Nat), hv c = none → Fr h₀ L h' m → News h₀ L h' news → Q .none { s with heap := h', toks := tk' }) :
   wpAny (model PySem.Challenge.rw_og0237_01.row.prog w) (ktrTop dp un gd cn cs L a ccd cl outer) (call (.ref 21) [.int c t]) Q E s := by
  refine wpAny_call ?_
  revert X; k_fill; intro X
  k_dflt (refine' code_own (own := []) (rest := news) ?k1 ?k2 ?k3 ?k4 ?kr ?ko ?k5 ?kA ?kF ?kK ?k6 ?k7 ?k8 ?k9 ?kB ?_ ?c2 ?c3 ?c4 ?c5; (case kA => exact rfl); (case kF => exact rfl); (case kK => assumption); (case k1 => exact B); (case k2 => exact F); (case k3 => exact X); (case k4 => exact News.nil); (case kr => exact N); (case ko => exact fun _ _ _ h => nomatch h); (case k5 => exact T); (case k6 => k_is); (case k7 => k_is); (case k8 => first | exact dp_ok 0 hdp rfl | exact dp_ok 1 hdp rfl | exact dp_ok 2 hdp rfl | exact dp_ok 3 hdp rfl | ktr_room); (case k9 => exact BindsTo.of_eq rfl); (case c5 => decide); (case kB => exact locs rfl); (case c2 => exact rfl); (case c3 => exact rfl); (case c4 => exact rfl); k_whole)
  intro g' L' h' FG' F' N' B' X' T' R' S'
  (try dsimp only)
  (try k_fold)
  repeat' (first
    | (k_unfold; (try dsimp only))
    | ((with_reducible show wpAny _ _ (execs (_ :: _) _) _ _ _); (try k_gentoks); (try k_fold); (try dsimp only); refine (let A9 : Around := _; (?_ : wpAny _ A9 _ _ _ _)); (with_reducible rename News _ _ _ _ => kN); (with_reducible rename Fr _ _ _ _ => kF); refine (let n9 : List (Addr × Obj) := _; let m9 : Str → Option Value := _; (fun (kN : News _ _ _ n9) (kF : Fr _ _ _ m9) => ?_) kN kF); refine wpAny_execs_cons ?_; (try dsimp only))
    | (walk1; all_goals (try dsimp only))
    | (dsimp only; walk1)
    | (leave1; (try dsimp only)))
  · exact hsome _ _ _ _ (hv1 (by assumption) (by assumption)) (by k_asm) (by k_asm)
  · exact hsome _ _ _ _ (hv2 (by assumption) (by assumption)) (by k_asm) (by k_asm)
  · exact hsome _ _ _ _ (hv3 (by assumption) (by assumption)) (by k_asm) (by k_asm)
  all_goals exact hnone _ _ (hv0 (by omega) (by omega) (by omega)) (by k_asm) (by k_asm)

end Mine
end

theorem Mine.offC9 : True := by
  w_top off
  trivial

section -- C9
open PySem PySem.Spec PySem.Calls PySem.W PyProof.Rows
set_option linter.unusedVariables false
set_option maxRecDepth 100000
set_option maxHeartbeats 8000000
set_option pp.deepTerms false
namespace Mine
variable {w : World} {mean : ExcName → Option Value} {mg mb : Str → Option Value} {dp un : Nat} {gd : Option (List Code)} {cn : Str} {cs : Scope} {a : Addr} {ccd : Value} {cl : List (Str × Addr)} {outer : List Env} {A₀ : Around} {base h₀ : Heap} {L : Addr} {m : Str → Option Value} {news : List (Addr × Obj)} {s : Shared} {Q E : Value → Shared → Prop}
noncomputable def figGo (l : List Int) : Option Int := l.foldl (fun a c => a.bind fun f => (hv c).map fun v => f * 16 + v) (some 0)
theorem figGo_snoc (l : List Int) (c : Int) : figGo (l ++ [c]) = (figGo l).bind fun f => (hv c).map fun v => f * 16 + v := by
  unfold figGo
  rw [List.foldl_append]
  rfl
noncomputable def figures (l : List Int) : Option Int := if 1 ≤ l.length ∧ l.length ≤ 4 then figGo l else none
theorem fig_turn {pre : List Int} {f n i : Int} (h : figGo pre = some f) (h0 : 0 ≤ f) (h1 : f < 16 ^ pre.length) (h2 : hv n = some i) : figGo (pre ++ [n]) = some (f * 16 + i) ∧ 0 ≤ f * 16 + i ∧ f * 16 + i < 16 ^ (pre ++ [n]).length := by
  have hi := hv_in h2
  refine ⟨by rw [figGo_snoc, h, Option.bind_some, h2]; rfl, by omega, ?_⟩
  rw [List.length_append, List.length_singleton, Int.pow_succ]
  omega
theorem fold_none (l : List Int) : l.foldl (fun a c => a.bind fun f => (hv c).map fun v => f * 16 + v) none = none := by
  induction l with
  | nil => rfl
  | cons c r ih => exact ih
theorem fig_none {pre post l : List Int} {f n : Int} (_h : figGo pre = some f) (h2 : hv n = none) (e : l = pre ++ n :: post) : figures l = none := by
  subst e
  unfold figures
  split
  · have e : pre ++ n :: post = pre ++ [n] ++ post := by simp
    rw [e]
    unfold figGo
    rw [List.foldl_append]
    have := figGo_snoc pre n
    rw [_h, Option.bind_some, h2] at this
    unfold figGo at this
    rw [this]
    exact fold_none _
  · rfl
theorem bints_len (b : Array UInt8) : (KBw.bInts b).length = b.size := KBw.ints_length b
theorem fig_some {b : Array UInt8} {f : Int} (h1 : (1 : Int) ≤ (b.size : Int)) (h4 : (b.size : Int) ≤ 4) (h : figGo (KBw.bInts b) = some f) : figures (KBw.bInts b) = some f := by
  unfold figures
  rw [if_pos (by rw [bints_len]; omega), h]
theorem fig_out {b : Array UInt8} (h : ¬ ((1 : Int) ≤ (b.size : Int) ∧ (b.size : Int) ≤ 4)) : figures (KBw.bInts b) = none := by
  unfold figures
  rw [if_neg (by rw [bints_len]; omega)]
theorem c_figures
   (B : Below A₀ base outer h₀) (F : Fr h₀ L s.heap m) (X : (Mine.hd.heap_39 w.params).In h₀) (N : News h₀ L s.heap news) (T : Top Mine.hd.view_39 (looseW Mine.hd.view_39 []) mean mg mb h₀) (hk : cs.kind = .function)
   (hdp : dp + 2 < recursionLimit) (hun : un + 16 < cLine)
   {b : Array UInt8} {t : Tok} (hb : b.size ≤ 64)
   (hsome : ∀ (i : Int) (t : Tok) (h' : Heap) (tk' : Nat), figures (KBw.bInts b) = some i → Fr h₀ L h' m → News h₀ L h' news → Q (.int i t) { s with heap := h', toks := tk' })
   (hnone : ∀ (h' : Heap) (tk' : Nat), figures (KBw.bInts b) = none → Fr h₀ L h' m → News h₀ L h' news → Q .none { s with heap := h', toks := tk' }) :
   wpAny (model PySem.Challenge.rw_og0237_01.row.prog w) (ktrTop dp un gd cn cs L a ccd cl outer) (call (.ref 48) [.bytes b t]) Q E s := by
  refine wpAny_call ?_
  revert X; k_fill; intro X
  k_dflt (refine' code_own (own := []) (rest := news) ?k1 ?k2 ?k3 ?k4 ?kr ?ko ?k5 ?kA ?kF ?kK ?k6 ?k7 ?k8 ?k9 ?kB ?_ ?c2 ?c3 ?c4 ?c5; (case kA => exact rfl); (case kF => exact rfl); (case kK => assumption); (case k1 => exact B); (case k2 => exact F); (case k3 => exact X); (case k4 => exact News.nil); (case kr => exact N); (case ko => exact fun _ _ _ h => nomatch h); (case k5 => exact T); (case k6 => k_is); (case k7 => k_is); (case k8 => first | exact dp_ok 0 hdp rfl | exact dp_ok 1 hdp rfl | exact dp_ok 2 hdp rfl | exact dp_ok 3 hdp rfl | ktr_room); (case k9 => exact BindsTo.of_eq rfl); (case c5 => decide); (case kB => exact locs rfl); (case c2 => exact rfl); (case c3 => exact rfl); (case c4 => exact rfl); k_whole)
  intro g' L' h' FG' F' N' B' X' T' R' S'
  (try dsimp only)
  (try k_fold)
  (k_with "state" => first | exact ⟨rfl, by decide, by decide⟩ | exact fig_turn (by assumption) (by assumption) (by assumption) (by assumption))
  repeat' (first
    | (k_unfold; (try dsimp only))
    | ((with_reducible show wpAny _ _ (execs (_ :: _) _) _ _ _); (try k_gentoks); (try k_fold); (try dsimp only); refine (let A9 : Around := _; (?_ : wpAny _ A9 _ _ _ _)); (with_reducible rename News _ _ _ _ => kN); (with_reducible rename Fr _ _ _ _ => kF); refine wpAny_execs_cons ?_; (try dsimp only))
    | ((with_reducible show wpAny _ _ (call (Value.ref _) _) _ _ _); first | (k_here; (with_reducible show wpAny _ _ (call (Value.ref 21) [_]) _ _ _); k_dflt (refine' c_hex ?k0z1 ?k1z1 ?k2z1 ?k3z1 ?k4z1 ?k5z1 ?k6z1 ?k7z1 ?p0z1 ?p1z1 ?_ ?_; (case k0z1 => k_asm); (case k1z1 => k_asm); (case k2z1 => k_asm); (case k3z1 => k_asm); (case k4z1 => k_asm); (case k5z1 => first | exact rfl | assumption); (case k6z1 => first | exact dp_ok 0 hdp rfl | exact dp_ok 1 hdp rfl | exact dp_ok 2 hdp rfl | exact dp_ok 3 hdp rfl | ktr_room); (case k7z1 => first | exact un_ok hun rfl | exact un_ok0 hun rfl | ktr_units); (case p0z1 => omega); (case p1z1 => omega);  k_whole); (first | (intro i9 t9 h9 tk9 e9 F9 N9) | (intro h9 tk9 e9 F9 N9)); (try dsimp only); (try k_fold)))
    | ((with_reducible show wpAny _ _ (pyIter (Value.bytes _ _)) _ _ _); k_state (fun pre found => figGo pre = some found ∧ 0 ≤ found ∧ found < 16 ^ pre.length) "found")
    | (walk1; all_goals (try dsimp only))
    | (dsimp only; walk1)
    | (leave1; (try dsimp only)))
  · exact hnone _ _ (fig_none (by assumption) (by assumption) (by assumption)) (by k_asm) (by k_asm)
  · exact hsome _ _ _ _ (fig_some (by assumption) (by assumption) (by assumption)) (by k_asm) (by k_asm)
  all_goals exact hnone _ _ (fig_out (by omega)) (by k_asm) (by k_asm)

end Mine
end

section -- Sp
open PySem PySem.Spec PySem.Calls PySem.W PyProof.Rows
set_option linter.unusedVariables false
set_option maxRecDepth 100000
set_option maxHeartbeats 8000000
namespace Mine
open Builtin
theorem slot_bytes_split : Slot "bytes" "split" "bytes.split" :=
  .of (owner := "bytes") (n := "split") (by rw [typeLookup_type, builtinLookup_eq_fast]; kernel_rfl) (by decide +kernel) (by decide +kernel) (by decide +kernel)
    (by first | exact .inl (by decide +kernel) | exact .inr (by decide +kernel)) (by rw [isSubtype_type]; kernel_rfl)
theorem type_bytes_split : typeOf (.builtin "bytes.split") = pure (.type "method_descriptor") := by show builtinType _ = _; rw [builtinType_eq_fast]; kernel_rfl
theorem entry_bytes_split : entryFor table "bytes.split" = some Builtin.«bytes.split» := by first | exact entryFor_of_fast (by kernel_rfl) | exact entryFor_of_tree (by kernel_rfl)
theorem args_bytes_split_2 (a b : Value) : argsOk "bytes.split" ⟨[a, b], []⟩ := by
  unfold argsOk; first | kernel_rfl | (rw [signature?_of (id := "bytes.split") (n := ['t', 'i', 'l', 'p', 's']) (o := ['s', 'e', 't', 'y', 'b']) (by kernel_rfl) FB.owner_bytes]; kernel_rfl)
noncomputable def bytesFrom : Tok → List (Array UInt8) → List Value
  | _, [] => []
  | t, b :: r => .bytes b t :: bytesFrom (t + 1) r
theorem bytesFrom_length : ∀ (t : Tok) (l : List (Array UInt8)), (bytesFrom t l).length = l.length
  | _, [] => rfl
  | t, _ :: r => by rw [bytesFrom, List.length_cons, List.length_cons, bytesFrom_length (t + 1) r]
theorem mapM_mkBytes {M : Model} {A : Around} {E : Value → Shared → Prop} : ∀ (xs : List (Array UInt8)) (s : Shared) (Q : List Value → Shared → Prop), (∀ x ∈ xs, x.size ≤ sizeLine) → Q (bytesFrom s.toks xs) { s with toks := s.toks + xs.length } → wpAny M A (xs.mapM mkBytes) Q E s
  | [], s, Q, _, h => by rw [List.mapM_nil]; exact wpAny_pure h
  | x :: r, s, Q, hx, h => by
    rw [List.mapM_cons]
    refine wpAny_bind (wpAny_mkBytes (wpAny_bind (mapM_mkBytes r _ _ (fun y hy => hx y (List.mem_cons_of_mem _ hy)) (wpAny_pure ?_))) (hx x (List.mem_cons_self ..)))
    have e : s.toks + 1 + r.length = s.toks + (x :: r).length := by simp [Nat.add_comm, Nat.add_left_comm]
    show Q (.bytes x s.toks :: bytesFrom (s.toks + 1) r) { s with toks := s.toks + 1 + r.length }
    rw [e]; exact h
/-- the parts of bytes between its slashes -/
noncomputable def splitB (b : Array UInt8) : List (Array UInt8) :=
  if ((Bytes.occurrences b #[47] 0 b.size).take (b.size + 1)).isEmpty then [b] else Bytes.between b 1 ((Bytes.occurrences b #[47] 0 b.size).take (b.size + 1))
theorem meets_split (b : Array UInt8) (t u : Tok) (hz : ∀ p ∈ splitB b, p.size ≤ sizeLine) (hn : (splitB b).length ≤ sizeLine) :
    Meets («bytes.split» ⟨[.bytes b t, .bytes #[47] u], []⟩) (fun _ R s => ∀ tk tk', R (.ok (.ret (.ref s.heap.objs.size))) { s with toks := tk', heap := s.heap.push { cls := .type "list", data := .seq (bytesFrom tk (splitB b)).toArray } }) := by
  refine .of_wp fun prog w A R s h => ?_
  show wpAny _ _ (Bytes.splitM .bytes "split" false ⟨[.bytes b t, .bytes #[47] u], []⟩) _ _ s
  unfold Bytes.splitM
  dsimp only
  refine wpAny_bind (wpAny_of_eq (a := [some (.bytes #[47] u), none]) (by kernel_rfl) ?_)
  dsimp only
  refine wpAny_bind (wpAny_pure ?_)
  refine wpAny_bind (wpAny_of_eq (a := b) rfl ?_)
  refine wpAny_bind (wpAny_of_eq KBd.like_eq ?_)
  refine wpAny_ite (KBy.ite_no (show ¬ ((#[47] : Array UInt8).isEmpty = true) by decide) ?_)
  unfold splitB at h hz hn
  show wpAny _ _ (if ((Bytes.occurrences b #[47] 0 b.size).take (b.size + 1)).isEmpty = true then _ else _) _ _ s
  by_cases hc : ((Bytes.occurrences b #[47] 0 b.size).take (b.size + 1)).isEmpty = true
  · rw [if_pos hc] at h ⊢
    refine wpAny_bind (wpAny_rule ?_)
    refine wpAny_bind ?_
    refine wpAny_mono (Q := fun v s' => v = .bytes b t ∧ s' = s) ?_ ?_ (fun _ _ e => e)
    · show wpAny _ _ (typeOf (.bytes b t) >>= fun r => _) _ _ s
      refine wpAny_bind (wpAny_typeOf (typeIs_bytes s b t) ?_)
      exact wpAny_pure ⟨rfl, rfl⟩
    · rintro v s' ⟨rfl, rfl⟩
      exact wpAny_bind (wpAny_newList (wpAny_pure ⟨_, rfl, h t s'.toks⟩))
  · rw [if_neg hc] at h hz hn ⊢
    refine wpAny_bind (mapM_mkBytes _ s _ hz ?_)
    refine wpAny_bind (wpAny_newList (wpAny_pure ⟨_, rfl, h _ _⟩) ?_)
    rw [bytesFrom_length]
    exact hn
section
variable {prog : Program} {w : World} {A : Around} {E : Value → Shared → Prop} {s : Shared} {h₀ : Heap} {L : Addr} {m : Str → Option Value} {news : List (Addr × Obj)} {b : Array UInt8} {t u : Tok}
theorem split_method {M : Model} {pl : Sem Bool} {Q : Value × List Value → Shared → Prop} (h : Q (.builtin "bytes.split", [.bytes b t]) s) : wpAny M A (getMethod (.bytes b t) (Str.ofString "split") pl) Q E s := by
  with_reducible exact KBd.method_of (.bytes b t) (typeIs_bytes _ _ _) slot_bytes_split type_bytes_split KBd.noRef h
theorem split_call {Q : Value → Shared → Prop} (F : Fr h₀ L s.heap m) (N : News h₀ L s.heap news) (hz : ∀ p ∈ splitB b, p.size ≤ sizeLine) (hn : (splitB b).length ≤ sizeLine)
    (h : ∀ (D : Addr) (h' : Heap) (tk tk' : Nat), Fr h₀ L h' m → News h₀ L h' ((D, ({ cls := .type "list", data := .seq (bytesFrom tk (splitB b)).toArray } : Obj)) :: news) → (∀ p ∈ news, p.1 < D) → Q (.ref D) { s with heap := h', toks := tk' }) :
    wpAny (model prog w) A (call (.builtin "bytes.split") [.bytes b t, .bytes #[47] u]) Q E s :=
  call_meets slot_bytes_split (typeIs_bytes _ _ _) entry_bytes_split (args_bytes_split_2 _ _) (meets_split b t u hz hn)
    fun tk tk' => h _ _ tk tk' (F.push _) (News.push F N _) fun p hp => Heap.lt_size (N p hp).1
end
-- the plain law of the parts
noncomputable def splGo (acc : List (List Int) × List Int) (c : Int) : List (List Int) × List Int := if c = 47 then (acc.1 ++ [acc.2], []) else (acc.1, acc.2 ++ [c])
noncomputable def spl (l : List Int) : List (List Int) := (l.foldl splGo ([], [])).1 ++ [(l.foldl splGo ([], [])).2]
noncomputable def occStep (b : Array UInt8) (acc : List Nat × Nat) (i : Nat) : List Nat × Nat := if i ≥ acc.2 && b.extract i (i + 1) == #[47] then (i :: acc.1, i + 1) else acc
noncomputable def btwStep (b : Array UInt8) (p : Array (Array UInt8) × Nat) (i : Nat) : Array (Array UInt8) × Nat := (p.1.push (b.extract p.2 i), i + 1)
theorem occ_is (b : Array UInt8) : Bytes.occurrences b #[47] 0 b.size = ((List.range b.size).foldl (occStep b) ([], 0)).1.reverse := by
  unfold Bytes.occurrences
  have e : b.size + 1 - (0 + (#[47] : Array UInt8).size) = b.size := by show b.size + 1 - (0 + 1) = b.size; omega
  rw [e]
  have e2 : (List.range b.size).map (· + 0) = List.range b.size := by simp
  rw [e2]
  rfl
theorem btw_is (b : Array UInt8) (l : List Nat) : Bytes.between b 1 l = ((l.foldl (btwStep b) (#[], 0)).1.push (b.extract (l.foldl (btwStep b) (#[], 0)).2 b.size)).toList := rfl
theorem spl_inv (b : Array UInt8) : ∀ k : Nat, k ≤ b.size →
    (∀ p ∈ ((List.range k).foldl (occStep b) ([], 0)).1, p < k) ∧ ((List.range k).foldl (occStep b) ([], 0)).2 ≤ k ∧ ((List.range k).foldl (occStep b) ([], 0)).1.length ≤ k ∧
    ((((List.range k).foldl (occStep b) ([], 0)).1.reverse.foldl (btwStep b) (#[], 0)).1.toList.map KBw.bInts = (((KBw.bInts b).take k).foldl splGo ([], [])).1) ∧
    ((((List.range k).foldl (occStep b) ([], 0)).1.reverse.foldl (btwStep b) (#[], 0)).2 ≤ k) ∧
    (KBw.bInts (b.extract (((List.range k).foldl (occStep b) ([], 0)).1.reverse.foldl (btwStep b) (#[], 0)).2 k) = (((KBw.bInts b).take k).foldl splGo ([], [])).2) := by
  intro k
  induction k with
  | zero => 
    intro _
    refine ⟨fun p hp => (nomatch hp), Nat.le_refl _, Nat.le_refl _, rfl, Nat.le_refl _, ?_⟩
    simp [KBw.bInts]
  | succ k ih =>
    intro hk
    obtain ⟨i1, i2, i3, i4, i5, i6⟩ := ih (by omega)
    have hlt : k < b.size := by omega
    have er : List.range (k + 1) = List.range k ++ [k] := List.range_succ
    have et : (KBw.bInts b).take (k + 1) = (KBw.bInts b).take k ++ [((b[k]).toNat : Int)] := by
      have := KBw.ints_get (b := b) (i := k) (c := b[k]) (by simp [hlt])
      rw [List.take_add_one, this]
      rfl
    rw [er, et]
    simp only [List.foldl_append, List.foldl_cons, List.foldl_nil]
    generalize (List.range k).foldl (occStep b) ([], 0) = O at *
    generalize ((KBw.bInts b).take k).foldl splGo ([], []) = S at *
    have ex : b.extract k (k + 1) = #[b[k]] := by
      apply Array.ext
      · simp; omega
      · intro i h1 h2
        simp at h2
        subst h2
        simp
    have hx : ∀ l, l ≤ k → KBw.bInts (b.extract l (k + 1)) = KBw.bInts (b.extract l k) ++ [((b[k]).toNat : Int)] := by
      intro l hl
      have : b.extract l (k + 1) = b.extract l k ++ b.extract k (k + 1) := by rw [Array.extract_append_extract]; congr 1 <;> omega
      rw [this, KBw.ints_app rfl rfl, ex]
      rfl
    by_cases h47 : b[k] = 47
    · have eo : occStep b O k = (k :: O.1, k + 1) := by
        unfold occStep
        rw [ex, h47]
        simp [i2]
      have es : splGo S ((b[k]).toNat : Int) = (S.1 ++ [S.2], []) := by
        unfold splGo
        rw [h47]
        rfl
      rw [eo, es]
      simp only [List.reverse_cons, List.foldl_append, List.foldl_cons, List.foldl_nil]
      generalize O.1.reverse.foldl (btwStep b) (#[], 0) = W at *
      refine ⟨?_, Nat.le_refl _, by simpa using i3, ?_, Nat.le_refl _, ?_⟩
      · intro p hp
        rcases List.mem_cons.mp hp with rfl | hp
        · omega
        · have := i1 p hp; omega
      · show (W.1.push (b.extract W.2 k)).toList.map KBw.bInts = _
        rw [Array.toList_push, List.map_append, i4, List.map_singleton, i6]
      · show KBw.bInts (b.extract (k + 1) (k + 1)) = []
        simp [KBw.bInts]
    · have eo : occStep b O k = O := by
        unfold occStep
        rw [ex]
        simp [h47]
      have es : splGo S ((b[k]).toNat : Int) = (S.1, S.2 ++ [((b[k]).toNat : Int)]) := by
        unfold splGo
        rw [if_neg]
        intro h
        apply h47
        apply UInt8.toNat_inj.mp
        have : (b[k]).toNat = 47 := by omega
        rw [this]
        rfl
      rw [eo, es]
      generalize O.1.reverse.foldl (btwStep b) (#[], 0) = W at *
      exact ⟨fun p hp => by have := i1 p hp; omega, by omega, by omega, i4, by omega, by rw [hx _ i5, i6]⟩
theorem split_is (b : Array UInt8) : (splitB b).map KBw.bInts = spl (KBw.bInts b) := by
  obtain ⟨i1, i2, i3, i4, i5, i6⟩ := spl_inv b b.size (Nat.le_refl _)
  have ek : (KBw.bInts b).take b.size = KBw.bInts b := by rw [List.take_of_length_le]; rw [KBw.ints_length]; exact Nat.le_refl _
  rw [ek] at i4 i6
  have et : (Bytes.occurrences b #[47] 0 b.size).take (b.size + 1) = ((List.range b.size).foldl (occStep b) ([], 0)).1.reverse := by
    rw [occ_is, List.take_of_length_le]
    rw [List.length_reverse]
    omega
  unfold splitB
  rw [et]
  generalize ((List.range b.size).foldl (occStep b) ([], 0)) = O at *
  by_cases hc : O.1.reverse.isEmpty = true
  · rw [if_pos hc]
    have e0 : O.1.reverse = [] := List.isEmpty_iff.mp hc
    rw [e0] at i4 i6
    unfold spl
    rw [← i4, ← i6]
    simp
  · rw [if_neg hc, btw_is, Array.toList_push, List.map_append, i4, List.map_singleton, i6]
    rfl
end Mine
end

section -- Sp2
open PySem PySem.Spec PySem.Calls PySem.W PyProof.Rows PyProof.V
set_option linter.unusedVariables false
set_option maxRecDepth 100000
set_option maxHeartbeats 8000000
namespace Mine
theorem spl_fold : ∀ (l : List Int) (acc : List (List Int) × List Int), (l.foldl splGo acc).1.length ≤ acc.1.length + l.length ∧
    ∀ N : Nat, (∀ q ∈ acc.1, q.length ≤ N) → acc.2.length + l.length ≤ N → (∀ q ∈ (l.foldl splGo acc).1, q.length ≤ N) ∧ (l.foldl splGo acc).2.length ≤ N
  | [], acc => ⟨Nat.le_refl _, fun N h1 h2 => ⟨h1, by simpa using h2⟩⟩
  | c :: r, acc => by
    obtain ⟨a, b⟩ := spl_fold r (splGo acc c)
    rw [List.foldl_cons]
    by_cases h : c = 47
    · have e : splGo acc c = (acc.1 ++ [acc.2], []) := by unfold splGo; rw [if_pos h]
      rw [e] at a b ⊢
      refine ⟨by simp at a ⊢; omega, fun N h1 h2 => ?_⟩
      simp only [List.length_cons] at h2
      refine b N (fun q hq => ?_) (by simp; omega)
      rcases List.mem_append.mp hq with hq | hq
      · exact h1 q hq
      · rw [List.mem_singleton.mp hq]; omega
    · have e : splGo acc c = (acc.1, acc.2 ++ [c]) := by unfold splGo; rw [if_neg h]
      rw [e] at a b ⊢
      refine ⟨by simp at a ⊢; omega, fun N h1 h2 => ?_⟩
      simp only [List.length_cons] at h2
      exact b N h1 (by simp; omega)
theorem spl_lens (l : List Int) : (spl l).length ≤ l.length + 1 ∧ ∀ q ∈ spl l, q.length ≤ l.length := by
  obtain ⟨a, b⟩ := spl_fold l ([], [])
  obtain ⟨c, d⟩ := b l.length (fun q hq => nomatch hq) (by simp)
  unfold spl
  refine ⟨by simp at a ⊢; omega, fun q hq => ?_⟩
  rcases List.mem_append.mp hq with hq | hq
  · exact c q hq
  · rw [List.mem_singleton.mp hq]; exact d
theorem split_lens (b : Array UInt8) : (splitB b).length ≤ b.size + 1 ∧ ∀ p ∈ splitB b, p.size ≤ b.size := by
  have e := split_is b
  obtain ⟨h1, h2⟩ := spl_lens (KBw.bInts b)
  rw [KBw.ints_length] at h1 h2
  rw [← e] at h1 h2
  refine ⟨by simpa using h1, fun p hp => ?_⟩
  have := h2 (KBw.bInts p) (List.mem_map_of_mem hp)
  rw [KBw.ints_length] at this
  exact this
theorem split_sz {b : Array UInt8} (h : b.size ≤ 1024) : ∀ p ∈ splitB b, p.size ≤ sizeLine := fun p hp => by
  have := (split_lens b).2 p hp
  rw [sizeLine_eq]; omega
theorem split_ln {b : Array UInt8} (h : b.size ≤ 1024) : (splitB b).length ≤ sizeLine := by
  have := (split_lens b).1
  rw [sizeLine_eq]; omega
end Mine
namespace Mine
theorem bytes_inj {a b : Array UInt8} (h : KBw.bInts a = KBw.bInts b) : a = b := by
  apply Array.toList_inj.mp
  unfold KBw.bInts at h
  generalize a.toList = x at h
  generalize b.toList = y at h
  induction x generalizing y with
  | nil => cases y with
    | nil => rfl
    | cons c r => cases h
  | cons c r ih => cases y with
    | nil => cases h
    | cons d q =>
      simp only [List.map_cons, List.cons.injEq] at h
      rw [ih q h.2]
      have : c.toNat = d.toNat := by omega
      rw [UInt8.toNat_inj.mp this]
theorem beq_bints (a b : Array UInt8) : (a.toList == b.toList) = decide (KBw.bInts a = KBw.bInts b) := by
  rw [Bool.eq_iff_iff]
  simp only [beq_iff_eq, decide_eq_true_eq]
  constructor
  · intro h; unfold KBw.bInts; rw [h]
  · intro h; rw [bytes_inj h]
section
variable {prog : Program} {w : World} {A : Around} {E : Value → Shared → Prop} {s : Shared} {h₀ : Heap} {L : Addr} {m : Str → Option Value} {news : List (Addr × Obj)} {b c : Array UInt8} {t u : Tok}
theorem eq_bytesI {Q : Value → Shared → Prop} (h : Q (.bool (decide (KBw.bInts b = KBw.bInts c))) s) : wpAny (model prog w) A (compareOp .Eq (.bytes b t) (.bytes c u)) Q E s :=
  eq_bytes (by rw [beq_bints]; exact h)
theorem ne_bytesI {Q : Value → Shared → Prop} (h : Q (.bool (!decide (KBw.bInts b = KBw.bInts c))) s) : wpAny (model prog w) A (compareOp .NotEq (.bytes b t) (.bytes c u)) Q E s :=
  ne_bytes (by rw [bne, beq_bints]; exact h)
theorem split_call3 {Q : Value → Shared → Prop} (F : Fr h₀ L s.heap m) (N : News h₀ L s.heap news) (hb : b.size ≤ 1024)
    (h3 : ∀ (D : Addr) (h' : Heap) (a1 a2 a3 : Array UInt8) (t1 t2 t3 : Tok) (n : Nat) (tk' : Nat), spl (KBw.bInts b) = [KBw.bInts a1, KBw.bInts a2, KBw.bInts a3] → a1.size ≤ b.size → a2.size ≤ b.size → a3.size ≤ b.size → Fr h₀ L h' m →
      News h₀ L h' ((D, ({ cls := .type "list", data := .seq #[.bytes a1 t1, .bytes a2 t2, .bytes a3 t3] n } : Obj)) :: news) → (∀ p ∈ news, p.1 < D) → Q (.ref D) { s with heap := h', toks := tk' })
    (hn : ∀ (D : Addr) (h' : Heap) (vs : List Value) (tk' : Nat), vs.length ≠ 3 → (spl (KBw.bInts b)).length ≠ 3 → vs.length ≤ 2000 → Fr h₀ L h' m →
      News h₀ L h' ((D, W.listOf vs.toArray 0) :: news) → (∀ p ∈ news, p.1 < D) → Q (.ref D) { s with heap := h', toks := tk' }) :
    wpAny (model prog w) A (call (.builtin "bytes.split") [.bytes b t, .bytes #[47] u]) Q E s := by
  refine split_call F N (split_sz hb) (split_ln hb) fun D h' tk tk' F' N' l1 => ?_
  have e := split_is b
  obtain ⟨hl, hs⟩ := split_lens b
  by_cases h : (splitB b).length = 3
  · match hx : splitB b, h with
    | [a1, a2, a3], _ =>
      rw [hx] at e N' hs
      exact h3 D h' a1 a2 a3 _ _ _ _ tk' e.symm (hs _ (.head _)) (hs _ (.tail _ (.head _))) (hs _ (.tail _ (.tail _ (.head _)))) F' N' l1
  · refine hn D h' (bytesFrom tk (splitB b)) tk' (by rw [bytesFrom_length]; exact h) (by rw [← e, List.length_map]; exact h) (by rw [bytesFrom_length]; omega) F' N' l1
end
end Mine
namespace Mine
section
variable {prog : Program} {w : World} {A : Around} {E : Value → Shared → Prop} {s : Shared} {value slice : PySem.Expr} {b : Array UInt8} {t u : Tok} {h₀ : Heap} {L : Addr} {m : PySem.Str → Option Value} {news : List (Addr × Obj)} {Q : Value → Shared → Prop}
theorem slice_to (k : Nat) {i : Int} (hi : i = (k : Int)) (hF : Fr h₀ L s.heap m) (hN : News h₀ L s.heap news) (hz : b.size ≤ 1024)
    (h : ∀ b' h' t' tk', Fr h₀ L h' m → News h₀ L h' news → KBw.bInts b' = (KBw.bInts b).take k → b'.size ≤ b.size → Q (.bytes b' t') { s with heap := h', toks := tk' })
    (hs : subscripted slice false (.bytes b t) (.ref s.heap.objs.size) = operate [.ref s.heap.objs.size, .bytes b t] (getItem (.bytes b t) (.ref s.heap.objs.size)))
    (ht : ∀ r, letTemporaryGo value (.bytes b t) r = pure ()) :
    wpAny (model prog w) A (subscriptTail value slice (.bytes b t) (.ref s.heap.objs.size)) Q E { s with heap := s.heap.push { cls := .type "slice", data := .fields #[.none, .int i u, .none] } } := by
  refine KBc.slice_K (lo := none) (hi := some i) (ks := KBw.bInts b) hF hN rfl (by constructor) (by constructor) (KBw.ints_length b ▸ Nat.le_trans hz (by decide)) (fun h' t' tk' F' N' e => h _ h' t' tk' F' N' ?_ (KBc.size_picked_le _ _ _)) hs ht
  rw [e, hi]
  show List.take (clipAt _ (k : Int) - 0) (List.drop 0 _) = _
  rw [clipAt_nat, List.drop_zero, Nat.sub_zero]
  by_cases hk : k ≤ (KBw.bInts b).length
  · rw [Nat.min_eq_left hk]
  · rw [Nat.min_eq_right (Nat.le_of_not_le hk), List.take_of_length_le (Nat.le_refl _), List.take_of_length_le (Nat.le_of_not_le hk)]
theorem slice_from (k : Nat) {i : Int} (hi : i = (k : Int)) (hF : Fr h₀ L s.heap m) (hN : News h₀ L s.heap news) (hz : b.size ≤ 1024)
    (h : ∀ b' h' t' tk', Fr h₀ L h' m → News h₀ L h' news → KBw.bInts b' = (KBw.bInts b).drop k → b'.size ≤ b.size → Q (.bytes b' t') { s with heap := h', toks := tk' })
    (hs : subscripted slice false (.bytes b t) (.ref s.heap.objs.size) = operate [.ref s.heap.objs.size, .bytes b t] (getItem (.bytes b t) (.ref s.heap.objs.size)))
    (ht : ∀ r, letTemporaryGo value (.bytes b t) r = pure ()) :
    wpAny (model prog w) A (subscriptTail value slice (.bytes b t) (.ref s.heap.objs.size)) Q E { s with heap := s.heap.push { cls := .type "slice", data := .fields #[.int i u, .none, .none] } } := by
  refine KBc.slice_K (lo := some i) (hi := none) (ks := KBw.bInts b) hF hN rfl (by constructor) (by constructor) (KBw.ints_length b ▸ Nat.le_trans hz (by decide)) (fun h' t' tk' F' N' e => h _ h' t' tk' F' N' ?_ (KBc.size_picked_le _ _ _)) hs ht
  rw [e, hi]
  show List.take (_ - clipAt _ (k : Int)) (List.drop (clipAt _ (k : Int)) _) = _
  rw [clipAt_nat]
  by_cases hk : k ≤ (KBw.bInts b).length
  · rw [Nat.min_eq_left hk, List.take_of_length_le (by rw [List.length_drop]; exact Nat.le_refl _)]
  · rw [Nat.min_eq_right (Nat.le_of_not_le hk), List.drop_of_length_le (Nat.le_refl _), List.drop_of_length_le (Nat.le_of_not_le hk), List.take_nil]
theorem slice_last {i : Int} (hi : i = -1) (hF : Fr h₀ L s.heap m) (hN : News h₀ L s.heap news) (hz : b.size ≤ 1024)
    (h : ∀ b' h' t' tk', Fr h₀ L h' m → News h₀ L h' news → KBw.bInts b' = (KBw.bInts b).dropLast → b'.size ≤ b.size → Q (.bytes b' t') { s with heap := h', toks := tk' })
    (hs : subscripted slice false (.bytes b t) (.ref s.heap.objs.size) = operate [.ref s.heap.objs.size, .bytes b t] (getItem (.bytes b t) (.ref s.heap.objs.size)))
    (ht : ∀ r, letTemporaryGo value (.bytes b t) r = pure ()) :
    wpAny (model prog w) A (subscriptTail value slice (.bytes b t) (.ref s.heap.objs.size)) Q E { s with heap := s.heap.push { cls := .type "slice", data := .fields #[.none, .int i u, .none] } } := by
  refine KBc.slice_K (lo := none) (hi := some i) (ks := KBw.bInts b) hF hN rfl (by constructor) (by constructor) (KBw.ints_length b ▸ Nat.le_trans hz (by decide)) (fun h' t' tk' F' N' e => h _ h' t' tk' F' N' ?_ (KBc.size_picked_le _ _ _)) hs ht
  rw [e, hi]
  show List.take (clipAt _ (-1) - 0) (List.drop 0 _) = _
  rw [List.drop_zero, Nat.sub_zero, List.dropLast_eq_take]
  congr 1
  unfold clipAt
  generalize (KBw.bInts b).length = n
  rw [if_pos (by decide)]
  cases n with
  | zero => rfl
  | succ k =>
    have e : -1 + ((k + 1 : Nat) : Int) = (k : Int) := by omega
    rw [e, Int.min_eq_left (Int.ofNat_le.mpr (Nat.le_succ k)), Int.max_eq_right (Int.natCast_nonneg k)]
    rfl
end
end Mine
namespace Mine
section
variable {prog : Program} {w : World} {A : Around} {E : Value → Shared → Prop} {s : Shared} {h₀ : Heap} {L D : Addr} {m : Str → Option Value} {news : List (Addr × Obj)}
theorem len_vs {vs : List Value} {n : Nat} {Q : Value → Shared → Prop} (N : News h₀ L s.heap news) (hm : (D, W.listOf vs.toArray n) ∈ news) (hl : vs.length ≤ 2000) (h : ∀ tk tk', Q (.int (vs.length : Int) tk) { s with toks := tk' }) :
    wpAny (model prog w) A (call (.builtin "len") [.ref D]) Q E s := by
  refine PySem.Calls.call_len_list (News.isList N hm) (by rw [List.size_toArray]; omega) ?_
  rw [List.size_toArray]
  exact h _ _
end
end Mine
end

section -- Jn
open PySem PySem.Spec PySem.Calls PySem.W PyProof.Rows
set_option linter.unusedVariables false
set_option maxRecDepth 100000
set_option maxHeartbeats 8000000
namespace Mine
open Builtin
theorem slot_bytes_join : Slot "bytes" "join" "bytes.join" :=
  .of (owner := "bytes") (n := "join") (by rw [typeLookup_type, builtinLookup_eq_fast]; kernel_rfl) (by decide +kernel) (by decide +kernel) (by decide +kernel)
    (by first | exact .inl (by decide +kernel) | exact .inr (by decide +kernel)) (by rw [isSubtype_type]; kernel_rfl)
theorem type_bytes_join : typeOf (.builtin "bytes.join") = pure (.type "method_descriptor") := by show builtinType _ = _; rw [builtinType_eq_fast]; kernel_rfl
theorem entry_bytes_join : entryFor table "bytes.join" = some Builtin.«bytes.join» := by first | exact entryFor_of_fast (by kernel_rfl) | exact entryFor_of_tree (by kernel_rfl)
theorem args_bytes_join_2 (a b : Value) : argsOk "bytes.join" ⟨[a, b], []⟩ := by
  unfold argsOk; first | kernel_rfl | (rw [signature?_of (id := "bytes.join") (n := ['n', 'i', 'o', 'j']) (o := ['s', 'e', 't', 'y', 'b']) (by kernel_rfl) FB.owner_bytes]; kernel_rfl)
theorem buffer_full {id : String} {f : Bool} {b : Array UInt8} {t : Tok} : Bytes.buffer? id (.bytes b t) f = pure (some b) := by
  unfold Bytes.buffer?
  rw [KBy.special_eq KBy.look_buffer, KBy.own_buffer, KBy.own_release]
  kernel_rfl
theorem take_eq {id : String} {b : Array UInt8} {t : Tok} : Bytes.takeBufferQuiet? id (.bytes b t) 0 = pure (some (b, none)) := by
  unfold Bytes.takeBufferQuiet? Bytes.takeBuffer?
  rw [KBy.special_eq KBy.look_buffer, KBy.own_buffer]
  simp only [buffer_full]
  kernel_rfl
theorem meets_join3 (sep a b c : Array UInt8) (t0 t1 t2 t3 : Tok) (l : Addr) (n : Nat) (hz : a.size + sep.size + b.size + sep.size + c.size ≤ 16777216) :
    Meets («bytes.join» ⟨[.bytes sep t0, .ref l], []⟩) (fun _ R s => s.heap.get? l = some { cls := .type "list", data := .seq #[.bytes a t1, .bytes b t2, .bytes c t3] n } ∧
      ∀ tk tk', R (.ok (.ret (.bytes (a ++ sep ++ b ++ sep ++ c) tk))) { s with toks := tk' }) := by
  refine .of_wp fun prog w A R s ⟨hl, h⟩ => ?_
  have hT : s.TypeIs (.ref l) "list" := ⟨_, hl, rfl⟩
  show wpAny _ _ (Bytes.joinM .bytes ⟨[.bytes sep t0, .ref l], []⟩) _ _ s
  unfold Bytes.joinM
  dsimp only
  refine wpAny_bind (wpAny_of_eq (a := (.bytes sep t0, .ref l)) (by kernel_rfl) ?_)
  dsimp only
  refine wpAny_bind ?_
  refine wpAny_mono (Q := fun v s' => v = .ref l ∧ s' = s) ?_ ?_ (fun _ _ e => e)
  · show wpAny _ _ (Bytes.joinItems (.ref l)) _ _ s
    unfold Bytes.joinItems
    refine wpAny_bind (wpAny_typeOf hT ?_)
    exact wpAny_pure ⟨rfl, rfl⟩
  · rintro v s' ⟨rfl, rfl⟩
    refine wpAny_bind (wpAny_seqItems hl rfl ?_)
    dsimp only
    refine wpAny_ite (KBc.ite_yes rfl ?_)
    show wpAny _ _ (forIn [:3] (#[], []) _ >>= _) _ _ s'
    rw [Std.Legacy.Range.forIn_eq_forIn_range']
    show wpAny _ _ (forIn [0, 1, 2] (#[], []) _ >>= _) _ _ s'
    simp only [List.forIn_cons, List.forIn_nil]
    refine wpAny_bind ?_
    refine wpAny_bind ?_
    refine wpAny_bind (wpAny_seqItems hl rfl ?_)
    dsimp only
    refine wpAny_ite (KBy.ite_no (fun e => Bool.false_ne_true e) ?_)
    refine wpAny_bind (wpAny_holding (wpAny_of_eq take_eq ?_))
    dsimp only
    refine wpAny_bind (wpAny_seqItems hl rfl ?_)
    dsimp only
    refine wpAny_ite (KBy.ite_no (fun e => Bool.false_ne_true e) ?_)
    refine wpAny_pure ?_
    dsimp only
    refine wpAny_bind ?_
    refine wpAny_bind (wpAny_seqItems hl rfl ?_)
    dsimp only
    refine wpAny_ite (KBy.ite_no (fun e => Bool.false_ne_true e) ?_)
    refine wpAny_bind (wpAny_holding (wpAny_of_eq take_eq ?_))
    dsimp only
    refine wpAny_bind (wpAny_seqItems hl rfl ?_)
    dsimp only
    refine wpAny_ite (KBy.ite_no (fun e => Bool.false_ne_true e) ?_)
    refine wpAny_pure ?_
    dsimp only
    refine wpAny_bind ?_
    refine wpAny_bind (wpAny_seqItems hl rfl ?_)
    dsimp only
    refine wpAny_ite (KBy.ite_no (fun e => Bool.false_ne_true e) ?_)
    refine wpAny_bind (wpAny_holding (wpAny_of_eq take_eq ?_))
    dsimp only
    refine wpAny_bind (wpAny_seqItems hl rfl ?_)
    dsimp only
    refine wpAny_ite (KBy.ite_no (fun e => Bool.false_ne_true e) ?_)
    refine wpAny_pure ?_
    dsimp only
    refine wpAny_pure ?_
    dsimp only
    refine wpAny_bind (wpAny_of_eq (a := sep) rfl ?_)
    have hs : Array.foldl (fun x1 x2 => x1 + Array.size x2) (sep.size * ((((#[].push a).push b).push c).size - 1)) (((#[].push a).push b).push c) = sep.size * 2 + a.size + b.size + c.size := rfl
    have hj : Bytes.joined sep (((#[].push a).push b).push c).toList = a ++ sep ++ b ++ sep ++ c := by
      show (#[] ++ a ++ sep ++ b ++ sep ++ c) = _
      rw [Array.empty_append]
    refine wpAny_ite (KBy.ite_no ?_ ?_)
    · rw [hs, KBy.tooLong_not (by omega)]
      exact Bool.false_ne_true
    rw [hj]
    refine wpAny_bind (wpAny_mkBytes ?_ ?_)
    · refine wpAny_bind (wpAny_holding (wpAny_point ?_))
      refine wpAny_bind ?_
      show wpAny _ _ (letGo [_] _ >>= fun _ => letGo [_] _ >>= fun _ => letGo [_] _ >>= fun _ => pure ()) _ _ _
      refine wpAny_bind ?_
      refine wpAny_bind (wpAny_holding (wpAny_point (wpAny_pure ?_)))
      refine wpAny_bind ?_
      refine wpAny_bind (wpAny_holding (wpAny_point (wpAny_pure ?_)))
      refine wpAny_bind ?_
      refine wpAny_bind (wpAny_holding (wpAny_point (wpAny_pure ?_)))
      refine wpAny_pure ?_
      exact wpAny_pure ⟨_, rfl, h _ _⟩
    · rw [sizeLine_eq]
      simp only [Array.size_append]
      omega
section
variable {prog : Program} {w : World} {A : Around} {E : Value → Shared → Prop} {s : Shared} {h₀ : Heap} {L : Addr} {m : Str → Option Value} {news : List (Addr × Obj)} {b : Array UInt8} {t u : Tok}
theorem join_method {M : Model} {pl : Sem Bool} {Q : Value × List Value → Shared → Prop} (h : Q (.builtin "bytes.join", [.bytes b t]) s) : wpAny M A (getMethod (.bytes b t) (Str.ofString "join") pl) Q E s := by
  with_reducible exact KBd.method_of (.bytes b t) (typeIs_bytes _ _ _) slot_bytes_join type_bytes_join KBd.noRef h
theorem join_call {Q : Value → Shared → Prop} {sep a b c : Array UInt8} {t0 t1 t2 t3 : Tok} {l : Addr} {n : Nat} (N : News h₀ L s.heap news) (hm : (l, ({ cls := .type "list", data := .seq #[.bytes a t1, .bytes b t2, .bytes c t3] n } : Obj)) ∈ news) (hz : a.size + sep.size + b.size + sep.size + c.size ≤ 16777216)
    (h : ∀ (tk tk' : Nat), Q (.bytes (a ++ sep ++ b ++ sep ++ c) tk) { s with toks := tk' }) :
    wpAny (model prog w) A (call (.builtin "bytes.join") [.bytes sep t0, .ref l]) Q E s :=
  call_meets slot_bytes_join (typeIs_bytes _ _ _) entry_bytes_join (args_bytes_join_2 _ _) (meets_join3 sep a b c t0 t1 t2 t3 l n hz) ⟨(N _ hm).1, h⟩
end
end Mine
end

section -- Cb
open PySem PySem.Spec PySem.Calls PySem.W PyProof.Rows
set_option linter.unusedVariables false
set_option maxRecDepth 100000
set_option maxHeartbeats 8000000
namespace Mine
open PyProof.Rows.LCg PyProof.Rows.LCt
section
variable {prog : Program} {w : World} {A : Around} {h₀ : Heap} {L : Addr} {m : Str → Option Value} {env : Env} {ct elt : Expr} {x : Str} {scope : Scope} {cl : List (Str × Addr)} {s : Shared} {S : List (Addr × Obj) → Prop} {P : Nat → Value → Prop} {Fin : List Value → List (Addr × Obj) → Prop} {news : List (Addr × Obj)}
noncomputable def TTaken (news : List (Addr × Obj)) (g : Int → Option Int) (k : Int) (y : Value) (news' : List (Addr × Obj)) : Prop := news' = news ∧ ∃ r t, g k = some r ∧ y = .int r t
noncomputable def TLeft (news : List (Addr × Obj)) (g : Int → Option Int) (k : Int) (news' : List (Addr × Obj)) : Prop := news' = news ∧ g k = none
/-- a comprehension over ints with a test, folded -/
theorem restT_fold {n : Nat} {ks : List Int} (g : Int → Option Int) (hks : ks.length = n) (hP : ∀ i v, i < n → P i v → ∃ k t, ks[i]? = some k ∧ v = .int k t)
    (turn : ∀ k t I oI C oC D m₂ ys h tk (E' : Value → Shared → Prop), k ∈ ks → NsObj oC m₂ → m₂ x = some (.int k t) → Fr h₀ L h m → News h₀ L h ((I, oI) :: (C, oC) :: (D, lst ys) :: news) → Off3 I C D news → ((@Ne Nat I C) ∧ (@Ne Nat I D) ∧ (@Ne Nat C D)) →
      wpAny (model prog w) A (isTrue ct (compEnvC scope cl C env) (eval ct (compEnvC scope cl C env))) (fun ok s' => if ok = true then
        wpAny (model prog w) A (eval elt (compEnvC scope cl C env)) (CompEnd h₀ L m { s with heap := h, toks := tk } I oI C oC D (lst ys) S (fun y news' => TTaken news g k y news')) E' s'
        else CompEnd h₀ L m { s with heap := h, toks := tk } I oI C oC D (lst ys) S (fun _ news' => TLeft news g k news') Value.none s') E' { s with heap := h, toks := tk })
    (fin : ∀ ys, IntsAre ys (ks.filterMap g) → Fin ys news) : CompRestT prog w A h₀ L m env ct elt x scope cl s S P Fin n 0 [] news := by
  have key : ∀ (j i : Nat) (ys : List Value), i + j = n → IntsAre ys ((ks.take i).filterMap g) → CompRestT prog w A h₀ L m env ct elt x scope cl s S P Fin j i ys news := by
    intro j
    induction j with
    | zero =>
      intro i ys hi hy
      have e : i = ks.length := by omega
      subst e
      rw [List.take_length] at hy
      exact CompRestT.zero (fin ys hy)
    | succ j ih =>
      intro i ys hi hy
      refine CompRestT.succ ?_
      intro v I oI C oC D m₂ h tk E' hv hC hx F N off ne
      obtain ⟨k, t, hk, hv'⟩ := hP i v (by omega) hv
      rw [hv'] at hx
      have et : ks.take (i + 1) = ks.take i ++ [k] := by rw [List.take_add_one, hk]; rfl
      refine wpAny_mono (turn k t I oI C oC D m₂ ys h tk E' (List.mem_of_getElem? hk) hC hx F N off ne) (fun ok s₂ hq => ?_) fun _ _ e => e
      cases ok with
      | true =>
        simp only [if_true] at hq ⊢
        refine wpAny_mono hq (fun y s₃ hq => ?_) fun _ _ e => e
        obtain ⟨h', tk', nw, e, F', N', off', hS, hn, r, t', hg, hy'⟩ := hq
        rw [hn] at N' off' hS
        refine ⟨h', tk', news, e, F', N', off', hS, ?_⟩
        rw [hy']
        refine ih (i + 1) _ (by omega) ?_
        rw [et, List.filterMap_append]
        have eg : [k].filterMap g = [r] := by simp [hg]
        rw [eg]
        exact IntsAre.append hy (.cons r t' .nil)
      | false =>
        simp only [Bool.false_eq_true, if_false] at hq ⊢
        obtain ⟨h', tk', nw, e, F', N', off', hS, hn, hg⟩ := hq
        rw [hn] at N' off' hS
        refine ⟨h', tk', news, e, F', N', off', hS, ?_⟩
        refine ih (i + 1) _ (by omega) ?_
        rw [et, List.filterMap_append]
        have eg : [k].filterMap g = [] := by simp [hg]
        rw [eg, List.append_nil]
        exact hy
  exact key n 0 [] (by omega) (by simp only [List.take_zero, List.filterMap_nil]; exact .nil)
theorem restT_bytes {b : Array UInt8} (g : Int → Option Int)
    (turn : ∀ k t I oI C oC D m₂ ys h tk (E' : Value → Shared → Prop), 0 ≤ k → k < 256 → NsObj oC m₂ → m₂ x = some (.int k t) → Fr h₀ L h m → News h₀ L h ((I, oI) :: (C, oC) :: (D, lst ys) :: news) → Off3 I C D news → ((@Ne Nat I C) ∧ (@Ne Nat I D) ∧ (@Ne Nat C D)) →
      wpAny (model prog w) A (isTrue ct (compEnvC scope cl C env) (eval ct (compEnvC scope cl C env))) (fun ok s' => if ok = true then
        wpAny (model prog w) A (eval elt (compEnvC scope cl C env)) (CompEnd h₀ L m { s with heap := h, toks := tk } I oI C oC D (lst ys) S (fun y news' => TTaken news g k y news')) E' s'
        else CompEnd h₀ L m { s with heap := h, toks := tk } I oI C oC D (lst ys) S (fun _ news' => TLeft news g k news') Value.none s') E' { s with heap := h, toks := tk })
    (fin : ∀ ys, IntsAre ys ((KBw.bInts b).filterMap g) → Fin ys news) : CompRestT prog w A h₀ L m env ct elt x scope cl s S (fun i v => ∃ c u, b[i]? = some c ∧ v = .int (c.toNat : Int) u) Fin b.size 0 [] news :=
  restT_fold (ks := KBw.bInts b) g (KBw.ints_length b) (fun i v _ hv => by
    obtain ⟨c, u, hc, e⟩ := hv
    exact ⟨_, u, KBw.ints_get hc, e⟩)
    (fun k t I oI C oC D m₂ ys h tk E' hk hC hx F N off ne => turn k t I oI C oC D m₂ ys h tk E' (KBw.ints_in hk).1 (KBw.ints_in hk).2 hC hx F N off ne) fin
end
end Mine
end

theorem Mine.offD1 : True := by
  w_top off
  trivial

section -- D1
open PySem PySem.Spec PySem.Calls PySem.W PyProof.Rows
set_option linter.unusedVariables false
set_option maxRecDepth 100000
set_option maxHeartbeats 8000000
set_option pp.deepTerms false
namespace Mine
variable {w : World} {mean : ExcName → Option Value} {mg mb : Str → Option Value} {dp un : Nat} {gd : Option (List Code)} {cn : Str} {cs : Scope} {a : Addr} {ccd : Value} {cl : List (Str × Addr)} {outer : List Env} {A₀ : Around} {base h₀ : Heap} {L : Addr} {m : Str → Option Value} {news : List (Addr × Obj)} {s : Shared} {Q E : Value → Shared → Prop}
noncomputable def lowC (c : Int) : Option Int := if c = 32 then none else if 65 ≤ c ∧ c ≤ 90 then some (c + 32) else some c
noncomputable def small (l : List Int) : List Int := l.filterMap lowC
theorem low_up {c : Int} (a : 65 ≤ c) (b : c ≤ 90) : lowC c = some (c + 32) := by unfold lowC; rw [if_neg (by omega), if_pos (by omega)]
theorem low_same {c : Int} (a : c ≠ 32) (b : ¬ (65 ≤ c ∧ c ≤ 90)) : lowC c = some c := by unfold lowC; rw [if_neg a, if_neg b]
theorem low_in {c r : Int} (h0 : 0 ≤ c) (h1 : c < 256) (h : lowC c = some r) : 0 ≤ r ∧ r < 256 := by
  unfold lowC at h
  (repeat' split at h) <;> first | (cases h; omega) | cases h
theorem small_in {l : List Int} (hl : ∀ k ∈ l, 0 ≤ k ∧ k < 256) {n : Int} (hn : n ∈ small l) : 0 ≤ n ∧ n < 256 := by
  obtain ⟨c, hc, e⟩ := List.mem_filterMap.mp hn
  exact low_in (hl c hc).1 (hl c hc).2 e
theorem small_len (l : List Int) : (small l).length ≤ l.length := List.length_filterMap_le _ _
theorem c_small
   (B : Below A₀ base outer h₀) (F : Fr h₀ L s.heap m) (X : (Mine.hd.heap_39 w.params).In h₀) (N : News h₀ L s.heap news) (T : Top Mine.hd.view_39 (looseW Mine.hd.view_39 []) mean mg mb h₀) (hk : cs.kind = .function)
   (hdp : dp + 1 < recursionLimit) (hun : un + 8 < cLine)
   {b : Array UInt8} {t : Tok} (hb : b.size ≤ 64)
   (hret : ∀ (b' : Array UInt8) (t : Tok) (h' : Heap) (tk' : Nat), KBw.bInts b' = small (KBw.bInts b) → Fr h₀ L h' m → News h₀ L h' news → Q (.bytes b' t) { s with heap := h', toks := tk' }) :
   wpAny (model PySem.Challenge.rw_og0237_01.row.prog w) (ktrTop dp un gd cn cs L a ccd cl outer) (call (.ref 41) [.bytes b t]) Q E s := by
  refine wpAny_call ?_
  revert X; k_fill; intro X
  k_dflt (refine' code_own (own := []) (rest := news) ?k1 ?k2 ?k3 ?k4 ?kr ?ko ?k5 ?kA ?kF ?kK ?k6 ?k7 ?k8 ?k9 ?kB ?_ ?c2 ?c3 ?c4 ?c5; (case kA => exact rfl); (case kF => exact rfl); (case kK => assumption); (case k1 => exact B); (case k2 => exact F); (case k3 => exact X); (case k4 => exact News.nil); (case kr => exact N); (case ko => exact fun _ _ _ h => nomatch h); (case k5 => exact T); (case k6 => k_is); (case k7 => k_is); (case k8 => first | exact dp_ok 0 hdp rfl | exact dp_ok 1 hdp rfl | exact dp_ok 2 hdp rfl | exact dp_ok 3 hdp rfl | ktr_room); (case k9 => exact BindsTo.of_eq rfl); (case c5 => decide); (case kB => exact locs rfl); (case c2 => exact rfl); (case c3 => exact rfl); (case c4 => exact rfl); k_whole)
  intro g' L' h' FG' F' N' B' X' T' R' S'
  (try dsimp only)
  (try k_fold)
  repeat' (first
    | (k_unfold; (try dsimp only))
    | ((with_reducible show wpAny _ _ (execs (_ :: _) _) _ _ _); (try k_gentoks); (try k_fold); (try dsimp only); refine (let A9 : Around := _; (?_ : wpAny _ A9 _ _ _ _)); (with_reducible rename News _ _ _ _ => kN); (with_reducible rename Fr _ _ _ _ => kF); refine (let n9 : List (Addr × Obj) := _; let m9 : Str → Option Value := _; (fun (kN : News _ _ _ n9) (kF : Fr _ _ _ m9) => ?_) kN kF); refine wpAny_execs_cons ?_; (try dsimp only))
    | ((with_reducible show wpAny _ _ (eval (Expr.ListComp _ _ _ _) _) _ _ _); (k_here; k_dflt (refine' comp_T ?q0z0 ?q1z0 ?q2z0 ?q3z0 ?q4z0 ?q5z0 ?q6z0 ?q7z0; (case q0z0 => k_asm); (case q1z0 => with_unfolding_all rfl); (case q2z0 => decide); (case q3z0 => rfl); (case q4z0 => decide); (case q5z0 => rfl); (case q7z0 => (intro _; rfl)))))
    | (walk1; all_goals (try dsimp only))
    | (dsimp only; walk1)
    | (leave1; (try dsimp only)))
  refine SrcT.bytes rfl (by k_asm) (by k_asm) (by rw [sizeLine_eq]; omega) (fun g1 => restT_bytes lowC ?_ ?_)
  · intro k t1 I oI C oC D m2 ys h1 tk1 E1 k0 k1 hNs hx F1 N1 off ne
    (try simp only [PyProof.Rows.LCg.Off3, and_true] at off)
    repeat' (first
    | (k_unfold; (try dsimp only))
    | ((with_reducible show wpAny _ _ (execs (_ :: _) _) _ _ _); (try k_gentoks); (try k_fold); (try dsimp only); refine (let A9 : Around := _; (?_ : wpAny _ A9 _ _ _ _)); (with_reducible rename News _ _ _ _ => kN); (with_reducible rename Fr _ _ _ _ => kF); refine (let n9 : List (Addr × Obj) := _; let m9 : Str → Option Value := _; (fun (kN : News _ _ _ n9) (kF : Fr _ _ _ m9) => ?_) kN kF); refine wpAny_execs_cons ?_; (try dsimp only))
    | ((with_reducible show wpAny _ _ (eval (Expr.ListComp _ _ _ _) _) _ _ _); (k_here; k_dflt (refine' comp_T ?q0z0 ?q1z0 ?q2z0 ?q3z0 ?q4z0 ?q5z0 ?q6z0 ?q7z0; (case q0z0 => k_asm); (case q1z0 => with_unfolding_all rfl); (case q2z0 => decide); (case q3z0 => rfl); (case q4z0 => decide); (case q5z0 => rfl); (case q7z0 => (intro _; rfl)))))
    | (walk1; all_goals (try dsimp only))
    | (dsimp only; walk1)
    | (leave1; (try dsimp only)))
    · exact ⟨rfl, _, _, low_up (by assumption) (by assumption), rfl⟩
    · exact ⟨rfl, _, _, low_same (by omega) (by omega), rfl⟩
    · exact ⟨rfl, _, _, low_same (by omega) (by omega), rfl⟩
    · exact ⟨rfl, by unfold lowC; rw [if_pos (by omega)]⟩
  · intro ys hy
    repeat' (first
    | (k_unfold; (try dsimp only))
    | ((with_reducible show wpAny _ _ (execs (_ :: _) _) _ _ _); (try k_gentoks); (try k_fold); (try dsimp only); refine (let A9 : Around := _; (?_ : wpAny _ A9 _ _ _ _)); (with_reducible rename News _ _ _ _ => kN); (with_reducible rename Fr _ _ _ _ => kF); refine (let n9 : List (Addr × Obj) := _; let m9 : Str → Option Value := _; (fun (kN : News _ _ _ n9) (kF : Fr _ _ _ m9) => ?_) kN kF); refine wpAny_execs_cons ?_; (try dsimp only))
    | ((with_reducible show wpAny _ _ (eval (Expr.ListComp _ _ _ _) _) _ _ _); (k_here; k_dflt (refine' comp_T ?q0z0 ?q1z0 ?q2z0 ?q3z0 ?q4z0 ?q5z0 ?q6z0 ?q7z0; (case q0z0 => k_asm); (case q1z0 => with_unfolding_all rfl); (case q2z0 => decide); (case q3z0 => rfl); (case q4z0 => decide); (case q5z0 => rfl); (case q7z0 => (intro _; rfl)))))
    | (walk1; all_goals (try dsimp only))
    | (dsimp only; walk1)
    | (leave1; (try dsimp only)))
    rename Fr g' _ _ _ => kF
    rename News g' _ _ _ => kN
    refine KBa.make_K kF kN rfl (News.isList kN (.head _)) hy (fun n hn => small_in (fun k hk => KBw.ints_in hk) hn) (Nat.le_trans (small_len _) (by rw [KBw.ints_length]; omega)) ?_
    intro b' t' k' F2 N2 e2
    repeat' (first
    | (k_unfold; (try dsimp only))
    | ((with_reducible show wpAny _ _ (execs (_ :: _) _) _ _ _); (try k_gentoks); (try k_fold); (try dsimp only); refine (let A9 : Around := _; (?_ : wpAny _ A9 _ _ _ _)); (with_reducible rename News _ _ _ _ => kN); (with_reducible rename Fr _ _ _ _ => kF); refine (let n9 : List (Addr × Obj) := _; let m9 : Str → Option Value := _; (fun (kN : News _ _ _ n9) (kF : Fr _ _ _ m9) => ?_) kN kF); refine wpAny_execs_cons ?_; (try dsimp only))
    | ((with_reducible show wpAny _ _ (eval (Expr.ListComp _ _ _ _) _) _ _ _); (k_here; k_dflt (refine' comp_T ?q0z0 ?q1z0 ?q2z0 ?q3z0 ?q4z0 ?q5z0 ?q6z0 ?q7z0; (case q0z0 => k_asm); (case q1z0 => with_unfolding_all rfl); (case q2z0 => decide); (case q3z0 => rfl); (case q4z0 => decide); (case q5z0 => rfl); (case q7z0 => (intro _; rfl)))))
    | (walk1; all_goals (try dsimp only))
    | (dsimp only; walk1)
    | (leave1; (try dsimp only)))
    exact hret _ _ _ _ (KBa.ints_make e2) (by k_asm) (by k_asm)

end Mine
end

section -- Fg
open PySem PySem.Spec PySem.Calls PySem.W PyProof.Rows
set_option linter.unusedVariables false
set_option maxRecDepth 100000
set_option maxHeartbeats 8000000
namespace Mine
theorem figGo_in : ∀ (l : List Int) (i : Int), figGo l = some i → 0 ≤ i ∧ i < 16 ^ l.length := by
  intro l
  have key : ∀ (n : Nat) (l : List Int), l.length = n → ∀ i, figGo l = some i → 0 ≤ i ∧ i < 16 ^ l.length := by
    intro n
    induction n with
    | zero =>
      intro l hl i h
      have : l = [] := List.length_eq_zero_iff.mp hl
      subst this
      cases h
      decide
    | succ n ih =>
      intro l hl i h
      have hne : l ≠ [] := fun e => by subst e; cases hl
      have e : l = l.dropLast ++ [l.getLast hne] := (List.dropLast_concat_getLast hne).symm
      rw [e, figGo_snoc] at h
      obtain ⟨f, hf, h2⟩ := Option.bind_eq_some_iff.mp h
      obtain ⟨v, hv', h3⟩ := Option.map_eq_some_iff.mp h2
      have hd : l.dropLast.length = n := by rw [List.length_dropLast, hl]; rfl
      have a := ih _ hd f hf
      have b := hv_in hv'
      rw [hl, Int.pow_succ]
      rw [hd] at a
      omega
  exact key _ l rfl
theorem fig_in {l : List Int} {i : Int} (h : figures l = some i) : 1 ≤ l.length ∧ l.length ≤ 4 ∧ 0 ≤ i ∧ i < 16 ^ l.length := by
  unfold figures at h
  split at h
  · rename_i hl
    exact ⟨hl.1, hl.2, figGo_in l i h⟩
  · cases h
theorem pow_few {n : Nat} (h1 : 1 ≤ n) (h4 : n ≤ 4) : (16 : Int) ^ n = 16 ∨ (16 : Int) ^ n = 256 ∨ (16 : Int) ^ n = 4096 ∨ (16 : Int) ^ n = 65536 := by
  rcases fewN h1 h4 with rfl | rfl | rfl | rfl <;> decide
theorem pow_in {n : Nat} (h1 : 1 ≤ n) (h4 : n ≤ 4) : 0 < (16 : Int) ^ n - 1 ∧ (16 : Int) ^ n ≤ 65536 ∧ ((16 : Int) ^ n - 1).natAbs < 1073741824 := by
  rcases pow_few h1 h4 with e | e | e | e <;> rw [e] <;> decide
noncomputable def midV (l : List Int) (f : Int) : Int := f * 65535 / (16 ^ l.length - 1)
theorem mid_in {l : List Int} {f : Int} (h : figures l = some f) : 0 ≤ midV l f ∧ midV l f ≤ 65535 := by
  obtain ⟨h1, h4, h5, h6⟩ := fig_in h
  have hp := pow_in h1 h4
  unfold midV
  refine ⟨Int.ediv_nonneg (Int.mul_nonneg h5 (by decide)) (Int.le_of_lt hp.1), Int.ediv_le_of_le_mul hp.1 ?_⟩
  rw [Int.mul_comm]
  exact Int.mul_le_mul_of_nonneg_left (Int.le_sub_one_of_lt h6) (by decide)
section
variable {prog : Program} {w : World} {A : Around} {E : Value → Shared → Prop} {s : Shared}
theorem part_div {i : Int} {b : Array UInt8} {t u : Tok} {Q : Value → Shared → Prop} (h : figures (KBw.bInts b) = some i) (hQ : ∀ tk tk', 0 ≤ midV (KBw.bInts b) i → midV (KBw.bInts b) i ≤ 65535 → Q (.int (midV (KBw.bInts b) i) tk) { s with toks := tk' }) :
    wpAny (model prog w) A (binaryOp .FloorDiv (.int (i * 65535) t) (.int (16 ^ ((b.size : Int)).toNat - 1) u)) Q E s := by
  obtain ⟨h1, h4, h5, h6⟩ := fig_in h
  have hl := bints_len b
  have en : ((b.size : Int)).toNat = (KBw.bInts b).length := by rw [hl]; exact Int.toNat_natCast _
  rw [en]
  have hp := pow_in h1 h4
  refine floordiv_int (Int.ne_of_gt hp.1) ?_ (Or.inl (PyProof.noPylong_small hp.2.2))
  have e : (i * 65535).fdiv (16 ^ (KBw.bInts b).length - 1) = midV (KBw.bInts b) i := fdiv_pos _ hp.1
  rw [e]
  exact hQ _ _ (mid_in h).1 (mid_in h).2
end
theorem fig_b16 {l : List Int} {i : Int} (h : figures l = some i) : 0 ≤ i ∧ i < 65536 := by
  obtain ⟨h1, h4, h0, h5⟩ := fig_in h
  exact ⟨h0, Int.lt_of_lt_of_le h5 (pow_in h1 h4).2.1⟩
noncomputable def digV (n : Nat) (x : Int) : Int := ((x * 2 ^ Int.toNat (16 - 4 * (n : Int))).fdiv (2 ^ Int.toNat 8))
noncomputable def digitsV (l : List Int) : Option Int :=
  if l.length = 3 ∨ l.length = 6 ∨ l.length = 9 ∨ l.length = 12 then
    (figures (l.take (l.length / 3))).bind fun x => (figures ((l.drop (l.length / 3)).take (l.length / 3))).bind fun y => (figures ((l.drop (2 * (l.length / 3))).take (l.length / 3))).map fun z => ((0 * 256 + digV (l.length / 3) x) * 256 + digV (l.length / 3) y) * 256 + digV (l.length / 3) z
  else none
theorem digs_open {l : List Int} (n : Nat) (hl : l.length = 3 * n) (h1 : 1 ≤ n) (h4 : n ≤ 4) : digitsV l =
    (figures (List.take n (List.drop 0 l))).bind fun x => (figures (List.take n (List.drop n l))).bind fun y => (figures (List.take n (List.drop (2 * n) l))).map fun z => ((0 * 256 + digV n x) * 256 + digV n y) * 256 + digV n z := by
  unfold digitsV
  rw [if_pos (by rw [hl]; rcases fewN h1 h4 with rfl | rfl | rfl | rfl <;> decide), show l.length / 3 = n by rw [hl]; exact Nat.mul_div_cancel_left n (by decide)]
  rfl
theorem digs_some {l : List Int} {x y z : Int} (n : Nat) (hl : l.length = 3 * n) (h1 : 1 ≤ n) (h4 : n ≤ 4) (e1 : figures (List.take n (List.drop 0 l)) = some x) (e2 : figures (List.take n (List.drop n l)) = some y) (e3 : figures (List.take n (List.drop (2 * n) l)) = some z) :
    digitsV l = some (((0 * 256 + digV n x) * 256 + digV n y) * 256 + digV n z) := by rw [digs_open n hl h1 h4, e1, e2, e3]; rfl
theorem digs_none1 {l : List Int} (n : Nat) (hl : l.length = 3 * n) (h1 : 1 ≤ n) (h4 : n ≤ 4) (e1 : figures (List.take n (List.drop 0 l)) = none) : digitsV l = none := by rw [digs_open n hl h1 h4, e1]; rfl
theorem digs_none2 {l : List Int} (n : Nat) (hl : l.length = 3 * n) (h1 : 1 ≤ n) (h4 : n ≤ 4) (e2 : figures (List.take n (List.drop n l)) = none) : digitsV l = none := by
  rw [digs_open n hl h1 h4, e2]
  cases figures (List.take n (List.drop 0 l)) <;> rfl
theorem digs_none3 {l : List Int} (n : Nat) (hl : l.length = 3 * n) (h1 : 1 ≤ n) (h4 : n ≤ 4) (e3 : figures (List.take n (List.drop (2 * n) l)) = none) : digitsV l = none := by
  rw [digs_open n hl h1 h4, e3]
  cases figures (List.take n (List.drop 0 l)) <;> cases figures (List.take n (List.drop n l)) <;> rfl
theorem digs_out {l : List Int} (h : ¬ (l.length = 3 ∨ l.length = 6 ∨ l.length = 9 ∨ l.length = 12)) : digitsV l = none := by
  unfold digitsV
  rw [if_neg h]
end Mine
end

theorem Mine.offD2 : True := by
  w_top off
  trivial

section -- D2
open PySem PySem.Spec PySem.Calls PySem.W PyProof.Rows
set_option linter.unusedVariables false
set_option maxRecDepth 100000
set_option maxHeartbeats 8000000
set_option pp.deepTerms false
namespace Mine
variable {w : World} {mean : ExcName → Option Value} {mg mb : Str → Option Value} {dp un : Nat} {gd : Option (List Code)} {cn : Str} {cs : Scope} {a : Addr} {ccd : Value} {cl : List (Str × Addr)} {outer : List Env} {A₀ : Around} {base h₀ : Heap} {L : Addr} {m : Str → Option Value} {news : List (Addr × Obj)} {s : Shared} {Q E : Value → Shared → Prop}
noncomputable def bytes3 (a b c : Array UInt8) (t1 t2 t3 : Tok) (n : Nat) : Obj := { cls := .type "list", data := .seq #[.bytes a t1, .bytes b t2, .bytes c t3] n }
noncomputable def partV (l : List Int) (f : Int) : Int := (midV l f).fdiv (2 ^ Int.toNat 8)
noncomputable def partsV (a b c : List Int) : Option Int := (figures a).bind fun x => (figures b).bind fun y => (figures c).map fun z => ((0 * 256 + partV a x) * 256 + partV b y) * 256 + partV c z
theorem parts_some {a b c : List Int} {x y z : Int} (h1 : figures a = some x) (h2 : figures b = some y) (h3 : figures c = some z) : partsV a b c = some (((0 * 256 + partV a x) * 256 + partV b y) * 256 + partV c z) := by
  unfold partsV; rw [h1, h2, h3]; rfl
theorem parts_none1 {a b c : List Int} (h1 : figures a = none) : partsV a b c = none := by unfold partsV; rw [h1]; rfl
theorem parts_none2 {a b c : List Int} (h1 : figures b = none) : partsV a b c = none := by
  unfold partsV; rw [h1]
  cases figures a <;> rfl
theorem parts_none3 {a b c : List Int} (h1 : figures c = none) : partsV a b c = none := by
  unfold partsV; rw [h1]
  cases figures a <;> cases figures b <;> rfl
theorem c_parts
   (B : Below A₀ base outer h₀) (F : Fr h₀ L s.heap m) (X : (Mine.hd.heap_39 w.params).In h₀) (N : News h₀ L s.heap news) (T : Top Mine.hd.view_39 (looseW Mine.hd.view_39 []) mean mg mb h₀) (hk : cs.kind = .function)
   (hdp : dp + 3 < recursionLimit) (hun : un + 24 < cLine)
   {a1 a2 a3 : Array UInt8} {t1 t2 t3 : Tok} {l : Addr} {n : Nat} (N1 : News h₀ L s.heap [(l, ({ cls := .type "list", data := .seq #[.bytes a1 t1, .bytes a2 t2, .bytes a3 t3] n } : Obj))]) (hoff : ∀ q ∈ news, q.1 ≠ l) (hz1 : a1.size ≤ 64) (hz2 : a2.size ≤ 64) (hz3 : a3.size ≤ 64)
   (hsome : ∀ (i : Int) (t : Tok) (h' : Heap) (tk' : Nat), partsV (KBw.bInts a1) (KBw.bInts a2) (KBw.bInts a3) = some i → Fr h₀ L h' m → News h₀ L h' news → Q (.int i t) { s with heap := h', toks := tk' })
   (hnone : ∀ (h' : Heap) (tk' : Nat), partsV (KBw.bInts a1) (KBw.bInts a2) (KBw.bInts a3) = none → Fr h₀ L h' m → News h₀ L h' news → Q .none { s with heap := h', toks := tk' }) :
   wpAny (model PySem.Challenge.rw_og0237_01.row.prog w) (ktrTop dp un gd cn cs L a ccd cl outer) (call (.ref 55) [.ref l]) Q E s := by
  refine wpAny_call ?_
  revert X; k_fill; intro X
  k_dflt (refine' code_own (own := [(l, ({ cls := .type "list", data := .seq #[.bytes a1 t1, .bytes a2 t2, .bytes a3 t3] n } : Obj))]) (rest := news) ?k1 ?k2 ?k3 ?k4 ?kr ?ko ?k5 ?kA ?kF ?kK ?k6 ?k7 ?k8 ?k9 ?kB ?_ ?c2 ?c3 ?c4 ?c5; (case kA => exact rfl); (case kF => exact rfl); (case kK => assumption); (case k1 => exact B); (case k2 => exact F); (case k3 => exact X); (case k4 => exact N1); (case kr => exact N); (case ko => exact fun q hq p hp => by rw [List.mem_singleton.mp hp]; exact hoff q hq); (case k5 => exact T); (case k6 => k_is); (case k7 => k_is); (case k8 => first | exact dp_ok 0 hdp rfl | exact dp_ok 1 hdp rfl | exact dp_ok 2 hdp rfl | exact dp_ok 3 hdp rfl | ktr_room); (case k9 => exact BindsTo.of_eq rfl); (case c5 => decide); (case kB => exact locs rfl); (case c2 => exact rfl); (case c3 => exact rfl); (case c4 => exact rfl); k_whole)
  intro g' L' h' FG' F' N' B' X' T' R' S'
  (try dsimp only)
  (try k_fold)
  repeat' (first
    | (k_unfold; (try dsimp only))
    | ((with_reducible show wpAny _ _ (execs (_ :: _) _) _ _ _); (try k_gentoks); (try k_fold); (try dsimp only); refine (let A9 : Around := _; (?_ : wpAny _ A9 _ _ _ _)); (with_reducible rename News _ _ _ _ => kN); (with_reducible rename Fr _ _ _ _ => kF); refine (let n9 : List (Addr × Obj) := _; let m9 : Str → Option Value := _; (fun (kN : News _ _ _ n9) (kF : Fr _ _ _ m9) => ?_) kN kF); refine wpAny_execs_cons ?_; (try dsimp only))
    | ((with_reducible show wpAny _ _ (call (Value.ref _) _) _ _ _); first | (k_here; (with_reducible show wpAny _ _ (call (Value.ref 48) [_]) _ _ _); k_dflt (refine' c_figures ?k0z1 ?k1z1 ?k2z1 ?k3z1 ?k4z1 ?k5z1 ?k6z1 ?k7z1 ?p0z1 ?_ ?_; (case k0z1 => k_asm); (case k1z1 => k_asm); (case k2z1 => k_asm); (case k3z1 => k_asm); (case k4z1 => k_asm); (case k5z1 => first | exact rfl | assumption); (case k6z1 => first | exact dp_ok 0 hdp rfl | exact dp_ok 1 hdp rfl | exact dp_ok 2 hdp rfl | exact dp_ok 3 hdp rfl | ktr_room); (case k7z1 => first | exact un_ok hun rfl | exact un_ok0 hun rfl | ktr_units); (case p0z1 => omega);  k_whole); (first | (intro i9 t9 h9 tk9 e9 F9 N9) | (intro h9 tk9 e9 F9 N9)); (try dsimp only); (try k_fold)))
    | (k_here; (with_reducible show wpAny _ _ (binaryOp Operator.FloorDiv (Value.int (_ * 65535) _) (Value.int (16 ^ _ - 1) _)) _ _ _); (refine part_div (by assumption) ?_); intro _ _ _ _)
    | (walk1; all_goals (try dsimp only))
    | (dsimp only; walk1)
    | (leave1; (try dsimp only)))
  all_goals first
    | exact hsome _ _ _ _ (parts_some (by assumption) (by assumption) (by assumption)) (by k_asm) (by k_asm)
    | exact hnone _ _ (parts_none1 (by assumption)) (by k_asm) (by k_asm)
    | exact hnone _ _ (parts_none2 (by assumption)) (by k_asm) (by k_asm)
    | exact hnone _ _ (parts_none3 (by assumption)) (by k_asm) (by k_asm)

end Mine
end

section -- D3z
open PySem PySem.Spec PySem.Calls PySem.W PyProof.Rows
set_option linter.unusedVariables false
set_option maxRecDepth 100000
set_option maxHeartbeats 8000000
set_option pp.deepTerms false
namespace Mine
variable {w : World} {mean : ExcName → Option Value} {mg mb : Str → Option Value} {dp un : Nat} {gd : Option (List Code)} {cn : Str} {cs : Scope} {a : Addr} {ccd : Value} {cl : List (Str × Addr)} {outer : List Env} {A₀ : Around} {base h₀ : Heap} {L : Addr} {m : Str → Option Value} {news : List (Addr × Obj)} {s : Shared} {Q E : Value → Shared → Prop}
section
variable {prog : Program} {A : Around}
theorem len_lit {n : Nat} {k : Int} {b : Array UInt8} {t : Tok} {Q : Value → Shared → Prop} (h : b.size = n) (e : (n : Int) = k) (hn : n ≤ 64) (hQ : ∀ tk tk', Q (.int k tk) { s with toks := tk' }) : wpAny (model prog w) A (call (.builtin "len") [.bytes b t]) Q E s := by
  refine len_bytes (by omega) ?_
  rw [h, e]
  exact hQ _ _
theorem div_lit {a c k : Int} {t u : Tok} {Q : Value → Shared → Prop} (hc : c ≠ 0) (h : a.fdiv c = k) (hs : c.natAbs < 1073741824) (hQ : ∀ tk tk', Q (.int k tk) { s with toks := tk' }) : wpAny (model prog w) A (binaryOp .FloorDiv (.int a t) (.int c u)) Q E s := by
  refine floordiv_int hc ?_ (Or.inl (PyProof.noPylong_small hs))
  rw [h]
  exact hQ _ _
end
end Mine
end

theorem Mine.offD3 : True := by
  w_top off
  trivial

section -- D3
open PySem PySem.Spec PySem.Calls PySem.W PyProof.Rows
set_option linter.unusedVariables false
set_option maxRecDepth 100000
set_option maxHeartbeats 8000000
set_option pp.deepTerms false
namespace Mine
variable {w : World} {mean : ExcName → Option Value} {mg mb : Str → Option Value} {dp un : Nat} {gd : Option (List Code)} {cn : Str} {cs : Scope} {a : Addr} {ccd : Value} {cl : List (Str × Addr)} {outer : List Env} {A₀ : Around} {base h₀ : Heap} {L : Addr} {m : Str → Option Value} {news : List (Addr × Obj)} {s : Shared} {Q E : Value → Shared → Prop}
section
variable {prog : Program} {A : Around} {value slice : PySem.Expr} {b : Array UInt8} {t u v : Tok}
theorem slice_mid (j k : Nat) {lo hi : Int} (hlo : lo = (j : Int)) (hhi : hi = ((j + k : Nat) : Int)) (hkb : j + k ≤ b.size) (hF : Fr h₀ L s.heap m) (hN : News h₀ L s.heap news) (hz : b.size ≤ 1024)
    (h : ∀ b' h' t' tk', Fr h₀ L h' m → News h₀ L h' news → KBw.bInts b' = ((KBw.bInts b).drop j).take k → b'.size ≤ b.size → Q (.bytes b' t') { s with heap := h', toks := tk' })
    (hs : subscripted slice false (.bytes b t) (.ref s.heap.objs.size) = operate [.ref s.heap.objs.size, .bytes b t] (getItem (.bytes b t) (.ref s.heap.objs.size)))
    (ht : ∀ r, letTemporaryGo value (.bytes b t) r = pure ()) :
    wpAny (model prog w) A (subscriptTail value slice (.bytes b t) (.ref s.heap.objs.size)) Q E { s with heap := s.heap.push { cls := .type "slice", data := .fields #[.int lo u, .int hi v, .none] } } := by
  refine KBc.slice_K (lo := some lo) (hi := some hi) (ks := KBw.bInts b) hF hN rfl (by constructor) (by constructor) (KBw.ints_length b ▸ Nat.le_trans hz (by decide)) (fun h' t' tk' F' N' e => h _ h' t' tk' F' N' ?_ (KBc.size_picked_le _ _ _)) hs ht
  rw [e, hlo, hhi]
  show List.take (clipAt _ ((j + k : Nat) : Int) - clipAt _ (j : Int)) (List.drop (clipAt _ (j : Int)) _) = _
  have hl := bints_len b
  rw [clipAt_nat, clipAt_nat, hl, Nat.min_eq_left hkb, Nat.min_eq_left (Nat.le_trans (Nat.le_add_right j k) hkb), Nat.add_sub_cancel_left]
theorem range3 {n : Nat} (n1 : 1 ≤ n) (n4 : n ≤ 4) : Builtin.Range.small 0 (3 * (n : Int)) (n : Int) = true ∧ Builtin.Range.rangeSize 0 (3 * (n : Int)) (n : Int) = ((3 : Nat) : Int) := by
  rcases fewN n1 n4 with rfl | rfl | rfl | rfl <;> decide
theorem dig_in {n : Nat} {l : List Int} {x : Int} (h : figures l = some x) (hl : l.length = n) : 0 ≤ digV n x ∧ digV n x < 256 := by
  obtain ⟨h1, h4, h5, h6⟩ := fig_in h
  rw [hl] at h1 h4 h6
  have key : 0 < (2 : Int) ^ Int.toNat (16 - 4 * (n : Int)) ∧ (16 : Int) ^ n * (2 : Int) ^ Int.toNat (16 - 4 * (n : Int)) = 256 * 256 := by rcases fewN h1 h4 with rfl | rfl | rfl | rfl <;> decide
  unfold digV
  rw [show (2 : Int) ^ Int.toNat 8 = 256 by decide, fdiv_pos _ (by decide)]
  exact ⟨Int.ediv_nonneg (Int.mul_nonneg h5 (Int.le_of_lt key.1)) (by decide), Int.ediv_lt_of_lt_mul (by decide) (key.2 ▸ Int.mul_lt_mul_of_pos_right h6 key.1)⟩
theorem fig_64 {l : List Int} {x : Int} (h : figures l = some x) : x.natAbs < 2 ^ 64 := by
  have := fig_b16 h
  omega
theorem len3 {n : Nat} {l : List Int} {j : Nat} (hl : l.length = 3 * n) (hk : j + n ≤ 3 * n) : ((l.drop j).take n).length = n := by
  rw [List.length_take, List.length_drop, hl]
  exact Nat.min_eq_left (Nat.le_sub_of_add_le (Nat.add_comm j n ▸ hk))
end
theorem c_digits_out
   (B : Below A₀ base outer h₀) (F : Fr h₀ L s.heap m) (X : (Mine.hd.heap_39 w.params).In h₀) (N : News h₀ L s.heap news) (T : Top Mine.hd.view_39 (looseW Mine.hd.view_39 []) mean mg mb h₀) (hk : cs.kind = .function)
   (hdp : dp + 3 < recursionLimit) (hun : un + 24 < cLine)
   {b : Array UInt8} {t : Tok} (hb : b.size ≤ 64) (hout : ¬ (b.size = 3 ∨ b.size = 6 ∨ b.size = 9 ∨ b.size = 12))
   (hnone : ∀ (h' : Heap) (tk' : Nat), Fr h₀ L h' m → News h₀ L h' news → Q .none { s with heap := h', toks := tk' }) :
   wpAny (model PySem.Challenge.rw_og0237_01.row.prog w) (ktrTop dp un gd cn cs L a ccd cl outer) (call (.ref 62) [.bytes b t]) Q E s := by
  refine wpAny_call ?_
  revert X; k_fill; intro X
  k_dflt (refine' code_own (own := []) (rest := news) ?k1 ?k2 ?k3 ?k4 ?kr ?ko ?k5 ?kA ?kF ?kK ?k6 ?k7 ?k8 ?k9 ?kB ?_ ?c2 ?c3 ?c4 ?c5; (case kA => exact rfl); (case kF => exact rfl); (case kK => assumption); (case k1 => exact B); (case k2 => exact F); (case k3 => exact X); (case k4 => exact News.nil); (case kr => exact N); (case ko => exact fun _ _ _ h => nomatch h); (case k5 => exact T); (case k6 => k_is); (case k7 => k_is); (case k8 => first | exact dp_ok 0 hdp rfl | exact dp_ok 1 hdp rfl | exact dp_ok 2 hdp rfl | exact dp_ok 3 hdp rfl | ktr_room); (case k9 => exact BindsTo.of_eq rfl); (case c5 => decide); (case kB => exact locs rfl); (case c2 => exact rfl); (case c3 => exact rfl); (case c4 => exact rfl); k_whole)
  intro g' L' h' FG' F' N' B' X' T' R' S'
  (try dsimp only)
  (try k_fold)
  repeat' (first
    | (k_unfold; (try dsimp only))
    | ((with_reducible show wpAny _ _ (execs (_ :: _) _) _ _ _); (try k_gentoks); (try k_fold); (try dsimp only); refine (let A9 : Around := _; (?_ : wpAny _ A9 _ _ _ _)); (with_reducible rename News _ _ _ _ => kN); (with_reducible rename Fr _ _ _ _ => kF); refine (let n9 : List (Addr × Obj) := _; let m9 : Str → Option Value := _; (fun (kN : News _ _ _ n9) (kF : Fr _ _ _ m9) => ?_) kN kF); refine wpAny_execs_cons ?_; (try dsimp only))
    | (walk1; all_goals (try dsimp only))
    | (dsimp only; walk1)
    | (leave1; (try dsimp only)))
  · exfalso
    rename List.any _ _ = true => hx
    simp only [List.any_cons, List.any_nil, Bool.or_false, Bool.or_eq_true, beq_iff_eq] at hx
    exact hout (by rcases hx with h | h | h | h <;> rw [← Int.ofNat.inj h] <;> decide)
  · exact hnone _ _ (by k_asm) (by k_asm)

theorem c_digitsN
   (B : Below A₀ base outer h₀) (F : Fr h₀ L s.heap m) (X : (Mine.hd.heap_39 w.params).In h₀) (N : News h₀ L s.heap news) (T : Top Mine.hd.view_39 (looseW Mine.hd.view_39 []) mean mg mb h₀) (hk : cs.kind = .function)
   (hdp : dp + 3 < recursionLimit) (hun : un + 24 < cLine)
   {n : Nat} {b : Array UInt8} {t : Tok} (n1 : 1 ≤ n) (n4 : n ≤ 4) (hn : b.size = 3 * n) (hl : (KBw.bInts b).length = 3 * n)
   (hsome : ∀ (i : Int) (t : Tok) (h' : Heap) (tk' : Nat), digitsV (KBw.bInts b) = some i → Fr h₀ L h' m → News h₀ L h' news → Q (.int i t) { s with heap := h', toks := tk' })
   (hnone : ∀ (h' : Heap) (tk' : Nat), digitsV (KBw.bInts b) = none → Fr h₀ L h' m → News h₀ L h' news → Q .none { s with heap := h', toks := tk' }) :
   wpAny (model PySem.Challenge.rw_og0237_01.row.prog w) (ktrTop dp un gd cn cs L a ccd cl outer) (call (.ref 62) [.bytes b t]) Q E s := by
  refine wpAny_call ?_
  revert X; k_fill; intro X
  k_dflt (refine' code_own (own := []) (rest := news) ?k1 ?k2 ?k3 ?k4 ?kr ?ko ?k5 ?kA ?kF ?kK ?k6 ?k7 ?k8 ?k9 ?kB ?_ ?c2 ?c3 ?c4 ?c5; (case kA => exact rfl); (case kF => exact rfl); (case kK => assumption); (case k1 => exact B); (case k2 => exact F); (case k3 => exact X); (case k4 => exact News.nil); (case kr => exact N); (case ko => exact fun _ _ _ h => nomatch h); (case k5 => exact T); (case k6 => k_is); (case k7 => k_is); (case k8 => first | exact dp_ok 0 hdp rfl | exact dp_ok 1 hdp rfl | exact dp_ok 2 hdp rfl | exact dp_ok 3 hdp rfl | ktr_room); (case k9 => exact BindsTo.of_eq rfl); (case c5 => decide); (case kB => exact locs rfl); (case c2 => exact rfl); (case c3 => exact rfl); (case c4 => exact rfl); k_whole)
  intro g' L' h' FG' F' N' B' X' T' R' S'
  (try dsimp only)
  (try k_fold)
  repeat' (first
    | (k_unfold; (try dsimp only))
    | ((with_reducible show wpAny _ _ (execs (_ :: _) _) _ _ _); (try k_gentoks); (try k_fold); (try dsimp only); refine (let A9 : Around := _; (?_ : wpAny _ A9 _ _ _ _)); (with_reducible rename News _ _ _ _ => kN); (with_reducible rename Fr _ _ _ _ => kF); refine (let n9 : List (Addr × Obj) := _; let m9 : Str → Option Value := _; (fun (kN : News _ _ _ n9) (kF : Fr _ _ _ m9) => ?_) kN kF); refine wpAny_execs_cons ?_; (try dsimp only))
    | ((with_reducible show wpAny _ _ (call (Value.ref _) _) _ _ _); first | (k_here; (with_reducible show wpAny _ _ (call (Value.ref 48) [_]) _ _ _); k_dflt (refine' c_figures ?k0z1 ?k1z1 ?k2z1 ?k3z1 ?k4z1 ?k5z1 ?k6z1 ?k7z1 ?p0z1 ?_ ?_; (case k0z1 => k_asm); (case k1z1 => k_asm); (case k2z1 => k_asm); (case k3z1 => k_asm); (case k4z1 => k_asm); (case k5z1 => first | exact rfl | assumption); (case k6z1 => first | exact dp_ok 0 hdp rfl | exact dp_ok 1 hdp rfl | exact dp_ok 2 hdp rfl | exact dp_ok 3 hdp rfl | ktr_room); (case k7z1 => first | exact un_ok hun rfl | exact un_ok0 hun rfl | ktr_units); (case p0z1 => omega); k_whole); (intro i9 t9 h9 tk9 e9 F9 N9; rw [eb9] at e9; have f9 := fig_64 e9; have d9 := dig_in e9 (len3 hl (by omega))); (try dsimp only); (try k_fold)))
    | ((with_reducible show KrsRest _ _ _ _ _ _ _ _ _ _ _ _ _ _ _ _ _ _); (with_unfolding_all first | (refine KrsRest.succ (v := _) rfl (fun t' h' tk' F' N' => ?_)) | (refine KrsRest.zero (fun h' tk' F' N' => ?_))))
    | (k_here; (with_reducible show wpAny _ _ (pyIter (Value.ref _)) (fun it s₂ => LoopAtV _ _ _ _ _ _ _ _ _ it s₂) _ _); (with_reducible rename News _ _ _ _ => kN); (with_reducible rename Fr _ _ _ _ => kF); (rename IsRange _ _ _ _ _ _ _ _ => hR); (with_unfolding_all refine krs_iter (n := 3) (by rfl) hR (range3 n1 n4).1 (range3 n1 n4).2 kF kN ?_); clear kF kN; intro i9 l9; (try k_lt l9))
    | (k_here; (with_reducible show wpAny _ _ (binaryOp Operator.LShift (Value.int _ _) (Value.int (16 - 4 * _) _)) _ _ _); (refine lshift_int_small (by omega) (by omega) (by assumption) ?_))
    | (k_here; (with_reducible show wpAny _ _ (binaryOp Operator.FloorDiv (Value.int (3 * _) _) (Value.int 3 _)) _ _ _); (refine div_lit (k := (n : Int)) (by decide) (by rw [fdiv_pos _ (by decide)]; omega) (by decide) ?_); intro _ _)
    | (k_here; (with_reducible show wpAny _ _ (call (Value.builtin "len") [Value.bytes _ _]) _ _ _); (refine len_lit (n := 3 * n) (k := 3 * (n : Int)) (by assumption) (by omega) (by omega) ?_); intro _ _)
    | (k_here; (with_reducible show wpAny _ _ (subscriptTail _ (Expr.Slice (some _) (some _) none _) (Value.bytes _ _) (Value.ref _)) _ _ _); (with_reducible rename Fr _ _ _ _ => kF); (with_reducible rename News _ _ _ _ => kN); k_dflt (first | (refine slice_mid (s := ⟨_, _, _, _, _⟩) 0 n (by omega) (by omega) (by omega) kF kN (by omega) ?_ (by with_unfolding_all rfl) (by intro _; with_unfolding_all rfl)) | (refine slice_mid (s := ⟨_, _, _, _, _⟩) n n (by omega) (by omega) (by omega) kF kN (by omega) ?_ (by with_unfolding_all rfl) (by intro _; with_unfolding_all rfl)) | (refine slice_mid (s := ⟨_, _, _, _, _⟩) (2 * n) n (by omega) (by omega) (by omega) kF kN (by omega) ?_ (by with_unfolding_all rfl) (by intro _; with_unfolding_all rfl))); intro b9 h9 t9 tk9 F9 N9 eb9 z9)
    | (walk1; all_goals (try dsimp only))
    | (dsimp only; walk1)
    | (leave1; (try dsimp only)))
  · exact hsome _ _ _ _ (digs_some n hl n1 n4 (by assumption) (by assumption) (by assumption)) (by k_asm) (by k_asm)
  · rename figures (KBw.bInts _) = none => en
    rw [eb9] at en
    exact hnone _ _ (digs_none3 n hl n1 n4 en) (by k_asm) (by k_asm)
  · rename figures (KBw.bInts _) = none => en
    rw [eb9] at en
    exact hnone _ _ (digs_none2 n hl n1 n4 en) (by k_asm) (by k_asm)
  · rename figures (KBw.bInts _) = none => en
    rw [eb9] at en
    exact hnone _ _ (digs_none1 n hl n1 n4 en) (by k_asm) (by k_asm)
  · exfalso
    rename List.any _ _ = false => hx
    have key : ∀ n : Nat, 1 ≤ n → n ≤ 4 → ¬ (List.any [3, 6, 9, 12] fun x : Int => x == 3 * (n : Int)) = false := by
      intro n n1 n4
      rcases fewN n1 n4 with rfl | rfl | rfl | rfl <;> decide
    exact key n n1 n4 hx

theorem c_digits
   (B : Below A₀ base outer h₀) (F : Fr h₀ L s.heap m) (X : (Mine.hd.heap_39 w.params).In h₀) (N : News h₀ L s.heap news) (T : Top Mine.hd.view_39 (looseW Mine.hd.view_39 []) mean mg mb h₀) (hk : cs.kind = .function)
   (hdp : dp + 3 < recursionLimit) (hun : un + 24 < cLine)
   {b : Array UInt8} {t : Tok} (hb : b.size ≤ 64)
   (hsome : ∀ (i : Int) (t : Tok) (h' : Heap) (tk' : Nat), digitsV (KBw.bInts b) = some i → Fr h₀ L h' m → News h₀ L h' news → Q (.int i t) { s with heap := h', toks := tk' })
   (hnone : ∀ (h' : Heap) (tk' : Nat), digitsV (KBw.bInts b) = none → Fr h₀ L h' m → News h₀ L h' news → Q .none { s with heap := h', toks := tk' }) :
   wpAny (model PySem.Challenge.rw_og0237_01.row.prog w) (ktrTop dp un gd cn cs L a ccd cl outer) (call (.ref 62) [.bytes b t]) Q E s := by
  by_cases hout : b.size = 3 ∨ b.size = 6 ∨ b.size = 9 ∨ b.size = 12
  · have hl := bints_len b
    have key : ∀ n : Nat, 1 ≤ n → n ≤ 4 → b.size = 3 * n → _ := fun n n1 n4 e => c_digitsN (t := t) (gd := gd) (cn := cn) (a := a) (ccd := ccd) (cl := cl) (E := E) B F X N T ‹_› hdp hun n1 n4 e (hl.trans e) hsome hnone
    rcases hout with e | e | e | e
    · exact key 1 (by decide) (by decide) e
    · exact key 2 (by decide) (by decide) e
    · exact key 3 (by decide) (by decide) e
    · exact key 4 (by decide) (by decide) e
  · refine c_digits_out B F X N T ‹_› hdp hun hb hout fun h' tk' F1 N1 => hnone _ _ (digs_out ?_) F1 N1
    rw [bints_len]
    exact hout
end Mine
end

theorem Mine.offD4u : True := by
  w_top off
  trivial

section -- D4u
open PySem PySem.Spec PySem.Calls PySem.W PyProof.Rows
set_option linter.unusedVariables false
set_option maxRecDepth 100000
set_option maxHeartbeats 8000000
set_option pp.deepTerms false
namespace Mine
variable {w : World} {mean : ExcName → Option Value} {mg mb : Str → Option Value} {dp un : Nat} {gd : Option (List Code)} {cn : Str} {cs : Scope} {a : Addr} {ccd : Value} {cl : List (Str × Addr)} {outer : List Env} {A₀ : Around} {base h₀ : Heap} {L : Addr} {m : Str → Option Value} {news : List (Addr × Obj)} {s : Shared} {Q E : Value → Shared → Prop}
theorem c_num_t
   (B : Below A₀ base outer h₀) (F : Fr h₀ L s.heap m) (X : (Mine.hd.heap_39 w.params).In h₀) (N : News h₀ L s.heap news) (T : Top Mine.hd.view_39 (looseW Mine.hd.view_39 []) mean mg mb h₀) (hk : cs.kind = .function)
   (hdp : dp + 1 < recursionLimit) (hun : un + 8 < cLine)
   {a1 a2 a3 : Int} {t1 t2 t3 : Tok} {l : Addr} {n : Nat} (hm1 : s.heap.get? l = some { cls := .type "tuple", data := .seq #[.int a1 t1, .int a2 t2, .int a3 t3] n })
   (hret : ∀ (t : Tok) (h' : Heap) (tk' : Nat), Fr h₀ L h' m → News h₀ L h' news → Q (.int (a1 * 65536 + a2 * 256 + a3) t) { s with heap := h', toks := tk' }) :
   wpAny (model PySem.Challenge.rw_og0237_01.row.prog w) (ktrTop dp un gd cn cs L a ccd cl outer) (call (.ref 142) [.ref l]) Q E s := by
  refine wpAny_call ?_
  revert X; k_fill; intro X
  k_dflt (refine' code_own (own := []) (rest := news) ?k1 ?k2 ?k3 ?k4 ?kr ?ko ?k5 ?kA ?kF ?kK ?k6 ?k7 ?k8 ?k9 ?kB ?_ ?c2 ?c3 ?c4 ?c5; (case kA => exact rfl); (case kF => exact rfl); (case kK => assumption); (case k1 => exact B); (case k2 => exact F); (case k3 => exact X); (case k4 => exact News.nil); (case kr => exact N); (case ko => exact fun _ _ _ h => nomatch h); (case k5 => exact T); (case k6 => k_is); (case k7 => k_is); (case k8 => first | exact dp_ok 0 hdp rfl | exact dp_ok 1 hdp rfl | exact dp_ok 2 hdp rfl | exact dp_ok 3 hdp rfl | ktr_room); (case k9 => exact BindsTo.of_eq rfl); (case c5 => decide); (case kB => exact locs rfl); (case c2 => exact rfl); (case c3 => exact rfl); (case c4 => exact rfl); k_whole)
  intro g' L' h' FG' F' N' B' X' T' R' S'
  (try dsimp only)
  (try k_fold)
  have T1 : g'.IsTuple l [Value.int a1 t1, Value.int a2 t2, Value.int a3 t3].toArray := ⟨_, S' _ _ hm1 (fun _ h => nomatch h), rfl, _, rfl⟩
  repeat' (first
    | (k_unfold; (try dsimp only))
    | ((with_reducible show wpAny _ _ (execs (_ :: _) _) _ _ _); (try k_gentoks); (try k_fold); (try dsimp only); refine (let A9 : Around := _; (?_ : wpAny _ A9 _ _ _ _)); (with_reducible rename News _ _ _ _ => kN); (with_reducible rename Fr _ _ _ _ => kF); refine (let n9 : List (Addr × Obj) := _; let m9 : Str → Option Value := _; (fun (kN : News _ _ _ n9) (kF : Fr _ _ _ m9) => ?_) kN kF); refine wpAny_execs_cons ?_; (try dsimp only))
    | (walk1; all_goals (try dsimp only))
    | (dsimp only; walk1)
    | (leave1; (try dsimp only)))
  exact hret _ _ _ (by k_asm) (by k_asm)

theorem c_num_l
   (B : Below A₀ base outer h₀) (F : Fr h₀ L s.heap m) (X : (Mine.hd.heap_39 w.params).In h₀) (N : News h₀ L s.heap news) (T : Top Mine.hd.view_39 (looseW Mine.hd.view_39 []) mean mg mb h₀) (hk : cs.kind = .function)
   (hdp : dp + 1 < recursionLimit) (hun : un + 8 < cLine)
   {a1 a2 a3 : Int} {t1 t2 t3 : Tok} {l : Addr} {n : Nat} (hm1 : s.heap.get? l = some { cls := .type "list", data := .seq #[.int a1 t1, .int a2 t2, .int a3 t3] n })
   (hret : ∀ (t : Tok) (h' : Heap) (tk' : Nat), Fr h₀ L h' m → News h₀ L h' news → Q (.int (a1 * 65536 + a2 * 256 + a3) t) { s with heap := h', toks := tk' }) :
   wpAny (model PySem.Challenge.rw_og0237_01.row.prog w) (ktrTop dp un gd cn cs L a ccd cl outer) (call (.ref 142) [.ref l]) Q E s := by
  refine wpAny_call ?_
  revert X; k_fill; intro X
  k_dflt (refine' code_own (own := []) (rest := news) ?k1 ?k2 ?k3 ?k4 ?kr ?ko ?k5 ?kA ?kF ?kK ?k6 ?k7 ?k8 ?k9 ?kB ?_ ?c2 ?c3 ?c4 ?c5; (case kA => exact rfl); (case kF => exact rfl); (case kK => assumption); (case k1 => exact B); (case k2 => exact F); (case k3 => exact X); (case k4 => exact News.nil); (case kr => exact N); (case ko => exact fun _ _ _ h => nomatch h); (case k5 => exact T); (case k6 => k_is); (case k7 => k_is); (case k8 => first | exact dp_ok 0 hdp rfl | exact dp_ok 1 hdp rfl | exact dp_ok 2 hdp rfl | exact dp_ok 3 hdp rfl | ktr_room); (case k9 => exact BindsTo.of_eq rfl); (case c5 => decide); (case kB => exact locs rfl); (case c2 => exact rfl); (case c3 => exact rfl); (case c4 => exact rfl); k_whole)
  intro g' L' h' FG' F' N' B' X' T' R' S'
  (try dsimp only)
  (try k_fold)
  have T1 : g'.IsList l [Value.int a1 t1, Value.int a2 t2, Value.int a3 t3].toArray := ⟨_, S' _ _ hm1 (fun _ h => nomatch h), rfl, _, rfl⟩
  repeat' (first
    | (k_unfold; (try dsimp only))
    | ((with_reducible show wpAny _ _ (execs (_ :: _) _) _ _ _); (try k_gentoks); (try k_fold); (try dsimp only); refine (let A9 : Around := _; (?_ : wpAny _ A9 _ _ _ _)); (with_reducible rename News _ _ _ _ => kN); (with_reducible rename Fr _ _ _ _ => kF); refine (let n9 : List (Addr × Obj) := _; let m9 : Str → Option Value := _; (fun (kN : News _ _ _ n9) (kF : Fr _ _ _ m9) => ?_) kN kF); refine wpAny_execs_cons ?_; (try dsimp only))
    | (walk1; all_goals (try dsimp only))
    | (dsimp only; walk1)
    | (leave1; (try dsimp only)))
  exact hret _ _ _ (by k_asm) (by k_asm)

end Mine
end

section -- Hx
open PySem PySem.Spec PySem.Calls PySem.W PyProof.Rows
set_option linter.unusedVariables false
set_option maxRecDepth 100000
set_option maxHeartbeats 8000000
namespace Mine
noncomputable def hexA (gr : Bool) : List Int := if gr then [48,49,50,51,52,53,54,55,56,57,65,66,67,68,69,70] else [48,49,50,51,52,53,54,55,56,57,97,98,99,100,101,102]
noncomputable def hexC (gr : Bool) (d : Int) : Int := (hexA gr).getD d.toNat 0
noncomputable def hexL (gr : Bool) (c : Int) : Nat → List Int
  | 0 => []
  | k + 1 => hexC gr (c / 16 ^ k % 16) :: hexL gr c k
theorem sh4 (x : Int) : x.fdiv (2 ^ Int.toNat 4) = x / 16 := fdiv_pos x (by decide)
theorem and15 (x : Int) : Builtin.bitAnd x 15 = x % 16 := bitAnd_m4 x
theorem fm16 (x : Int) : x.fmod 16 = x % 16 := fmod_pos x (by decide)
theorem nib_lo (x : Int) : 0 ≤ Builtin.bitAnd x 15 ∧ Builtin.bitAnd x 15 < 16 := by rw [and15]; exact ⟨Int.emod_nonneg _ (by decide), Int.emod_lt_of_pos _ (by decide)⟩
theorem nib_hi {x : Int} (h : 0 ≤ x ∧ x < 256) : 0 ≤ x.fdiv (2 ^ Int.toNat 4) ∧ x.fdiv (2 ^ Int.toNat 4) < 16 := by rw [sh4]; exact ⟨Int.ediv_nonneg h.1 (by decide), Int.ediv_lt_of_lt_mul (by decide) h.2⟩
theorem hexC_in (gr : Bool) (d : Int) : 0 ≤ hexC gr d ∧ hexC gr d < 256 := by
  unfold hexC
  have : ∀ n : Nat, 0 ≤ (hexA gr).getD n 0 ∧ (hexA gr).getD n 0 < 256 := by
    intro n
    by_cases h : n < 16
    · have : ∀ gr : Bool, ∀ n : Nat, n < 16 → 0 ≤ (hexA gr).getD n 0 ∧ (hexA gr).getD n 0 < 256 := by decide
      exact this gr n h
    · have hl : (hexA gr).length = 16 := by cases gr <;> rfl
      have e : (hexA gr)[n]? = none := List.getElem?_eq_none (hl ▸ Nat.le_of_not_lt h)
      rw [List.getD_eq_getElem?_getD, e]
      decide
  exact this _
section
variable {prog : Program} {w : World} {A : Around} {E : Value → Shared → Prop} {s : Shared} {value slice : PySem.Expr} {i : Int} {t ui : Tok} {Q : Value → Shared → Prop}
theorem hex_item_f (h0 : 0 ≤ i) (h1 : i < 16) (hQ : ∀ t' k, 0 ≤ hexC false i → hexC false i < 256 → Q (.int (hexC false i) t') { s with toks := k })
    (hs : subscripted slice false (.bytes #[48,49,50,51,52,53,54,55,56,57,97,98,99,100,101,102] t) (.int i ui) = operate [.bytes #[48,49,50,51,52,53,54,55,56,57,97,98,99,100,101,102] t, .int i ui] (getItem (.bytes #[48,49,50,51,52,53,54,55,56,57,97,98,99,100,101,102] t) (.int i ui)))
    (ht : ∀ r, letTemporaryGo value (.bytes #[48,49,50,51,52,53,54,55,56,57,97,98,99,100,101,102] t) r = pure ()) :
    wpAny (model prog w) A (subscriptTail value slice (.bytes #[48,49,50,51,52,53,54,55,56,57,97,98,99,100,101,102] t) (.int i ui)) Q E s :=
  KBw.item_K (ks := hexA false) rfl (by decide) h0 h1 hQ hs ht
theorem hex_item_t (h0 : 0 ≤ i) (h1 : i < 16) (hQ : ∀ t' k, 0 ≤ hexC true i → hexC true i < 256 → Q (.int (hexC true i) t') { s with toks := k })
    (hs : subscripted slice false (.bytes #[48,49,50,51,52,53,54,55,56,57,65,66,67,68,69,70] t) (.int i ui) = operate [.bytes #[48,49,50,51,52,53,54,55,56,57,65,66,67,68,69,70] t, .int i ui] (getItem (.bytes #[48,49,50,51,52,53,54,55,56,57,65,66,67,68,69,70] t) (.int i ui)))
    (ht : ∀ r, letTemporaryGo value (.bytes #[48,49,50,51,52,53,54,55,56,57,65,66,67,68,69,70] t) r = pure ()) :
    wpAny (model prog w) A (subscriptTail value slice (.bytes #[48,49,50,51,52,53,54,55,56,57,65,66,67,68,69,70] t) (.int i ui)) Q E s :=
  KBw.item_K (ks := hexA true) rfl (by decide) h0 h1 hQ hs ht
end
end Mine
namespace Mine
theorem byte_hex (gr : Bool) (d : Int) : (((hexC gr d).toNat.toUInt8.toNat : Nat) : Int) = hexC gr d := byte_back (hexC_in gr d).1 (hexC_in gr d).2
noncomputable def oct1 (p : Int) : List Int := [hexC false (p / 16), hexC false (p % 16), hexC false (p / 16), hexC false (p % 16)]
noncomputable def octetsL (r g b : Int) : List Int := [114, 103, 98, 58] ++ (oct1 r ++ [47] ++ oct1 g ++ [47] ++ oct1 b)
end Mine
namespace Mine
theorem fd16 (c : Int) (k : Nat) : c.fdiv (16 ^ k) = c / 16 ^ k := fdiv_pos c (pow_pos_of (by decide) _)
end Mine
end

theorem Mine.offD6 : True := by
  w_top off
  trivial

section -- D6
open PySem PySem.Spec PySem.Calls PySem.W PyProof.Rows
set_option linter.unusedVariables false
set_option maxRecDepth 100000
set_option maxHeartbeats 8000000
set_option pp.deepTerms false
namespace Mine
variable {w : World} {mean : ExcName → Option Value} {mg mb : Str → Option Value} {dp un : Nat} {gd : Option (List Code)} {cn : Str} {cs : Scope} {a : Addr} {ccd : Value} {cl : List (Str × Addr)} {outer : List Env} {A₀ : Around} {base h₀ : Heap} {L : Addr} {m : Str → Option Value} {news : List (Addr × Obj)} {s : Shared} {Q E : Value → Shared → Prop}
theorem bints_cat (a b : Array UInt8) : KBw.bInts (a ++ b) = KBw.bInts a ++ KBw.bInts b := by
  simp only [KBw.bInts, Array.toList_append, List.map_append]
theorem c_octets
   (B : Below A₀ base outer h₀) (F : Fr h₀ L s.heap m) (X : (Mine.hd.heap_39 w.params).In h₀) (N : News h₀ L s.heap news) (T : Top Mine.hd.view_39 (looseW Mine.hd.view_39 []) mean mg mb h₀) (hk : cs.kind = .function)
   (hdp : dp + 2 < recursionLimit) (hun : un + 16 < cLine)
   {c : Int} {t : Tok}
   (hret : ∀ (b' : Array UInt8) (t : Tok) (h' : Heap) (tk' : Nat), KBw.bInts b' = octetsL (pR c) (pG c) (pB c) → Fr h₀ L h' m → News h₀ L h' news → Q (.bytes b' t) { s with heap := h', toks := tk' }) :
   wpAny (model PySem.Challenge.rw_og0237_01.row.prog w) (ktrTop dp un gd cn cs L a ccd cl outer) (call (.ref 76) [.int c t]) Q E s := by
  refine wpAny_call ?_
  revert X; k_fill; intro X
  k_dflt (refine' code_own (own := []) (rest := news) ?k1 ?k2 ?k3 ?k4 ?kr ?ko ?k5 ?kA ?kF ?kK ?k6 ?k7 ?k8 ?k9 ?kB ?_ ?c2 ?c3 ?c4 ?c5; (case kA => exact rfl); (case kF => exact rfl); (case kK => assumption); (case k1 => exact B); (case k2 => exact F); (case k3 => exact X); (case k4 => exact News.nil); (case kr => exact N); (case ko => exact fun _ _ _ h => nomatch h); (case k5 => exact T); (case k6 => k_is); (case k7 => k_is); (case k8 => first | exact dp_ok 0 hdp rfl | exact dp_ok 1 hdp rfl | exact dp_ok 2 hdp rfl | exact dp_ok 3 hdp rfl | ktr_room); (case k9 => exact BindsTo.of_eq rfl); (case c5 => decide); (case kB => exact locs rfl); (case c2 => exact rfl); (case c3 => exact rfl); (case c4 => exact rfl); k_whole)
  intro g' L' h' FG' F' N' B' X' T' R' S'
  (try dsimp only)
  (try k_fold)
  have a1 := pR_in c
  have a2 := pG_in c
  have a3 := pB_in c
  repeat' ((fail_if_success (with_reducible show ItemsRest _ _ _ _ _ _ _ _ _ _ _ _ _ _ _)); first
    | (k_unfold; (try dsimp only))
    | ((with_reducible show wpAny _ _ (execs (_ :: _) _) _ _ _); (try k_gentoks); (try k_fold); (try dsimp only); refine (let A9 : Around := _; (?_ : wpAny _ A9 _ _ _ _)); (with_reducible rename News _ _ _ _ => kN); (with_reducible rename Fr _ _ _ _ => kF); refine wpAny_execs_cons ?_; (try dsimp only))
    | ((with_reducible show wpAny _ _ (call (Value.ref _) _) _ _ _); first | (k_here; (with_reducible show wpAny _ _ (call (Value.ref 28) [_]) _ _ _); k_dflt (refine' c_rgb_of ?k0z4 ?k1z4 ?k2z4 ?k3z4 ?k4z4 ?k5z4 ?k6z4 ?k7z4 ?_; (case k0z4 => k_asm); (case k1z4 => k_asm); (case k2z4 => k_asm); (case k3z4 => k_asm); (case k4z4 => k_asm); (case k5z4 => first | exact rfl | assumption); (case k6z4 => first | exact dp_ok 0 hdp rfl | exact dp_ok 1 hdp rfl | exact dp_ok 2 hdp rfl | exact dp_ok 3 hdp rfl | ktr_room); (case k7z4 => first | exact un_ok hun rfl | exact un_ok0 hun rfl | ktr_units);  k_whole); intro D9 t9 u9 v9 n9 h9 tk9 F9 N9 l9; (try simp only [AllNe, and_true] at l9)))
    | (k_here; (with_reducible show wpAny _ _ (binaryOp Operator.Add (Value.bytes _ _) (Value.bytes _ _)) _ _ _); (refine' KBy.add_bytes ?z0z7 ?_; (case z0z7 => first | (refine' Nat.le_trans ?z1z7 ?z3z7; (case z1z7 => repeat' ((with_reducible show _ ≤ _); first | with_reducible assumption | with_reducible refine' szA ?_ ?_ | with_reducible refine' Nat.add_le_add ?_ ?_ | exact Nat.le_of_eq (by with_reducible assumption) | exact Nat.le_refl _)); (case z3z7 => exact Nat.le_of_ble_eq_true rfl)) | ((try simp only [Array.size_append, List.size_toArray, List.length_cons, List.length_nil]); omega)); k_whole); intro _ _)
    | ((with_reducible show ItemsRest _ _ _ _ _ _ _ _ _ _ _ _ _ _ _); (refine itm_sub (itm_at (ih _ _ _ _ ⟨_, _, rfl, ?_, rfl⟩) ov2_back) (by kcf_all)); (simp only [KBw.bInts, List.map_cons, Array.toList_append, List.map_append, List.map_nil, byte_hex, sh4, and15]); rfl)
    | (k_here; (with_reducible show wpAny _ _ (call (Value.builtin "list.append") [Value.ref _, _]) _ _ _); (with_reducible rename News _ _ _ _ => kN); (with_reducible rename Fr _ _ _ _ => kF); k_dflt (refine' append_K kF kN ?Uz5 ?_ ?szz5; (case Uz5 => k_upd); (case szz5 => first | (rw [List.size_toArray, sizeLine_eq]; exact Nat.le_trans (m := 2) (by with_reducible assumption) (Nat.le_of_ble_eq_true rfl)) | (rw [List.size_toArray, sizeLine_eq]; omega))); intro h9 F9 N9; (try simp only [List.push_toArray] at N9))
    | ((with_reducible show wpAny _ _ (exec (Stmt.For (Expr.Name _ _) (Expr.Call _ _ _ _) (_ :: _) [] _) _) _ _ _); (k_here; (rename Fr _ _ _ _ => lF'); (with_unfolding_all refine' For_turns lF' ?_; k_whole)))
    | (k_here; (with_reducible show wpAny _ _ (call (Value.builtin "bytes.join") [Value.bytes _ _, Value.ref _]) _ _ _); k_dflt (refine' join_call ?q1z2 ?q2z2 ?q3z2 ?_; (case q1z2 => k_asm); (case q2z2 => k_mem); (case q3z2 => first | (refine' Nat.le_trans ?z1z2 ?z3z2; (case z1z2 => repeat' ((with_reducible show _ ≤ _); first | with_reducible assumption | with_reducible refine' szA ?_ ?_ | with_reducible refine' Nat.add_le_add ?_ ?_ | exact Nat.le_of_eq (by with_reducible assumption) | exact Nat.le_refl _)); (case z3z2 => exact Nat.le_of_ble_eq_true rfl)) | (simp only [Array.size_append, byteArr_size, List.length_cons, List.length_nil, List.size_toArray]; omega))); intro _ _)
    | ((with_reducible show wpAny _ _ (getMethod (Value.bytes _ _) _ _) _ _ _); (k_here; (with_reducible refine join_method ?_)))
    | (k_here; (with_reducible show wpAny _ _ (subscriptTail _ _ (Value.bytes _ _) (Value.int _ _)) _ _ _); k_dflt (first | (refine' hex_item_f ?q1z0 ?q2z0 ?_ ?q4z0 ?q5z0; (case q4z0 => with_unfolding_all rfl); (case q5z0 => (intro _; with_unfolding_all rfl)); (case q1z0 => first | exact (nib_hi hd6).1 | exact (nib_lo _).1); (case q2z0 => first | exact (nib_hi hd6).2 | exact (nib_lo _).2)) | (refine' hex_item_t ?q1z0 ?q2z0 ?_ ?q4z0 ?q5z0; (case q4z0 => with_unfolding_all rfl); (case q5z0 => (intro _; with_unfolding_all rfl)); (case q1z0 => first | exact (nib_hi hd6).1 | exact (nib_lo _).1); (case q2z0 => first | exact (nib_hi hd6).2 | exact (nib_lo _).2))); intro _ _ _ _)
    | (walk1; all_goals (try dsimp only))
    | (dsimp only; walk1)
    | (leave1; (try dsimp only)))
  refine itm3_ind (x1 := Str.ofString "two") (x2 := Str.ofString "part") (fun d y => ∃ b t, y = .bytes b t ∧ KBw.bInts b = oct1 d ∧ b.size = 4) (ov2_start rfl rfl) (fun d td xs k v1 v2 r hd5 hx5 ih => ?_) (fun y1 y2 y3 k v1 v2 h1 h2 h3 => ?_)
  · have hd6 := or3_in hd5 a1 a2 a3
    repeat' (first
    | (k_unfold; (try dsimp only))
    | ((with_reducible show wpAny _ _ (execs (_ :: _) _) _ _ _); (try k_gentoks); (try k_fold); (try dsimp only); refine (let A9 : Around := _; (?_ : wpAny _ A9 _ _ _ _)); (with_reducible rename News _ _ _ _ => kN); (with_reducible rename Fr _ _ _ _ => kF); refine wpAny_execs_cons ?_; (try dsimp only))
    | ((with_reducible show wpAny _ _ (call (Value.ref _) _) _ _ _); first | (k_here; (with_reducible show wpAny _ _ (call (Value.ref 28) [_]) _ _ _); k_dflt (refine' c_rgb_of ?k0z4 ?k1z4 ?k2z4 ?k3z4 ?k4z4 ?k5z4 ?k6z4 ?k7z4 ?_; (case k0z4 => k_asm); (case k1z4 => k_asm); (case k2z4 => k_asm); (case k3z4 => k_asm); (case k4z4 => k_asm); (case k5z4 => first | exact rfl | assumption); (case k6z4 => first | exact dp_ok 0 hdp rfl | exact dp_ok 1 hdp rfl | exact dp_ok 2 hdp rfl | exact dp_ok 3 hdp rfl | ktr_room); (case k7z4 => first | exact un_ok hun rfl | exact un_ok0 hun rfl | ktr_units);  k_whole); intro D9 t9 u9 v9 n9 h9 tk9 F9 N9 l9; (try simp only [AllNe, and_true] at l9)))
    | (k_here; (with_reducible show wpAny _ _ (binaryOp Operator.Add (Value.bytes _ _) (Value.bytes _ _)) _ _ _); (refine' KBy.add_bytes ?z0z7 ?_; (case z0z7 => first | (refine' Nat.le_trans ?z1z7 ?z3z7; (case z1z7 => repeat' ((with_reducible show _ ≤ _); first | with_reducible assumption | with_reducible refine' szA ?_ ?_ | with_reducible refine' Nat.add_le_add ?_ ?_ | exact Nat.le_of_eq (by with_reducible assumption) | exact Nat.le_refl _)); (case z3z7 => exact Nat.le_of_ble_eq_true rfl)) | ((try simp only [Array.size_append, List.size_toArray, List.length_cons, List.length_nil]); omega)); k_whole); intro _ _)
    | ((with_reducible show ItemsRest _ _ _ _ _ _ _ _ _ _ _ _ _ _ _); (refine itm_sub (itm_at (ih _ _ _ _ ⟨_, _, rfl, ?_, rfl⟩) ov2_back) (by kcf_all)); (simp only [KBw.bInts, List.map_cons, Array.toList_append, List.map_append, List.map_nil, byte_hex, sh4, and15]); rfl)
    | (k_here; (with_reducible show wpAny _ _ (call (Value.builtin "list.append") [Value.ref _, _]) _ _ _); (with_reducible rename News _ _ _ _ => kN); (with_reducible rename Fr _ _ _ _ => kF); k_dflt (refine' append_K kF kN ?Uz5 ?_ ?szz5; (case Uz5 => k_upd); (case szz5 => first | (rw [List.size_toArray, sizeLine_eq]; exact Nat.le_trans (m := 2) (by with_reducible assumption) (Nat.le_of_ble_eq_true rfl)) | (rw [List.size_toArray, sizeLine_eq]; omega))); intro h9 F9 N9; (try simp only [List.push_toArray] at N9))
    | ((with_reducible show wpAny _ _ (exec (Stmt.For (Expr.Name _ _) (Expr.Call _ _ _ _) (_ :: _) [] _) _) _ _ _); (k_here; (rename Fr _ _ _ _ => lF'); (with_unfolding_all refine' For_turns lF' ?_; k_whole)))
    | (k_here; (with_reducible show wpAny _ _ (call (Value.builtin "bytes.join") [Value.bytes _ _, Value.ref _]) _ _ _); k_dflt (refine' join_call ?q1z2 ?q2z2 ?q3z2 ?_; (case q1z2 => k_asm); (case q2z2 => k_mem); (case q3z2 => first | (refine' Nat.le_trans ?z1z2 ?z3z2; (case z1z2 => repeat' ((with_reducible show _ ≤ _); first | with_reducible assumption | with_reducible refine' szA ?_ ?_ | with_reducible refine' Nat.add_le_add ?_ ?_ | exact Nat.le_of_eq (by with_reducible assumption) | exact Nat.le_refl _)); (case z3z2 => exact Nat.le_of_ble_eq_true rfl)) | (simp only [Array.size_append, byteArr_size, List.length_cons, List.length_nil, List.size_toArray]; omega))); intro _ _)
    | ((with_reducible show wpAny _ _ (getMethod (Value.bytes _ _) _ _) _ _ _); (k_here; (with_reducible refine join_method ?_)))
    | (k_here; (with_reducible show wpAny _ _ (subscriptTail _ _ (Value.bytes _ _) (Value.int _ _)) _ _ _); k_dflt (first | (refine' hex_item_f ?q1z0 ?q2z0 ?_ ?q4z0 ?q5z0; (case q4z0 => with_unfolding_all rfl); (case q5z0 => (intro _; with_unfolding_all rfl)); (case q1z0 => first | exact (nib_hi hd6).1 | exact (nib_lo _).1); (case q2z0 => first | exact (nib_hi hd6).2 | exact (nib_lo _).2)) | (refine' hex_item_t ?q1z0 ?q2z0 ?_ ?q4z0 ?q5z0; (case q4z0 => with_unfolding_all rfl); (case q5z0 => (intro _; with_unfolding_all rfl)); (case q1z0 => first | exact (nib_hi hd6).1 | exact (nib_lo _).1); (case q2z0 => first | exact (nib_hi hd6).2 | exact (nib_lo _).2))); intro _ _ _ _)
    | (walk1; all_goals (try dsimp only))
    | (dsimp only; walk1)
    | (leave1; (try dsimp only)))
  · obtain ⟨b1, t1, rfl, e1, z1⟩ := h1
    obtain ⟨b2, t2, rfl, e2, z2⟩ := h2
    obtain ⟨b3, t3, rfl, e3, z3⟩ := h3
    repeat' (first
    | (k_unfold; (try dsimp only))
    | ((with_reducible show wpAny _ _ (execs (_ :: _) _) _ _ _); (try k_gentoks); (try k_fold); (try dsimp only); refine (let A9 : Around := _; (?_ : wpAny _ A9 _ _ _ _)); (with_reducible rename News _ _ _ _ => kN); (with_reducible rename Fr _ _ _ _ => kF); refine wpAny_execs_cons ?_; (try dsimp only))
    | ((with_reducible show wpAny _ _ (call (Value.ref _) _) _ _ _); first | (k_here; (with_reducible show wpAny _ _ (call (Value.ref 28) [_]) _ _ _); k_dflt (refine' c_rgb_of ?k0z4 ?k1z4 ?k2z4 ?k3z4 ?k4z4 ?k5z4 ?k6z4 ?k7z4 ?_; (case k0z4 => k_asm); (case k1z4 => k_asm); (case k2z4 => k_asm); (case k3z4 => k_asm); (case k4z4 => k_asm); (case k5z4 => first | exact rfl | assumption); (case k6z4 => first | exact dp_ok 0 hdp rfl | exact dp_ok 1 hdp rfl | exact dp_ok 2 hdp rfl | exact dp_ok 3 hdp rfl | ktr_room); (case k7z4 => first | exact un_ok hun rfl | exact un_ok0 hun rfl | ktr_units);  k_whole); intro D9 t9 u9 v9 n9 h9 tk9 F9 N9 l9; (try simp only [AllNe, and_true] at l9)))
    | (k_here; (with_reducible show wpAny _ _ (binaryOp Operator.Add (Value.bytes _ _) (Value.bytes _ _)) _ _ _); (refine' KBy.add_bytes ?z0z7 ?_; (case z0z7 => first | (refine' Nat.le_trans ?z1z7 ?z3z7; (case z1z7 => repeat' ((with_reducible show _ ≤ _); first | with_reducible assumption | with_reducible refine' szA ?_ ?_ | with_reducible refine' Nat.add_le_add ?_ ?_ | exact Nat.le_of_eq (by with_reducible assumption) | exact Nat.le_refl _)); (case z3z7 => exact Nat.le_of_ble_eq_true rfl)) | ((try simp only [Array.size_append, List.size_toArray, List.length_cons, List.length_nil]); omega)); k_whole); intro _ _)
    | ((with_reducible show ItemsRest _ _ _ _ _ _ _ _ _ _ _ _ _ _ _); (refine itm_sub (itm_at (ih _ _ _ _ ⟨_, _, rfl, ?_, rfl⟩) ov2_back) (by kcf_all)); (simp only [KBw.bInts, List.map_cons, Array.toList_append, List.map_append, List.map_nil, byte_hex, sh4, and15]); rfl)
    | (k_here; (with_reducible show wpAny _ _ (call (Value.builtin "list.append") [Value.ref _, _]) _ _ _); (with_reducible rename News _ _ _ _ => kN); (with_reducible rename Fr _ _ _ _ => kF); k_dflt (refine' append_K kF kN ?Uz5 ?_ ?szz5; (case Uz5 => k_upd); (case szz5 => first | (rw [List.size_toArray, sizeLine_eq]; exact Nat.le_trans (m := 2) (by with_reducible assumption) (Nat.le_of_ble_eq_true rfl)) | (rw [List.size_toArray, sizeLine_eq]; omega))); intro h9 F9 N9; (try simp only [List.push_toArray] at N9))
    | ((with_reducible show wpAny _ _ (exec (Stmt.For (Expr.Name _ _) (Expr.Call _ _ _ _) (_ :: _) [] _) _) _ _ _); (k_here; (rename Fr _ _ _ _ => lF'); (with_unfolding_all refine' For_turns lF' ?_; k_whole)))
    | (k_here; (with_reducible show wpAny _ _ (call (Value.builtin "bytes.join") [Value.bytes _ _, Value.ref _]) _ _ _); k_dflt (refine' join_call ?q1z2 ?q2z2 ?q3z2 ?_; (case q1z2 => k_asm); (case q2z2 => k_mem); (case q3z2 => first | (refine' Nat.le_trans ?z1z2 ?z3z2; (case z1z2 => repeat' ((with_reducible show _ ≤ _); first | with_reducible assumption | with_reducible refine' szA ?_ ?_ | with_reducible refine' Nat.add_le_add ?_ ?_ | exact Nat.le_of_eq (by with_reducible assumption) | exact Nat.le_refl _)); (case z3z2 => exact Nat.le_of_ble_eq_true rfl)) | (simp only [Array.size_append, byteArr_size, List.length_cons, List.length_nil, List.size_toArray]; omega))); intro _ _)
    | ((with_reducible show wpAny _ _ (getMethod (Value.bytes _ _) _ _) _ _ _); (k_here; (with_reducible refine join_method ?_)))
    | (k_here; (with_reducible show wpAny _ _ (subscriptTail _ _ (Value.bytes _ _) (Value.int _ _)) _ _ _); k_dflt (first | (refine' hex_item_f ?q1z0 ?q2z0 ?_ ?q4z0 ?q5z0; (case q4z0 => with_unfolding_all rfl); (case q5z0 => (intro _; with_unfolding_all rfl)); (case q1z0 => first | exact (nib_hi hd6).1 | exact (nib_lo _).1); (case q2z0 => first | exact (nib_hi hd6).2 | exact (nib_lo _).2)) | (refine' hex_item_t ?q1z0 ?q2z0 ?_ ?q4z0 ?q5z0; (case q4z0 => with_unfolding_all rfl); (case q5z0 => (intro _; with_unfolding_all rfl)); (case q1z0 => first | exact (nib_hi hd6).1 | exact (nib_lo _).1); (case q2z0 => first | exact (nib_hi hd6).2 | exact (nib_lo _).2))); intro _ _ _ _)
    | (walk1; all_goals (try dsimp only))
    | (dsimp only; walk1)
    | (leave1; (try dsimp only)))
    refine hret _ _ _ _ ?_ (by k_asm) (by k_asm)
    simp only [bints_cat, e1, e2, e3]
    rfl

end Mine
end

section -- Cb2
open PySem PySem.Spec PySem.Calls PySem.W PyProof.Rows
set_option linter.unusedVariables false
set_option maxRecDepth 100000
set_option maxHeartbeats 8000000
namespace Mine
noncomputable def stepKs (a c : Int) (n : Nat) : List Int := (List.range n).map fun i : Nat => a + (i : Int) * c
theorem stepKs_len (a c : Int) (n : Nat) : (stepKs a c n).length = n := by simp [stepKs]
theorem stepKs_get {a c : Int} {n : Nat} (i : Nat) (v : Value) (hi : i < n) (h : ∃ t, v = Value.int (a + (i : Int) * c) t) : ∃ k t, (stepKs a c n)[i]? = some k ∧ v = .int k t := by
  obtain ⟨t, e⟩ := h
  exact ⟨_, t, by simp [stepKs, hi], e⟩
theorem stepKs_mem {a c k : Int} {n : Nat} (h : k ∈ stepKs a c n) : ∃ i : Nat, i < n ∧ k = a + (i : Int) * c := by
  obtain ⟨i, hi, e⟩ := List.mem_map.mp h
  exact ⟨i, List.mem_range.mp hi, e.symm⟩
theorem filterMap_none (l : List Int) : l.filterMap (fun _ => (none : Option Int)) = [] := by
  induction l with
  | nil => rfl
  | cons c r ih => simpa using ih
end Mine
namespace Mine
open PyProof.Rows.LCg PyProof.Rows.LCt
theorem end_left {h₀ : Heap} {L I C D : Addr} {m : Str → Option Value} {s₁ : Shared} {oI oC oD : Obj} {S : List (Addr × Obj) → Prop} {g : Int → Option Int} {k : Int} {y : Value} {h' : Heap} {tk : Nat} {all news : List (Addr × Obj)}
    (F : Fr h₀ L h' m) (N : News h₀ L h' all) (sub : ∀ p ∈ (I, oI) :: (C, oC) :: (D, oD) :: news, p ∈ all) (off : Off3 I C D news) (hS : S news) (hg : g k = none) :
    CompEnd h₀ L m s₁ I oI C oC D oD S (fun _ news' => TLeft news g k news') y { s₁ with heap := h', toks := tk } := CompEnd.intro F N news sub off hS ⟨rfl, hg⟩
theorem end_taken {h₀ : Heap} {L I C D : Addr} {m : Str → Option Value} {s₁ : Shared} {oI oC oD : Obj} {S : List (Addr × Obj) → Prop} {g : Int → Option Int} {k r : Int} {t : Tok} {h' : Heap} {tk : Nat} {all news : List (Addr × Obj)}
    (F : Fr h₀ L h' m) (N : News h₀ L h' all) (sub : ∀ p ∈ (I, oI) :: (C, oC) :: (D, oD) :: news, p ∈ all) (off : Off3 I C D news) (hS : S news) (hg : g k = some r) :
    CompEnd h₀ L m s₁ I oI C oC D oD S (fun y news' => TTaken news g k y news') (.int r t) { s₁ with heap := h', toks := tk } := CompEnd.intro F N news sub off hS ⟨rfl, _, _, hg, rfl⟩
end Mine
end

section -- Tq
open PySem PySem.Spec PySem.Calls PySem.W PyProof.Rows
set_option linter.unusedVariables false
set_option maxRecDepth 100000
set_option maxHeartbeats 8000000
namespace Mine
/-- the item at an unknown place of four -/
noncomputable def nF (k a b c d : Int) : Int := if k = 0 then a else if k = 1 then b else if k = 2 then c else d
theorem nF_in {k a b c d : Int} (ha : 0 ≤ a ∧ a < 65536) (hb : 0 ≤ b ∧ b < 65536) (hc : 0 ≤ c ∧ c < 65536) (hd : 0 ≤ d ∧ d < 65536) : 0 ≤ nF k a b c d ∧ nF k a b c d < 65536 := by
  unfold nF
  (repeat' split) <;> assumption
theorem fd17 (x : Int) : x.fdiv 17 = x / 17 := fdiv_pos x (by decide)
theorem fdd16 (x : Int) : x.fdiv 16 = x / 16 := fdiv_pos x (by decide)
theorem d17_fin : ∀ n : Nat, n < 256 → (0 ≤ (n : Int) / 17 * 17 ∧ (n : Int) / 17 * 17 < 256) ∧ (0 ≤ (n : Int) / 17 ∧ (n : Int) / 17 < 65536) ∧ (0 ≤ (n : Int) ∧ (n : Int) < 65536) ∧ (0 ≤ (n : Int) / 17 * 273 ∧ (n : Int) / 17 * 273 < 65536) ∧ (0 ≤ (n : Int) * 257 ∧ (n : Int) * 257 < 65536) := by decide +kernel
theorem d17_in {d : Int} (h : 0 ≤ d ∧ d < 256) : (0 ≤ d.fdiv 17 * 17 ∧ d.fdiv 17 * 17 < 256) ∧ (0 ≤ d.fdiv 17 ∧ d.fdiv 17 < 65536) ∧ (0 ≤ d ∧ d < 65536) ∧ (0 ≤ d.fdiv 17 * 273 ∧ d.fdiv 17 * 273 < 65536) ∧ (0 ≤ d * 257 ∧ d * 257 < 65536) := by
  rw [fd17]
  exact fin_int (P := fun d => (0 ≤ d / 17 * 17 ∧ d / 17 * 17 < 256) ∧ (0 ≤ d / 17 ∧ d / 17 < 65536) ∧ (0 ≤ d ∧ d < 65536) ∧ (0 ≤ d / 17 * 273 ∧ d / 17 * 273 < 65536) ∧ (0 ≤ d * 257 ∧ d * 257 < 65536)) 256 d17_fin h.1 h.2
theorem hexL_len (gr : Bool) (c : Int) : ∀ n, (hexL gr c n).length = n
  | 0 => rfl
  | n + 1 => by
    unfold hexL
    rw [List.length_cons, hexL_len gr c n]
theorem hex_sz {gr : Bool} {c : Int} {n : Nat} {b : Array UInt8} (e : KBw.bInts b = hexL gr c n) : b.size = n := by
  rw [← KBw.ints_length b, e, hexL_len]
theorem hex_sz4 {gr : Bool} {c many : Int} {b : Array UInt8} (e : KBw.bInts b = hexL gr c many.toNat) (h : many ≤ 4) : b.size ≤ 4 := by
  rw [hex_sz e]; omega
theorem nn2 {r : Int} (h : 0 ≤ r) (h2 : 1 + r ≠ 1) : 0 ≤ 1 + r - 2 := by omega
theorem d16_in {p : Int} (h : 0 ≤ p ∧ p < 256) : 0 ≤ p.fdiv 16 ∧ p.fdiv 16 < 65536 := by rw [fdd16]; exact fin_int (P := fun p => 0 ≤ p / 16 ∧ p / 16 < 65536) 256 (by decide +kernel) h.1 h.2
theorem off1_ne {D a : Addr} {o : Obj} : ∀ {l : List (Addr × Obj)}, LCg.Off1 D l → (a, o) ∈ l → @Ne Nat a D
  | [], _, h => nomatch h
  | p :: r, x, h => by
    rcases List.mem_cons.mp h with rfl | h
    · exact x.1
    · exact off1_ne x.2 h
theorem allLt_ne {D a : Addr} {o : Obj} : ∀ {l : List (Addr × Obj)}, AllLt D l → (a, o) ∈ l → @Ne Nat a D
  | [], _, h => nomatch h
  | p :: r, x, h => by
    rcases List.mem_cons.mp h with rfl | h
    · exact Nat.ne_of_lt x.1
    · exact allLt_ne x.2 h
theorem allNe_ne {D a : Addr} {o : Obj} : ∀ {l : List (Addr × Obj)}, AllNe D l → (a, o) ∈ l → @Ne Nat a D
  | [], _, h => nomatch h
  | p :: r, x, h => by
    rcases List.mem_cons.mp h with rfl | h
    · exact x.1
    · exact allNe_ne x.2 h
section
variable {prog : Program} {w : World} {A : Around} {E : Value → Shared → Prop} {s : Shared}
theorem item4 {value slice : PySem.Expr} {l : Addr} {a b c d k : Int} {t1 t2 t3 t4 u : Tok} {Q : Value → Shared → Prop} (hl : s.heap.IsList l (#[.int a t1, .int b t2, .int c t3, .int d t4] : Array Value)) (h0 : 0 ≤ k) (h3 : k ≤ 3)
    (ha : 0 ≤ a ∧ a < 65536) (hb : 0 ≤ b ∧ b < 65536) (hc : 0 ≤ c ∧ c < 65536) (hd : 0 ≤ d ∧ d < 65536)
    (h : ∀ v t, v = nF k a b c d → 0 ≤ v → v < 65536 → Q (.int v t) s)
    (hs : subscripted slice false (.ref l) (.int k u) = operate [.ref l, .int k u] (getItem (.ref l) (.int k u))) :
    wpAny (model prog w) A (subscriptTail value slice (.ref l) (.int k u)) Q E s := by
  rcases fewI h0 (Int.lt_of_le_of_lt h3 (by decide)) with rfl | rfl | rfl | rfl
  · exact item_litK (vs := [.int a t1, .int b t2, .int c t3, .int d t4]) hl (by decide) (by decide) rfl (h _ _ rfl ha.1 ha.2) hs
  · exact item_litK (vs := [.int a t1, .int b t2, .int c t3, .int d t4]) hl (by decide) (by decide) rfl (h _ _ rfl hb.1 hb.2) hs
  · exact item_litK (vs := [.int a t1, .int b t2, .int c t3, .int d t4]) hl (by decide) (by decide) rfl (h _ _ rfl hc.1 hc.2) hs
  · exact item_litK (vs := [.int a t1, .int b t2, .int c t3, .int d t4]) hl (by decide) (by decide) rfl (h _ _ rfl hd.1 hd.2) hs
end
end Mine
end

theorem Mine.offD5 : True := by
  w_top off
  trivial

section -- D5
open PySem PySem.Spec PySem.Calls PySem.W PyProof.Rows
set_option linter.unusedVariables false
set_option maxRecDepth 100000
set_option maxHeartbeats 8000000
set_option pp.deepTerms false
namespace Mine
variable {w : World} {mean : ExcName → Option Value} {mg mb : Str → Option Value} {dp un : Nat} {gd : Option (List Code)} {cn : Str} {cs : Scope} {a : Addr} {ccd : Value} {cl : List (Str × Addr)} {outer : List Env} {A₀ : Around} {base h₀ : Heap} {L : Addr} {m : Str → Option Value} {news : List (Addr × Obj)} {s : Shared} {Q E : Value → Shared → Prop}
section
open PyProof.Rows.LCg PyProof.Rows.LCt
variable {prog : Program} {A : Around} {env : Env} {elt : Expr} {x : Str} {scope : Scope} {S : List (Addr × Obj) → Prop} {P : Nat → Value → Prop} {Fin : List Value → List (Addr × Obj) → Prop}
/-- a comprehension over ints without a test, folded -/
theorem restU_fold {n : Nat} {ks : List Int} (g : Int → Int) (hks : ks.length = n) (hP : ∀ i v, i < n → P i v → ∃ k t, ks[i]? = some k ∧ v = .int k t)
    (turn : ∀ k t I oI C oC D m₂ ys h tk (E' : Value → Shared → Prop), k ∈ ks → NsObj oC m₂ → m₂ x = some (.int k t) → Fr h₀ L h m → News h₀ L h ((I, oI) :: (C, oC) :: (D, lst ys) :: news) → Off3 I C D news →
      wpAny (model prog w) A (eval elt (compEnvC scope cl C env)) (CompEnd h₀ L m { s with heap := h, toks := tk } I oI C oC D (lst ys) S (fun y news' => TTaken news (fun k => some (g k)) k y news')) E' { s with heap := h, toks := tk })
    (fin : ∀ ys, IntsAre ys (ks.map g) → Fin ys news) : CompRest prog w A h₀ L m env elt x scope cl s S P Fin n 0 [] news := by
  have key : ∀ (j i : Nat) (ys : List Value), i + j = n → IntsAre ys ((ks.take i).map g) → CompRest prog w A h₀ L m env elt x scope cl s S P Fin j i ys news := by
    intro j
    induction j with
    | zero =>
      intro i ys hi hy
      have e : i = ks.length := by omega
      subst e
      rw [List.take_length] at hy
      exact CompRest.zero (fin ys hy)
    | succ j ih =>
      intro i ys hi hy
      refine CompRest.succ ?_
      intro v I oI C oC D m₂ h tk E' hv hC hx F N off ne
      obtain ⟨k, t, hk, hv'⟩ := hP i v (by omega) hv
      rw [hv'] at hx
      have et : ks.take (i + 1) = ks.take i ++ [k] := by rw [List.take_add_one, hk]; rfl
      refine wpAny_mono (turn k t I oI C oC D m₂ ys h tk E' (List.mem_of_getElem? hk) hC hx F N off) (fun y s₃ hq => ?_) fun _ _ e => e
      obtain ⟨h', tk', nw, e, F', N', off', hS, hn, r, t', hg, hy'⟩ := hq
      rw [hn] at N' off' hS
      cases hg
      refine ⟨h', tk', news, e, F', N', off', hS, ?_⟩
      rw [hy']
      refine ih (i + 1) _ (by omega) ?_
      rw [et, List.map_append]
      exact IntsAre.append hy (.cons _ t' .nil)
  exact key n 0 [] (by omega) (by simp only [List.take_zero, List.map_nil]; exact .nil)
end
theorem hex_steps (gr : Bool) (c : Int) : ∀ n : Nat, (stepKs ((n : Int) - 1) (-1) n).map (fun k => hexC gr (c / 16 ^ k.toNat % 16)) = hexL gr c n
  | 0 => rfl
  | n + 1 => by
    have e : stepKs (((n + 1 : Nat) : Int) - 1) (-1) (n + 1) = (n : Int) :: stepKs ((n : Int) - 1) (-1) n := by
      unfold stepKs
      rw [List.range_succ_eq_map, List.map_cons, List.map_map]
      congr 1
      · omega
      · refine List.map_congr_left fun i _ => ?_
        simp only [Function.comp]
        omega
    rw [e, List.map_cons, hex_steps gr c n]
    rfl
theorem hexL_in {gr : Bool} {c : Int} : ∀ {n : Nat} {k : Int}, k ∈ hexL gr c n → 0 ≤ k ∧ k < 256
  | n + 1, k, h => by
    rcases List.mem_cons.mp h with rfl | h
    · exact hexC_in _ _
    · exact hexL_in h

theorem div16 {A : Around} {c k : Int} {t u : Tok} (k0 : 0 ≤ k) (k1 : k ≤ 3) (hQ : ∀ t' tk', Q (.int (c.fdiv (16 ^ k.toNat)) t') { s with toks := tk' }) : wpAny (model PySem.Challenge.rw_og0237_01.row.prog w) A (binaryOp .FloorDiv (.int c t) (.int (16 ^ k.toNat) u)) Q E s := by
  rcases (by omega : k = 0 ∨ k = 1 ∨ k = 2 ∨ k = 3) with rfl | rfl | rfl | rfl
  · exact floordiv_int (by decide) (hQ _ _) (Or.inl (PyProof.noPylong_small (by decide)))
  · exact floordiv_int (by decide) (hQ _ _) (Or.inl (PyProof.noPylong_small (by decide)))
  · exact floordiv_int (by decide) (hQ _ _) (Or.inl (PyProof.noPylong_small (by decide)))
  · exact floordiv_int (by decide) (hQ _ _) (Or.inl (PyProof.noPylong_small (by decide)))
theorem c_law_hex_f
   (B : Below A₀ base outer h₀) (F : Fr h₀ L s.heap m) (X : (Mine.hd.heap_39 w.params).In h₀) (N : News h₀ L s.heap news) (T : Top Mine.hd.view_39 (looseW Mine.hd.view_39 []) mean mg mb h₀) (hk : cs.kind = .function)
   (hdp : dp + 1 < recursionLimit) (hun : un + 8 < cLine)
   {c many : Int} {t u : Tok} (h0 : 0 ≤ c) (h1 : c < 65536) (m0 : 1 ≤ many) (m1 : many ≤ 4)
   (hret : ∀ (b' : Array UInt8) (t : Tok) (h' : Heap) (tk' : Nat), KBw.bInts b' = hexL false c many.toNat → Fr h₀ L h' m → News h₀ L h' news → Q (.bytes b' t) { s with heap := h', toks := tk' }) :
   wpAny (model PySem.Challenge.rw_og0237_01.row.prog w) (ktrTop dp un gd cn cs L a ccd cl outer) (call (.ref 157) [.int c t, .int many u, .bool false]) Q E s := by
  refine wpAny_call ?_
  revert X; k_fill; intro X
  k_dflt (refine' code_ownC (own := []) (rest := news) ?k1 ?k2 ?k3 ?k4 ?kr ?ko ?k5 ?kA ?kF ?kK ?k6 ?k7 ?k8 ?k9 ?kB ?kD ?_ ?c2 ?c3 ?c4; (case kA => exact rfl); (case kF => exact rfl); (case kK => assumption); (case k1 => exact B); (case k2 => exact F); (case k3 => exact X); (case k4 => exact News.nil); (case kr => exact N); (case ko => exact fun _ _ _ h => nomatch h); (case k5 => exact T); (case k6 => k_is); (case k7 => k_is); (case k8 => first | exact dp_ok 0 hdp rfl | exact dp_ok 1 hdp rfl | exact dp_ok 2 hdp rfl | exact dp_ok 3 hdp rfl | ktr_room); (case k9 => exact BindsTo.of_eq rfl); (case kB => exact rfl); (case kD => decide +kernel); (case c2 => exact rfl); (case c3 => exact rfl); (case c4 => exact rfl); k_whole)
  intro g' L' h' tk' cells' FG' F' N' Y' B' X' T' l1 R' S'
  (try k_lt l1)
  k_cells Y'
  (try simp only [List.cons_append, List.nil_append] at N')
  (try dsimp only)
  (try k_fold)
  repeat' (first
    | (k_unfold; (try dsimp only))
    | ((with_reducible show wpAny _ _ (execs (_ :: _) _) _ _ _); (try k_gentoks); (try k_fold); (try dsimp only); refine (let A9 : Around := _; (?_ : wpAny _ A9 _ _ _ _)); (with_reducible rename News _ _ _ _ => kN); (with_reducible rename Fr _ _ _ _ => kF); refine wpAny_execs_cons ?_; (try dsimp only))
    | ((with_reducible show wpAny _ _ (eval (Expr.ListComp _ _ _ _) _) _ _ _); (k_here; k_dflt (refine' comp_U ?q0z3 ?q1z3 ?q2z3 ?q3z3 ?q4z3 ?q5z3 ?_ ?q7z3; (case q0z3 => k_asm); (case q1z3 => with_unfolding_all rfl); (case q2z3 => decide); (case q3z3 => rfl); (case q4z3 => decide); (case q5z3 => rfl); (case q7z3 => (intro _; rfl)))))
    | (k_here; (with_reducible show wpAny _ _ (subscriptTail _ _ (Value.bytes #[48,49,50,51,52,53,54,55,56,57,65,66,67,68,69,70] _) (Value.int _ _)) _ _ _); k_dflt (refine' hex_item_t ?q1z2 ?q2z2 ?_ ?q4z2 ?q5z2; (case q4z2 => with_unfolding_all rfl); (case q5z2 => (intro _; with_unfolding_all rfl)); (case q1z2 => (simp only [fm16]; omega)); (case q2z2 => (simp only [fm16]; omega))); intro _ _ _ _)
    | (k_here; (with_reducible show wpAny _ _ (subscriptTail _ _ (Value.bytes #[48,49,50,51,52,53,54,55,56,57,97,98,99,100,101,102] _) (Value.int _ _)) _ _ _); k_dflt (refine' hex_item_f ?q1z1 ?q2z1 ?_ ?q4z1 ?q5z1; (case q4z1 => with_unfolding_all rfl); (case q5z1 => (intro _; with_unfolding_all rfl)); (case q1z1 => (simp only [fm16]; omega)); (case q2z1 => (simp only [fm16]; omega))); intro _ _ _ _)
    | (k_here; (with_reducible show wpAny _ _ (binaryOp Operator.FloorDiv (Value.int _ _) (Value.int (16 ^ _) _)) _ _ _); (refine div16 (by assumption) (by assumption) ?_); intro _ _)
    | (walk1; all_goals (try dsimp only))
    | (dsimp only; walk1)
    | (leave1; (try dsimp only)))
  rename IsRange _ _ _ _ _ _ _ _ => hR
  have hn : many = ((many.toNat : Nat) : Int) := by omega
  refine SrcU.range (n := many.toNat) rfl (by k_asm) (by k_asm) hR (by rcases (by omega : many = 1 ∨ many = 2 ∨ many = 3 ∨ many = 4) with rfl | rfl | rfl | rfl <;> decide) (by rcases (by omega : many = 1 ∨ many = 2 ∨ many = 3 ∨ many = 4) with rfl | rfl | rfl | rfl <;> decide) (by rw [sizeLine_eq]; omega) (fun g1 => restU_fold (ks := stepKs (many - 1) (-1) many.toNat) (fun k => hexC false (c / 16 ^ k.toNat % 16)) (stepKs_len _ _ _) (fun i v hi hv => stepKs_get i v hi hv) ?_ ?_)
  · intro k t1 I oI C oC D m2 ys h1 tk1 E1 hk hNs hx F1 N1 off
    obtain ⟨i, hi, ek⟩ := stepKs_mem hk
    have k0 : 0 ≤ k := by omega
    have k1 : k ≤ 3 := by omega
    clear hi ek hR hk
    (try simp only [PyProof.Rows.LCg.Off3, and_true] at off)
    repeat' (first
    | (k_unfold; (try dsimp only))
    | ((with_reducible show wpAny _ _ (execs (_ :: _) _) _ _ _); (try k_gentoks); (try k_fold); (try dsimp only); refine (let A9 : Around := _; (?_ : wpAny _ A9 _ _ _ _)); (with_reducible rename News _ _ _ _ => kN); (with_reducible rename Fr _ _ _ _ => kF); refine wpAny_execs_cons ?_; (try dsimp only))
    | ((with_reducible show wpAny _ _ (eval (Expr.ListComp _ _ _ _) _) _ _ _); (k_here; k_dflt (refine' comp_U ?q0z3 ?q1z3 ?q2z3 ?q3z3 ?q4z3 ?q5z3 ?_ ?q7z3; (case q0z3 => k_asm); (case q1z3 => with_unfolding_all rfl); (case q2z3 => decide); (case q3z3 => rfl); (case q4z3 => decide); (case q5z3 => rfl); (case q7z3 => (intro _; rfl)))))
    | (k_here; (with_reducible show wpAny _ _ (subscriptTail _ _ (Value.bytes #[48,49,50,51,52,53,54,55,56,57,65,66,67,68,69,70] _) (Value.int _ _)) _ _ _); k_dflt (refine' hex_item_t ?q1z2 ?q2z2 ?_ ?q4z2 ?q5z2; (case q4z2 => with_unfolding_all rfl); (case q5z2 => (intro _; with_unfolding_all rfl)); (case q1z2 => (simp only [fm16]; omega)); (case q2z2 => (simp only [fm16]; omega))); intro _ _ _ _)
    | (k_here; (with_reducible show wpAny _ _ (subscriptTail _ _ (Value.bytes #[48,49,50,51,52,53,54,55,56,57,97,98,99,100,101,102] _) (Value.int _ _)) _ _ _); k_dflt (refine' hex_item_f ?q1z1 ?q2z1 ?_ ?q4z1 ?q5z1; (case q4z1 => with_unfolding_all rfl); (case q5z1 => (intro _; with_unfolding_all rfl)); (case q1z1 => (simp only [fm16]; omega)); (case q2z1 => (simp only [fm16]; omega))); intro _ _ _ _)
    | (k_here; (with_reducible show wpAny _ _ (binaryOp Operator.FloorDiv (Value.int _ _) (Value.int (16 ^ _) _)) _ _ _); (refine div16 (by assumption) (by assumption) ?_); intro _ _)
    | (walk1; all_goals (try dsimp only))
    | (dsimp only; walk1)
    | (leave1; (try dsimp only)))
    all_goals exact ⟨rfl, _, _, by simp only [fm16, fd16], rfl⟩
  · intro ys hy
    have e1 : (stepKs (many - 1) (-1) many.toNat).map (fun k => hexC false (c / 16 ^ k.toNat % 16)) = hexL false c many.toNat := by
      have := hex_steps false c many.toNat
      rw [← hn] at this
      exact this
    rw [e1] at hy
    repeat' (first
    | (k_unfold; (try dsimp only))
    | ((with_reducible show wpAny _ _ (execs (_ :: _) _) _ _ _); (try k_gentoks); (try k_fold); (try dsimp only); refine (let A9 : Around := _; (?_ : wpAny _ A9 _ _ _ _)); (with_reducible rename News _ _ _ _ => kN); (with_reducible rename Fr _ _ _ _ => kF); refine wpAny_execs_cons ?_; (try dsimp only))
    | ((with_reducible show wpAny _ _ (eval (Expr.ListComp _ _ _ _) _) _ _ _); (k_here; k_dflt (refine' comp_U ?q0z3 ?q1z3 ?q2z3 ?q3z3 ?q4z3 ?q5z3 ?_ ?q7z3; (case q0z3 => k_asm); (case q1z3 => with_unfolding_all rfl); (case q2z3 => decide); (case q3z3 => rfl); (case q4z3 => decide); (case q5z3 => rfl); (case q7z3 => (intro _; rfl)))))
    | (k_here; (with_reducible show wpAny _ _ (subscriptTail _ _ (Value.bytes #[48,49,50,51,52,53,54,55,56,57,65,66,67,68,69,70] _) (Value.int _ _)) _ _ _); k_dflt (refine' hex_item_t ?q1z2 ?q2z2 ?_ ?q4z2 ?q5z2; (case q4z2 => with_unfolding_all rfl); (case q5z2 => (intro _; with_unfolding_all rfl)); (case q1z2 => (simp only [fm16]; omega)); (case q2z2 => (simp only [fm16]; omega))); intro _ _ _ _)
    | (k_here; (with_reducible show wpAny _ _ (subscriptTail _ _ (Value.bytes #[48,49,50,51,52,53,54,55,56,57,97,98,99,100,101,102] _) (Value.int _ _)) _ _ _); k_dflt (refine' hex_item_f ?q1z1 ?q2z1 ?_ ?q4z1 ?q5z1; (case q4z1 => with_unfolding_all rfl); (case q5z1 => (intro _; with_unfolding_all rfl)); (case q1z1 => (simp only [fm16]; omega)); (case q2z1 => (simp only [fm16]; omega))); intro _ _ _ _)
    | (k_here; (with_reducible show wpAny _ _ (binaryOp Operator.FloorDiv (Value.int _ _) (Value.int (16 ^ _) _)) _ _ _); (refine div16 (by assumption) (by assumption) ?_); intro _ _)
    | (walk1; all_goals (try dsimp only))
    | (dsimp only; walk1)
    | (leave1; (try dsimp only)))
    rename Fr g' _ _ _ => kF
    rename News g' _ _ _ => kN
    refine KBa.make_K kF kN rfl (News.isList kN (.head _)) hy (fun n hn => hexL_in hn) (by rw [hexL_len]; omega) ?_
    intro b' t' k' F2 N2 e2
    repeat' (first
    | (k_unfold; (try dsimp only))
    | ((with_reducible show wpAny _ _ (execs (_ :: _) _) _ _ _); (try k_gentoks); (try k_fold); (try dsimp only); refine (let A9 : Around := _; (?_ : wpAny _ A9 _ _ _ _)); (with_reducible rename News _ _ _ _ => kN); (with_reducible rename Fr _ _ _ _ => kF); refine wpAny_execs_cons ?_; (try dsimp only))
    | ((with_reducible show wpAny _ _ (eval (Expr.ListComp _ _ _ _) _) _ _ _); (k_here; k_dflt (refine' comp_U ?q0z3 ?q1z3 ?q2z3 ?q3z3 ?q4z3 ?q5z3 ?_ ?q7z3; (case q0z3 => k_asm); (case q1z3 => with_unfolding_all rfl); (case q2z3 => decide); (case q3z3 => rfl); (case q4z3 => decide); (case q5z3 => rfl); (case q7z3 => (intro _; rfl)))))
    | (k_here; (with_reducible show wpAny _ _ (subscriptTail _ _ (Value.bytes #[48,49,50,51,52,53,54,55,56,57,65,66,67,68,69,70] _) (Value.int _ _)) _ _ _); k_dflt (refine' hex_item_t ?q1z2 ?q2z2 ?_ ?q4z2 ?q5z2; (case q4z2 => with_unfolding_all rfl); (case q5z2 => (intro _; with_unfolding_all rfl)); (case q1z2 => (simp only [fm16]; omega)); (case q2z2 => (simp only [fm16]; omega))); intro _ _ _ _)
    | (k_here; (with_reducible show wpAny _ _ (subscriptTail _ _ (Value.bytes #[48,49,50,51,52,53,54,55,56,57,97,98,99,100,101,102] _) (Value.int _ _)) _ _ _); k_dflt (refine' hex_item_f ?q1z1 ?q2z1 ?_ ?q4z1 ?q5z1; (case q4z1 => with_unfolding_all rfl); (case q5z1 => (intro _; with_unfolding_all rfl)); (case q1z1 => (simp only [fm16]; omega)); (case q2z1 => (simp only [fm16]; omega))); intro _ _ _ _)
    | (k_here; (with_reducible show wpAny _ _ (binaryOp Operator.FloorDiv (Value.int _ _) (Value.int (16 ^ _) _)) _ _ _); (refine div16 (by assumption) (by assumption) ?_); intro _ _)
    | (walk1; all_goals (try dsimp only))
    | (dsimp only; walk1)
    | (leave1; (try dsimp only)))
    exact hret _ _ _ _ (KBa.ints_make e2) (by k_asm) (by k_asm)

theorem c_law_hex_t
   (B : Below A₀ base outer h₀) (F : Fr h₀ L s.heap m) (X : (Mine.hd.heap_39 w.params).In h₀) (N : News h₀ L s.heap news) (T : Top Mine.hd.view_39 (looseW Mine.hd.view_39 []) mean mg mb h₀) (hk : cs.kind = .function)
   (hdp : dp + 1 < recursionLimit) (hun : un + 8 < cLine)
   {c many : Int} {t u : Tok} (h0 : 0 ≤ c) (h1 : c < 65536) (m0 : 1 ≤ many) (m1 : many ≤ 4)
   (hret : ∀ (b' : Array UInt8) (t : Tok) (h' : Heap) (tk' : Nat), KBw.bInts b' = hexL true c many.toNat → Fr h₀ L h' m → News h₀ L h' news → Q (.bytes b' t) { s with heap := h', toks := tk' }) :
   wpAny (model PySem.Challenge.rw_og0237_01.row.prog w) (ktrTop dp un gd cn cs L a ccd cl outer) (call (.ref 157) [.int c t, .int many u, .bool true]) Q E s := by
  refine wpAny_call ?_
  revert X; k_fill; intro X
  k_dflt (refine' code_ownC (own := []) (rest := news) ?k1 ?k2 ?k3 ?k4 ?kr ?ko ?k5 ?kA ?kF ?kK ?k6 ?k7 ?k8 ?k9 ?kB ?kD ?_ ?c2 ?c3 ?c4; (case kA => exact rfl); (case kF => exact rfl); (case kK => assumption); (case k1 => exact B); (case k2 => exact F); (case k3 => exact X); (case k4 => exact News.nil); (case kr => exact N); (case ko => exact fun _ _ _ h => nomatch h); (case k5 => exact T); (case k6 => k_is); (case k7 => k_is); (case k8 => first | exact dp_ok 0 hdp rfl | exact dp_ok 1 hdp rfl | exact dp_ok 2 hdp rfl | exact dp_ok 3 hdp rfl | ktr_room); (case k9 => exact BindsTo.of_eq rfl); (case kB => exact rfl); (case kD => decide +kernel); (case c2 => exact rfl); (case c3 => exact rfl); (case c4 => exact rfl); k_whole)
  intro g' L' h' tk' cells' FG' F' N' Y' B' X' T' l1 R' S'
  (try k_lt l1)
  k_cells Y'
  (try simp only [List.cons_append, List.nil_append] at N')
  (try dsimp only)
  (try k_fold)
  repeat' (first
    | (k_unfold; (try dsimp only))
    | ((with_reducible show wpAny _ _ (execs (_ :: _) _) _ _ _); (try k_gentoks); (try k_fold); (try dsimp only); refine (let A9 : Around := _; (?_ : wpAny _ A9 _ _ _ _)); (with_reducible rename News _ _ _ _ => kN); (with_reducible rename Fr _ _ _ _ => kF); refine wpAny_execs_cons ?_; (try dsimp only))
    | ((with_reducible show wpAny _ _ (eval (Expr.ListComp _ _ _ _) _) _ _ _); (k_here; k_dflt (refine' comp_U ?q0z3 ?q1z3 ?q2z3 ?q3z3 ?q4z3 ?q5z3 ?_ ?q7z3; (case q0z3 => k_asm); (case q1z3 => with_unfolding_all rfl); (case q2z3 => decide); (case q3z3 => rfl); (case q4z3 => decide); (case q5z3 => rfl); (case q7z3 => (intro _; rfl)))))
    | (k_here; (with_reducible show wpAny _ _ (subscriptTail _ _ (Value.bytes #[48,49,50,51,52,53,54,55,56,57,65,66,67,68,69,70] _) (Value.int _ _)) _ _ _); k_dflt (refine' hex_item_t ?q1z2 ?q2z2 ?_ ?q4z2 ?q5z2; (case q4z2 => with_unfolding_all rfl); (case q5z2 => (intro _; with_unfolding_all rfl)); (case q1z2 => (simp only [fm16]; omega)); (case q2z2 => (simp only [fm16]; omega))); intro _ _ _ _)
    | (k_here; (with_reducible show wpAny _ _ (subscriptTail _ _ (Value.bytes #[48,49,50,51,52,53,54,55,56,57,97,98,99,100,101,102] _) (Value.int _ _)) _ _ _); k_dflt (refine' hex_item_f ?q1z1 ?q2z1 ?_ ?q4z1 ?q5z1; (case q4z1 => with_unfolding_all rfl); (case q5z1 => (intro _; with_unfolding_all rfl)); (case q1z1 => (simp only [fm16]; omega)); (case q2z1 => (simp only [fm16]; omega))); intro _ _ _ _)
    | (k_here; (with_reducible show wpAny _ _ (binaryOp Operator.FloorDiv (Value.int _ _) (Value.int (16 ^ _) _)) _ _ _); (refine div16 (by assumption) (by assumption) ?_); intro _ _)
    | (walk1; all_goals (try dsimp only))
    | (dsimp only; walk1)
    | (leave1; (try dsimp only)))
  rename IsRange _ _ _ _ _ _ _ _ => hR
  have hn : many = ((many.toNat : Nat) : Int) := by omega
  refine SrcU.range (n := many.toNat) rfl (by k_asm) (by k_asm) hR (by rcases (by omega : many = 1 ∨ many = 2 ∨ many = 3 ∨ many = 4) with rfl | rfl | rfl | rfl <;> decide) (by rcases (by omega : many = 1 ∨ many = 2 ∨ many = 3 ∨ many = 4) with rfl | rfl | rfl | rfl <;> decide) (by rw [sizeLine_eq]; omega) (fun g1 => restU_fold (ks := stepKs (many - 1) (-1) many.toNat) (fun k => hexC true (c / 16 ^ k.toNat % 16)) (stepKs_len _ _ _) (fun i v hi hv => stepKs_get i v hi hv) ?_ ?_)
  · intro k t1 I oI C oC D m2 ys h1 tk1 E1 hk hNs hx F1 N1 off
    obtain ⟨i, hi, ek⟩ := stepKs_mem hk
    have k0 : 0 ≤ k := by omega
    have k1 : k ≤ 3 := by omega
    clear hi ek hR hk
    (try simp only [PyProof.Rows.LCg.Off3, and_true] at off)
    repeat' (first
    | (k_unfold; (try dsimp only))
    | ((with_reducible show wpAny _ _ (execs (_ :: _) _) _ _ _); (try k_gentoks); (try k_fold); (try dsimp only); refine (let A9 : Around := _; (?_ : wpAny _ A9 _ _ _ _)); (with_reducible rename News _ _ _ _ => kN); (with_reducible rename Fr _ _ _ _ => kF); refine wpAny_execs_cons ?_; (try dsimp only))
    | ((with_reducible show wpAny _ _ (eval (Expr.ListComp _ _ _ _) _) _ _ _); (k_here; k_dflt (refine' comp_U ?q0z3 ?q1z3 ?q2z3 ?q3z3 ?q4z3 ?q5z3 ?_ ?q7z3; (case q0z3 => k_asm); (case q1z3 => with_unfolding_all rfl); (case q2z3 => decide); (case q3z3 => rfl); (case q4z3 => decide); (case q5z3 => rfl); (case q7z3 => (intro _; rfl)))))
    | (k_here; (with_reducible show wpAny _ _ (subscriptTail _ _ (Value.bytes #[48,49,50,51,52,53,54,55,56,57,65,66,67,68,69,70] _) (Value.int _ _)) _ _ _); k_dflt (refine' hex_item_t ?q1z2 ?q2z2 ?_ ?q4z2 ?q5z2; (case q4z2 => with_unfolding_all rfl); (case q5z2 => (intro _; with_unfolding_all rfl)); (case q1z2 => (simp only [fm16]; omega)); (case q2z2 => (simp only [fm16]; omega))); intro _ _ _ _)
    | (k_here; (with_reducible show wpAny _ _ (subscriptTail _ _ (Value.bytes #[48,49,50,51,52,53,54,55,56,57,97,98,99,100,101,102] _) (Value.int _ _)) _ _ _); k_dflt (refine' hex_item_f ?q1z1 ?q2z1 ?_ ?q4z1 ?q5z1; (case q4z1 => with_unfolding_all rfl); (case q5z1 => (intro _; with_unfolding_all rfl)); (case q1z1 => (simp only [fm16]; omega)); (case q2z1 => (simp only [fm16]; omega))); intro _ _ _ _)
    | (k_here; (with_reducible show wpAny _ _ (binaryOp Operator.FloorDiv (Value.int _ _) (Value.int (16 ^ _) _)) _ _ _); (refine div16 (by assumption) (by assumption) ?_); intro _ _)
    | (walk1; all_goals (try dsimp only))
    | (dsimp only; walk1)
    | (leave1; (try dsimp only)))
    all_goals exact ⟨rfl, _, _, by simp only [fm16, fd16], rfl⟩
  · intro ys hy
    have e1 : (stepKs (many - 1) (-1) many.toNat).map (fun k => hexC true (c / 16 ^ k.toNat % 16)) = hexL true c many.toNat := by
      have := hex_steps true c many.toNat
      rw [← hn] at this
      exact this
    rw [e1] at hy
    repeat' (first
    | (k_unfold; (try dsimp only))
    | ((with_reducible show wpAny _ _ (execs (_ :: _) _) _ _ _); (try k_gentoks); (try k_fold); (try dsimp only); refine (let A9 : Around := _; (?_ : wpAny _ A9 _ _ _ _)); (with_reducible rename News _ _ _ _ => kN); (with_reducible rename Fr _ _ _ _ => kF); refine wpAny_execs_cons ?_; (try dsimp only))
    | ((with_reducible show wpAny _ _ (eval (Expr.ListComp _ _ _ _) _) _ _ _); (k_here; k_dflt (refine' comp_U ?q0z3 ?q1z3 ?q2z3 ?q3z3 ?q4z3 ?q5z3 ?_ ?q7z3; (case q0z3 => k_asm); (case q1z3 => with_unfolding_all rfl); (case q2z3 => decide); (case q3z3 => rfl); (case q4z3 => decide); (case q5z3 => rfl); (case q7z3 => (intro _; rfl)))))
    | (k_here; (with_reducible show wpAny _ _ (subscriptTail _ _ (Value.bytes #[48,49,50,51,52,53,54,55,56,57,65,66,67,68,69,70] _) (Value.int _ _)) _ _ _); k_dflt (refine' hex_item_t ?q1z2 ?q2z2 ?_ ?q4z2 ?q5z2; (case q4z2 => with_unfolding_all rfl); (case q5z2 => (intro _; with_unfolding_all rfl)); (case q1z2 => (simp only [fm16]; omega)); (case q2z2 => (simp only [fm16]; omega))); intro _ _ _ _)
    | (k_here; (with_reducible show wpAny _ _ (subscriptTail _ _ (Value.bytes #[48,49,50,51,52,53,54,55,56,57,97,98,99,100,101,102] _) (Value.int _ _)) _ _ _); k_dflt (refine' hex_item_f ?q1z1 ?q2z1 ?_ ?q4z1 ?q5z1; (case q4z1 => with_unfolding_all rfl); (case q5z1 => (intro _; with_unfolding_all rfl)); (case q1z1 => (simp only [fm16]; omega)); (case q2z1 => (simp only [fm16]; omega))); intro _ _ _ _)
    | (k_here; (with_reducible show wpAny _ _ (binaryOp Operator.FloorDiv (Value.int _ _) (Value.int (16 ^ _) _)) _ _ _); (refine div16 (by assumption) (by assumption) ?_); intro _ _)
    | (walk1; all_goals (try dsimp only))
    | (dsimp only; walk1)
    | (leave1; (try dsimp only)))
    rename Fr g' _ _ _ => kF
    rename News g' _ _ _ => kN
    refine KBa.make_K kF kN rfl (News.isList kN (.head _)) hy (fun n hn => hexL_in hn) (by rw [hexL_len]; omega) ?_
    intro b' t' k' F2 N2 e2
    repeat' (first
    | (k_unfold; (try dsimp only))
    | ((with_reducible show wpAny _ _ (execs (_ :: _) _) _ _ _); (try k_gentoks); (try k_fold); (try dsimp only); refine (let A9 : Around := _; (?_ : wpAny _ A9 _ _ _ _)); (with_reducible rename News _ _ _ _ => kN); (with_reducible rename Fr _ _ _ _ => kF); refine wpAny_execs_cons ?_; (try dsimp only))
    | ((with_reducible show wpAny _ _ (eval (Expr.ListComp _ _ _ _) _) _ _ _); (k_here; k_dflt (refine' comp_U ?q0z3 ?q1z3 ?q2z3 ?q3z3 ?q4z3 ?q5z3 ?_ ?q7z3; (case q0z3 => k_asm); (case q1z3 => with_unfolding_all rfl); (case q2z3 => decide); (case q3z3 => rfl); (case q4z3 => decide); (case q5z3 => rfl); (case q7z3 => (intro _; rfl)))))
    | (k_here; (with_reducible show wpAny _ _ (subscriptTail _ _ (Value.bytes #[48,49,50,51,52,53,54,55,56,57,65,66,67,68,69,70] _) (Value.int _ _)) _ _ _); k_dflt (refine' hex_item_t ?q1z2 ?q2z2 ?_ ?q4z2 ?q5z2; (case q4z2 => with_unfolding_all rfl); (case q5z2 => (intro _; with_unfolding_all rfl)); (case q1z2 => (simp only [fm16]; omega)); (case q2z2 => (simp only [fm16]; omega))); intro _ _ _ _)
    | (k_here; (with_reducible show wpAny _ _ (subscriptTail _ _ (Value.bytes #[48,49,50,51,52,53,54,55,56,57,97,98,99,100,101,102] _) (Value.int _ _)) _ _ _); k_dflt (refine' hex_item_f ?q1z1 ?q2z1 ?_ ?q4z1 ?q5z1; (case q4z1 => with_unfolding_all rfl); (case q5z1 => (intro _; with_unfolding_all rfl)); (case q1z1 => (simp only [fm16]; omega)); (case q2z1 => (simp only [fm16]; omega))); intro _ _ _ _)
    | (k_here; (with_reducible show wpAny _ _ (binaryOp Operator.FloorDiv (Value.int _ _) (Value.int (16 ^ _) _)) _ _ _); (refine div16 (by assumption) (by assumption) ?_); intro _ _)
    | (walk1; all_goals (try dsimp only))
    | (dsimp only; walk1)
    | (leave1; (try dsimp only)))
    exact hret _ _ _ _ (KBa.ints_make e2) (by k_asm) (by k_asm)

theorem c_law_hex
   (B : Below A₀ base outer h₀) (F : Fr h₀ L s.heap m) (X : (Mine.hd.heap_39 w.params).In h₀) (N : News h₀ L s.heap news) (T : Top Mine.hd.view_39 (looseW Mine.hd.view_39 []) mean mg mb h₀) (hk : cs.kind = .function)
   (hdp : dp + 1 < recursionLimit) (hun : un + 8 < cLine)
   {c many : Int} {t u : Tok} {gr : Bool} (h0 : 0 ≤ c) (h1 : c < 65536) (m0 : 1 ≤ many) (m1 : many ≤ 4)
   (hret : ∀ (b' : Array UInt8) (t : Tok) (h' : Heap) (tk' : Nat), KBw.bInts b' = hexL gr c many.toNat → Fr h₀ L h' m → News h₀ L h' news → Q (.bytes b' t) { s with heap := h', toks := tk' }) :
   wpAny (model PySem.Challenge.rw_og0237_01.row.prog w) (ktrTop dp un gd cn cs L a ccd cl outer) (call (.ref 157) [.int c t, .int many u, .bool gr]) Q E s := by
  cases gr
  · exact c_law_hex_f B F X N T ‹_› hdp hun h0 h1 m0 m1 hret
  · exact c_law_hex_t B F X N T ‹_› hdp hun h0 h1 m0 m1 hret
end Mine
end

theorem Mine.offE1 : True := by
  w_top off
  trivial

section -- E1
open PySem PySem.Spec PySem.Calls PySem.W PyProof.Rows
set_option linter.unusedVariables false
set_option maxRecDepth 100000
set_option maxHeartbeats 8000000
set_option pp.deepTerms false
namespace Mine
variable {w : World} {mean : ExcName → Option Value} {mg mb : Str → Option Value} {dp un : Nat} {gd : Option (List Code)} {cn : Str} {cs : Scope} {a : Addr} {ccd : Value} {cl : List (Str × Addr)} {outer : List Env} {A₀ : Around} {base h₀ : Heap} {L : Addr} {m : Str → Option Value} {news : List (Addr × Obj)} {s : Shared} {Q E : Value → Shared → Prop}
theorem seq0 (v : Value) (r : List Value) : seqIndex? 0 (v :: r).toArray.size = some 0 := by simp [seqIndex?]
theorem popz {n : Int} {v : Value} {vs : List Value} {ns : List Int} (hi : IntsAre vs ns) (hlen : (n :: ns).length ≤ 24) : (v :: vs).toArray.toList.length ≤ sizeLine := by
  rw [sizeLine_eq]
  have := hi.length
  simp only [List.length_cons] at hlen ⊢
  omega
theorem dr_lo (x : Int) {many : Int} (h : 1 ≤ many) : 0 ≤ x.fmod many := by rw [fmod_pos x (by omega)]; exact Int.emod_nonneg _ (by omega)
theorem dr_hi (x : Int) {many : Int} (h : 1 ≤ many) : x.fmod many < many := by rw [fmod_pos x (by omega)]; exact Int.emod_lt_of_pos _ (by omega)
theorem c_draw_nil
   (B : Below A₀ base outer h₀) (F : Fr h₀ L s.heap m) (X : (Mine.hd.heap_39 w.params).In h₀) (N : News h₀ L s.heap news) (T : Top Mine.hd.view_39 (looseW Mine.hd.view_39 []) mean mg mb h₀) (hk : cs.kind = .function)
   (hdp : dp + 1 < recursionLimit) (hun : un + 128 < cLine)
   {D Ls : Addr} {od : Obj} {nn : Nat} {mx : Int} {tm u : Tok} {many : Int}  (hod : od.IsDictOf (strKind PySem.Challenge.rw_og0237_01.row.prog w) [(Str.ofString "left", Value.ref Ls), (Str.ofString "mixed", Value.int mx tm)]) 
   (N1 : News h₀ L s.heap [(D, od), (Ls, listOf ([] : List Value).toArray nn)]) (hoff : ∀ q ∈ news, ∀ p ∈ [(D, od), (Ls, listOf ([] : List Value).toArray nn)], q.1 ≠ p.1) (hm0 : 1 ≤ many) (hm1 : many ≤ 1024) (hx0 : 0 ≤ mx) (hx1 : mx < 1000003) (hne : @Ne Nat D Ls)
   (hret : ∀ (r : Int) (t : Tok) (od' : Obj) (vs' : List Value) (ns' : List Int) (nn' : Nat) (mx' : Int) (tm' : Tok) (h' : Heap) (tk' : Nat), 0 ≤ r → r < many → od'.IsDictOf (strKind PySem.Challenge.rw_og0237_01.row.prog w) [(Str.ofString "left", Value.ref Ls), (Str.ofString "mixed", Value.int mx' tm')] → IntsAre vs' ns' → (∀ n ∈ ns', 0 ≤ n ∧ n < 1000003) → ns'.length ≤ 24 → 0 ≤ mx' → mx' < 1000003 → Fr h₀ L h' m → News h₀ L h' ((D, od') :: (Ls, listOf vs'.toArray nn') :: news) → Q (.int r t) { s with heap := h', toks := tk' }) :
   wpAny (model PySem.Challenge.rw_og0237_01.row.prog w) (ktrTop dp un gd cn cs L a ccd cl outer) (call (.ref 128) [.ref D, .int many u]) Q E s := by
  refine wpAny_call ?_
  revert X; k_fill; intro X
  k_dflt (refine' code_own (own := [(D, od), (Ls, listOf ([] : List Value).toArray nn)]) (rest := news) ?k1 ?k2 ?k3 ?k4 ?kr ?ko ?k5 ?kA ?kF ?kK ?k6 ?k7 ?k8 ?k9 ?kB ?_ ?c2 ?c3 ?c4 ?c5; (case kA => exact rfl); (case kF => exact rfl); (case kK => assumption); (case k1 => exact B); (case k2 => exact F); (case k3 => exact X); (case k4 => exact N1); (case kr => exact N); (case ko => exact hoff); (case k5 => exact T); (case k6 => k_is); (case k7 => k_is); (case k8 => first | exact dp_ok 0 hdp rfl | exact dp_ok 1 hdp rfl | exact dp_ok 2 hdp rfl | exact dp_ok 3 hdp rfl | ktr_room); (case k9 => exact BindsTo.of_eq rfl); (case c5 => decide); (case kB => exact locs rfl); (case c2 => exact rfl); (case c3 => exact rfl); (case c4 => exact rfl); k_whole)
  intro g' L' h' FG' F' N' B' X' T' R' S'
  (try dsimp only)
  (try k_fold)
  repeat' (first
    | (k_unfold; (try dsimp only))
    | ((with_reducible show wpAny _ _ (execs (_ :: _) _) _ _ _); (try k_gentoks); (try k_fold); (try dsimp only); (with_reducible rename News _ _ _ _ => kN); (with_reducible rename Fr _ _ _ _ => kF); refine wpAny_execs_cons ?_; (try dsimp only))
    | (k_here; (with_reducible show wpAny _ _ (call (Value.builtin "list.pop") [Value.ref _, Value.int 0 _]) _ _ _); k_dflt (refine' kl_popAt ?Fz1 ?Nz1 ?fz1 ?kz1 ?ez1 ?Uz1 ?zz1 ?_; (case Fz1 => k_asm); (case Nz1 => k_asm); (case Uz1 => k_upd); (case fz1 => rfl); (case kz1 => exact seq0 _ _); (case ez1 => rfl); (case zz1 => exact popz (by assumption) (by assumption))); kl_rest)
    | (k_here; (with_reducible show wpAny _ _ (compareOp CmpOp.NotEq (Value.ref _) (Value.ref _)) _ _ _); (with_unfolding_all refine' ne_intsK ?k1z0 ?k2z0 ?k3z0 ?k4z0 ?k5z0 ?_; (case k1z0 => is_list); (case k2z0 => l_intsC); (case k3z0 => is_list); (case k4z0 => l_intsC); (case k5z0 => first | exact un_ok hun rfl | exact un_ok0 hun rfl | ktr_units); k_whole); (try simp only [filter_tt]))
    | (k_end; wrow_close)
    | (walk1; all_goals (try dsimp only))
    | (dsimp only; walk1)
    | (leave1; (try dsimp only)))
  rename News h₀ L _ news => kR
  rename News h₀ L _ (_ :: _ :: _ :: _) => kN
  exact hret _ _ _ _ [] _ _ _ _ _ (dr_lo _ hm0) (dr_hi _ hm0) (by assumption) .nil (fun _ h => nomatch h) (by decide) (dr_lo _ (by decide)) (dr_hi _ (by decide)) (by k_asm) (news_cons (news_one kN (.tail _ (.head _))) (news_cons (news_one kN (.tail _ (.tail _ (.head _)))) kR))

theorem c_draw_cons
   (B : Below A₀ base outer h₀) (F : Fr h₀ L s.heap m) (X : (Mine.hd.heap_39 w.params).In h₀) (N : News h₀ L s.heap news) (T : Top Mine.hd.view_39 (looseW Mine.hd.view_39 []) mean mg mb h₀) (hk : cs.kind = .function)
   (hdp : dp + 1 < recursionLimit) (hun : un + 128 < cLine)
   {D Ls : Addr} {od : Obj} {nn : Nat} {mx : Int} {tm u : Tok} {many : Int} {n : Int} {t : Tok} {vs : List Value} {ns : List Int} (hi : IntsAre vs ns) (hr : ∀ k ∈ n :: ns, 0 ≤ k ∧ k < 1000003) (hlen : (n :: ns).length ≤ 24) (hod : od.IsDictOf (strKind PySem.Challenge.rw_og0237_01.row.prog w) [(Str.ofString "left", Value.ref Ls), (Str.ofString "mixed", Value.int mx tm)]) 
   (N1 : News h₀ L s.heap [(D, od), (Ls, listOf (.int n t :: vs : List Value).toArray nn)]) (hoff : ∀ q ∈ news, ∀ p ∈ [(D, od), (Ls, listOf (.int n t :: vs : List Value).toArray nn)], q.1 ≠ p.1) (hm0 : 1 ≤ many) (hm1 : many ≤ 1024) (hx0 : 0 ≤ mx) (hx1 : mx < 1000003) (hne : @Ne Nat D Ls)
   (hret : ∀ (r : Int) (t : Tok) (od' : Obj) (vs' : List Value) (ns' : List Int) (nn' : Nat) (mx' : Int) (tm' : Tok) (h' : Heap) (tk' : Nat), 0 ≤ r → r < many → od'.IsDictOf (strKind PySem.Challenge.rw_og0237_01.row.prog w) [(Str.ofString "left", Value.ref Ls), (Str.ofString "mixed", Value.int mx' tm')] → IntsAre vs' ns' → (∀ n ∈ ns', 0 ≤ n ∧ n < 1000003) → ns'.length ≤ 24 → 0 ≤ mx' → mx' < 1000003 → Fr h₀ L h' m → News h₀ L h' ((D, od') :: (Ls, listOf vs'.toArray nn') :: news) → Q (.int r t) { s with heap := h', toks := tk' }) :
   wpAny (model PySem.Challenge.rw_og0237_01.row.prog w) (ktrTop dp un gd cn cs L a ccd cl outer) (call (.ref 128) [.ref D, .int many u]) Q E s := by
  refine wpAny_call ?_
  revert X; k_fill; intro X
  k_dflt (refine' code_own (own := [(D, od), (Ls, listOf (.int n t :: vs : List Value).toArray nn)]) (rest := news) ?k1 ?k2 ?k3 ?k4 ?kr ?ko ?k5 ?kA ?kF ?kK ?k6 ?k7 ?k8 ?k9 ?kB ?_ ?c2 ?c3 ?c4 ?c5; (case kA => exact rfl); (case kF => exact rfl); (case kK => assumption); (case k1 => exact B); (case k2 => exact F); (case k3 => exact X); (case k4 => exact N1); (case kr => exact N); (case ko => exact hoff); (case k5 => exact T); (case k6 => k_is); (case k7 => k_is); (case k8 => first | exact dp_ok 0 hdp rfl | exact dp_ok 1 hdp rfl | exact dp_ok 2 hdp rfl | exact dp_ok 3 hdp rfl | ktr_room); (case k9 => exact BindsTo.of_eq rfl); (case c5 => decide); (case kB => exact locs rfl); (case c2 => exact rfl); (case c3 => exact rfl); (case c4 => exact rfl); k_whole)
  intro g' L' h' FG' F' N' B' X' T' R' S'
  (try dsimp only)
  (try k_fold)
  repeat' (first
    | (k_unfold; (try dsimp only))
    | ((with_reducible show wpAny _ _ (execs (_ :: _) _) _ _ _); (try k_gentoks); (try k_fold); (try dsimp only); (with_reducible rename News _ _ _ _ => kN); (with_reducible rename Fr _ _ _ _ => kF); refine wpAny_execs_cons ?_; (try dsimp only))
    | (k_here; (with_reducible show wpAny _ _ (call (Value.builtin "list.pop") [Value.ref _, Value.int 0 _]) _ _ _); k_dflt (refine' kl_popAt ?Fz1 ?Nz1 ?fz1 ?kz1 ?ez1 ?Uz1 ?zz1 ?_; (case Fz1 => k_asm); (case Nz1 => k_asm); (case Uz1 => k_upd); (case fz1 => rfl); (case kz1 => exact seq0 _ _); (case ez1 => rfl); (case zz1 => exact popz (by assumption) (by assumption))); kl_rest)
    | (k_here; (with_reducible show wpAny _ _ (compareOp CmpOp.NotEq (Value.ref _) (Value.ref _)) _ _ _); (with_unfolding_all refine' ne_intsK ?k1z0 ?k2z0 ?k3z0 ?k4z0 ?k5z0 ?_; (case k1z0 => is_list); (case k2z0 => l_intsC); (case k3z0 => is_list); (case k4z0 => l_intsC); (case k5z0 => first | exact un_ok hun rfl | exact un_ok0 hun rfl | ktr_units); k_whole); (try simp only [filter_tt]))
    | (k_end; wrow_close)
    | (walk1; all_goals (try dsimp only))
    | (dsimp only; walk1)
    | (leave1; (try dsimp only)))
  · exfalso
    rename decide (_ :: _ = []) = true => hx
    cases of_decide_eq_true hx
  · rename News h₀ L _ news => kR
    rename News h₀ L _ (_ :: _ :: _ :: _) => kN
    exact hret _ _ _ _ _ _ _ _ _ _ (dr_lo _ hm0) (dr_hi _ hm0) hod hi (fun k hk => hr k (.tail _ hk)) (Nat.le_of_succ_le hlen) hx0 hx1 (by k_asm) (news_cons (news_one kN (.tail _ (.head _))) (news_cons (news_one kN (.tail _ (.tail _ (.head _)))) kR))

noncomputable def DeckOk (w : World) (Ls : Addr) (od ol : Obj) : Prop := ∃ (vs : List Value) (ns : List Int) (nn : Nat) (mx : Int) (tm : Tok), od.IsDictOf (strKind PySem.Challenge.rw_og0237_01.row.prog w) [(Str.ofString "left", Value.ref Ls), (Str.ofString "mixed", Value.int mx tm)] ∧
  ol = listOf vs.toArray nn ∧ IntsAre vs ns ∧ (∀ n ∈ ns, 0 ≤ n ∧ n < 1000003) ∧ ns.length ≤ 24 ∧ 0 ≤ mx ∧ mx < 1000003
theorem c_draw
   (B : Below A₀ base outer h₀) (F : Fr h₀ L s.heap m) (X : (Mine.hd.heap_39 w.params).In h₀) (N : News h₀ L s.heap news) (T : Top Mine.hd.view_39 (looseW Mine.hd.view_39 []) mean mg mb h₀) (hk : cs.kind = .function)
   (hdp : dp + 1 < recursionLimit) (hun : un + 128 < cLine)
   {D Ls : Addr} {od ol : Obj} {u : Tok} {many : Int} (hd : DeckOk w Ls od ol) (N1 : News h₀ L s.heap [(D, od), (Ls, ol)]) (hoff : ∀ q ∈ news, ∀ p ∈ [(D, od), (Ls, ol)], q.1 ≠ p.1) (hne : @Ne Nat D Ls) (hm0 : 1 ≤ many) (hm1 : many ≤ 1024)
   (hret : ∀ (r : Int) (t : Tok) (od' ol' : Obj) (h' : Heap) (tk' : Nat), 0 ≤ r → r < many → DeckOk w Ls od' ol' → Fr h₀ L h' m → News h₀ L h' ((D, od') :: (Ls, ol') :: news) → Q (.int r t) { s with heap := h', toks := tk' }) :
   wpAny (model PySem.Challenge.rw_og0237_01.row.prog w) (ktrTop dp un gd cn cs L a ccd cl outer) (call (.ref 128) [.ref D, .int many u]) Q E s := by
  obtain ⟨vs, ns, nn, mx, tm, hod, rfl, hi, hr, hlen, hx0, hx1⟩ := hd
  cases hi with
  | nil => exact c_draw_nil B F X N T ‹_› hdp hun hod N1 hoff hm0 hm1 hx0 hx1 hne fun r t od' vs' ns' nn' mx' tm' h' tk' a b c d e f g i F1 N2 => hret r t od' _ h' tk' a b ⟨vs', ns', nn', mx', tm', c, rfl, d, e, f, g, i⟩ F1 N2
  | cons n t hi => exact c_draw_cons B F X N T ‹_› hdp hun hi hr hlen hod N1 hoff hm0 hm1 hx0 hx1 hne fun r t od' vs' ns' nn' mx' tm' h' tk' a b c d e f g i F1 N2 => hret r t od' _ h' tk' a b ⟨vs', ns', nn', mx', tm', c, rfl, d, e, f, g, i⟩ F1 N2
end Mine
end

theorem Mine.offE2 : True := by
  w_top off
  trivial

section -- E2
open PySem PySem.Spec PySem.Calls PySem.W PyProof.Rows
set_option linter.unusedVariables false
set_option maxRecDepth 100000
set_option maxHeartbeats 8000000
set_option pp.deepTerms false
namespace Mine
variable {w : World} {mean : ExcName → Option Value} {mg mb : Str → Option Value} {dp un : Nat} {gd : Option (List Code)} {cn : Str} {cs : Scope} {a : Addr} {ccd : Value} {cl : List (Str × Addr)} {outer : List Env} {A₀ : Around} {base h₀ : Heap} {L : Addr} {m : Str → Option Value} {news : List (Addr × Obj)} {s : Shared} {Q E : Value → Shared → Prop}
theorem fold_mix : ∀ (l : List Int) (a : Int), 0 ≤ a ∧ a < 1000003 → 0 ≤ l.foldl (fun a' n' => (a' * 31 + n' + 1).fmod 1000003) a ∧ l.foldl (fun a' n' => (a' * 31 + n' + 1).fmod 1000003) a < 1000003
  | [], _, h => h
  | n :: r, a, _ => fold_mix r _ ⟨dr_lo _ (by decide), dr_hi _ (by decide)⟩
theorem left_in {l : List Int} {n : Int} (h : n ∈ l.map fun k' => k'.fmod 1000003) : 0 ≤ n ∧ n < 1000003 := by
  obtain ⟨k, _, rfl⟩ := List.mem_map.mp h
  exact ⟨dr_lo _ (by decide), dr_hi _ (by decide)⟩
theorem left_len (l : List Int) : ((l.take 24).map fun k' => k'.fmod 1000003).length ≤ 24 := by
  rw [List.length_map, List.length_take]; omega
theorem c_deck
   (B : Below A₀ base outer h₀) (F : Fr h₀ L s.heap m) (X : (Mine.hd.heap_39 w.params).In h₀) (N : News h₀ L s.heap news) (T : Top Mine.hd.view_39 (looseW Mine.hd.view_39 []) mean mg mb h₀) (hk : cs.kind = .function)
   (hdp : dp + 1 < recursionLimit) (hun : un + 8 < cLine)
   {Ls : Addr} {vs : List Value} {ns : List Int} (hl : s.heap.IsList Ls vs.toArray) (hi : IntsAre vs ns) (hlen : ns.length ≤ 63)
   (hret : ∀ (D Ls : Addr) (od ol : Obj) (h' : Heap) (tk' : Nat), DeckOk w Ls od ol → Fr h₀ L h' m → News h₀ L h' ((D, od) :: (Ls, ol) :: news) → @Ne Nat D Ls → AllNe D news → AllNe Ls news → Q (.ref D) { s with heap := h', toks := tk' }) :
   wpAny (model PySem.Challenge.rw_og0237_01.row.prog w) (ktrTop dp un gd cn cs L a ccd cl outer) (call (.ref 121) [.ref Ls]) Q E s := by
  refine wpAny_call ?_
  revert X; k_fill; intro X
  k_dflt (refine' code_own (own := []) (rest := news) ?k1 ?k2 ?k3 ?k4 ?kr ?ko ?k5 ?kA ?kF ?kK ?k6 ?k7 ?k8 ?k9 ?kB ?_ ?c2 ?c3 ?c4 ?c5; (case kA => exact rfl); (case kF => exact rfl); (case kK => assumption); (case k1 => exact B); (case k2 => exact F); (case k3 => exact X); (case k4 => exact News.nil); (case kr => exact N); (case ko => exact fun _ _ _ h => nomatch h); (case k5 => exact T); (case k6 => k_is); (case k7 => k_is); (case k8 => first | exact dp_ok 0 hdp rfl | exact dp_ok 1 hdp rfl | exact dp_ok 2 hdp rfl | exact dp_ok 3 hdp rfl | ktr_room); (case k9 => exact BindsTo.of_eq rfl); (case c5 => decide); (case kB => exact locs rfl); (case c2 => exact rfl); (case c3 => exact rfl); (case c4 => exact rfl); k_whole)
  intro g' L' h' FG' F' N' B' X' T' R' S'
  (try dsimp only)
  (try k_fold)
  have T1 : g'.IsList Ls vs.toArray := hl.at fun o e => S' _ _ e (fun _ h => nomatch h)
  repeat' (first
    | (k_unfold; (try dsimp only))
    | ((with_reducible show wpAny _ _ (execs (_ :: _) _) _ _ _); (try k_gentoks); (try k_fold); (try dsimp only); refine (let A9 : Around := _; (?_ : wpAny _ A9 _ _ _ _)); (with_reducible rename News _ _ _ _ => kN); (with_reducible rename Fr _ _ _ _ => kF); refine wpAny_execs_cons ?_; (try dsimp only))
    | ((with_reducible show wpAny _ _ (pyIter (Value.ref _)) _ _ _); k_invariant "mixed" (fun a => 0 ≤ a ∧ a < 1000003))
    | (walk1; all_goals (try dsimp only))
    | (dsimp only; walk1)
    | (leave1; (try dsimp only)))
  rename News h₀ L _ news => kR
  rename News h₀ L _ (_ :: _ :: _ :: _) => kN
  rename News g' _ _ _ => kM
  rename _ ∧ _ ∧ _ => l9
  rename IntsAre ys _ => hI9
  rename Obj.IsDictOf _ _ _ => hd9
  exact hret _ _ _ _ _ _ ⟨_, _, _, _, _, hd9, rfl, hI9, fun n hn => left_in hn, left_len _, (fold_mix _ _ (by decide)).1, (fold_mix _ _ (by decide)).2⟩ (by k_asm) (news_cons (news_one kN (.head _)) (news_cons (news_one kN (.tail _ (.tail _ (.head _)))) kR)) (Nat.ne_of_gt l9.2.1) (allNe_of (off_new R' kM (.head _))) (allNe_of (off_new R' kM (.tail _ (.tail _ (.head _)))))

end Mine
end

section -- Bd
open PySem PySem.Spec PySem.Calls PySem.W PyProof.Rows PyProof.V
set_option linter.unusedVariables false
set_option maxRecDepth 100000
set_option maxHeartbeats 8000000
namespace Mine
noncomputable def bytePairs : List (Value × Value) → List (List UInt8 × Value)
  | (.bytes b _, v) :: r => (b.toList, v) :: bytePairs r
  | _ => []
noncomputable def allByteKeys : List (Value × Value) → Bool
  | (.bytes _ _, _) :: r => allByteKeys r
  | [] => true
  | _ => false
theorem carries_bytePairs (prog : Program) (w : World) : ∀ vs : List (Value × Value), allByteKeys vs = true → Carries (PySem.W.bytesKind prog w) vs (bytePairs vs)
  | [], _ => trivial
  | (.bytes b t, v) :: r, h => ⟨by simp [PySem.W.bytesKind, isBytes], rfl, carries_bytePairs prog w r h⟩
  | (.none, _) :: _, h | (.ellipsis, _) :: _, h | (.notImplemented, _) :: _, h | (.bool _, _) :: _, h | (.int _ _, _) :: _, h | (.float _ _, _) :: _, h | (.str _ _, _) :: _, h | (.type _, _) :: _, h
  | (.builtin _, _) :: _, h | (.ref _, _) :: _, h => by simp [allByteKeys] at h
section
variable {prog : Program} {w : World} {A : Around} {E : Value → Shared → Prop} {s : Shared} {env : Env} {h₀ : Heap} {L d : Addr} {m : Str → Option Value} {news : List (Addr × Obj)} {g : Obj → List (Addr × Obj)} {o : Obj} {Q : Value → Shared → Prop}
theorem kdn_bytes {keys : List (Option PySem.Expr)} {values : List PySem.Expr} {pos : Pos} (F : Fr h₀ L s.heap m) (N : News h₀ L s.heap news) (hbig : h₀.NoLimit)
    (hall : keys.all (·.isSome) = true) (hl : keys.length = values.length) (h0 : keys ≠ []) (hlen : keys.length ≤ 15)
    (h : ∀ (d : Addr) h' o, Fr h₀ L h' m → News h₀ L h' ((d, o) :: news) → (∀ p ∈ news, p.1 < d) → (d == sysModules) = false → o.IsDictOf (PySem.W.bytesKind prog w) [] →
      wpAny (model prog w) A (evalPairs (pairTrees keys values env pos)) (fun vs s₁ => KdnMade prog w (PySem.W.bytesKind prog w) d Q vs s₁) E { s with heap := h' }) :
    wpAny (model prog w) A (eval (.Dict keys values pos) env) Q E s := kdn_eval F N hbig hall hl h0 hlen h
theorem kdn_made_bytes {vs : List (Value × Value)} (F : Fr h₀ L s.heap m) (N : News h₀ L s.heap news) (U : UpdF d o news g) (hd : o.IsDictOf (PySem.W.bytesKind prog w) []) (hk : allByteKeys vs = true) (hn : ((bytePairs vs).map (·.1)).Nodup)
    (h : ∀ h' o', Fr h₀ L h' m → News h₀ L h' (g o') → o'.IsDictOf (PySem.W.bytesKind prog w) (bytePairs vs) → Q (.ref d) { s with heap := h', toks := s.toks + vs.length }) : KdnMade prog w (PySem.W.bytesKind prog w) d Q vs s := by
  obtain ⟨pre, post, rfl, hg, a, b⟩ := U.split
  have hm := N (d, o) (List.mem_append_right _ (.head _))
  refine ⟨bytePairs vs, carries_bytePairs prog w vs hk, Heap.dictOf_iff.mpr ⟨o, hm.1, hd⟩, fun h' hmm hs => ?_⟩
  rw [merged_nil_of_nodup _ hn] at hmm
  obtain ⟨o', ho', hd'⟩ := Heap.dictOf_iff.mp hmm
  exact h h' o' (F.change hs hm.2.1 hm.2.2) (hg o' ▸ N.setIn a b hs ho') hd'
end
end Mine
end

theorem Mine.offG1 : True := by
  w_top off
  trivial

section -- G1
open PySem PySem.Spec PySem.Calls PySem.W PyProof.Rows
set_option linter.unusedVariables false
set_option maxRecDepth 100000
set_option maxHeartbeats 8000000
set_option pp.deepTerms false
namespace Mine
variable {w : World} {mean : ExcName → Option Value} {mg mb : Str → Option Value} {dp un : Nat} {gd : Option (List Code)} {cn : Str} {cs : Scope} {a : Addr} {ccd : Value} {cl : List (Str × Addr)} {outer : List Env} {A₀ : Around} {base h₀ : Heap} {L : Addr} {m : Str → Option Value} {news : List (Addr × Obj)} {s : Shared} {Q E : Value → Shared → Prop}
theorem names_nodup : List.Nodup ([[98, 108, 97, 99, 107], [114, 101, 100], [103, 114, 101, 101, 110], [121, 101, 108, 108, 111, 119], [98, 108, 117, 101], [109, 97, 103, 101, 110, 116, 97], [99, 121, 97, 110], [119, 104, 105, 116, 101], [103, 114, 97, 121], [103, 114, 101, 121], [111, 114, 97, 110, 103, 101], [98, 114, 111, 119, 110], [112, 105, 110, 107], [112, 117, 114, 112, 108, 101], [110, 97, 118, 121]] : List (List UInt8)) := by decide
theorem c_names
   (B : Below A₀ base outer h₀) (F : Fr h₀ L s.heap m) (X : (Mine.hd.heap_39 w.params).In h₀) (N : News h₀ L s.heap news) (T : Top Mine.hd.view_39 (looseW Mine.hd.view_39 []) mean mg mb h₀) (hk : cs.kind = .function)
   (hdp : dp + 1 < recursionLimit) (hun : un + 8 < cLine)
   
   (hret : ∀ (D : Addr) (od : Obj) (kvs : List (List UInt8 × Value)) (h' : Heap) (tk' : Nat), od.IsDictOf (PySem.W.bytesKind PySem.Challenge.rw_og0237_01.row.prog w) kvs → valueAt kvs [] = none → (D == sysModules) = false → Fr h₀ L h' m → News h₀ L h' ((D, od) :: news) → AllNe D news → Q (.ref D) { s with heap := h', toks := tk' }) :
   wpAny (model PySem.Challenge.rw_og0237_01.row.prog w) (ktrTop dp un gd cn cs L a ccd cl outer) (call (.ref 36) []) Q E s := by
  refine wpAny_call ?_
  revert X; k_fill; intro X
  k_dflt (refine' code_own (own := []) (rest := news) ?k1 ?k2 ?k3 ?k4 ?kr ?ko ?k5 ?kA ?kF ?kK ?k6 ?k7 ?k8 ?k9 ?kB ?_ ?c2 ?c3 ?c4 ?c5; (case kA => exact rfl); (case kF => exact rfl); (case kK => assumption); (case k1 => exact B); (case k2 => exact F); (case k3 => exact X); (case k4 => exact News.nil); (case kr => exact N); (case ko => exact fun _ _ _ h => nomatch h); (case k5 => exact T); (case k6 => k_is); (case k7 => k_is); (case k8 => first | exact dp_ok 0 hdp rfl | exact dp_ok 1 hdp rfl | exact dp_ok 2 hdp rfl | exact dp_ok 3 hdp rfl | ktr_room); (case k9 => exact BindsTo.of_eq rfl); (case c5 => decide); (case kB => exact locs rfl); (case c2 => exact rfl); (case c3 => exact rfl); (case c4 => exact rfl); k_whole)
  intro g' L' h' FG' F' N' B' X' T' R' S'
  (try dsimp only)
  (try k_fold)
  repeat' (first
    | (k_unfold; (try dsimp only))
    | ((with_reducible show wpAny _ _ (execs (_ :: _) _) _ _ _); (try k_gentoks); (try k_fold); (try dsimp only); refine (let A9 : Around := _; (?_ : wpAny _ A9 _ _ _ _)); (with_reducible rename News _ _ _ _ => kN); (with_reducible rename Fr _ _ _ _ => kF); refine (let n9 : List (Addr × Obj) := _; let m9 : Str → Option Value := _; (fun (kN : News _ _ _ n9) (kF : Fr _ _ _ m9) => ?_) kN kF); refine wpAny_execs_cons ?_; (try dsimp only))
    | ((with_reducible show KdnMade _ _ _ _ _ _ _); (k_here; k_dflt (refine' kdn_made_bytes ?Fz1 ?Nz1 ?Uz1 ?dz1 ?kz1 ?nz1 ?_; (case Fz1 => k_asm); (case Nz1 => k_asm); (case Uz1 => k_updF); (case dz1 => k_asm); (case kz1 => rfl); (case nz1 => exact names_nodup)); intro h' o' F' N' hd'))
    | ((with_reducible show wpAny _ _ (eval (Expr.Dict _ _ _) _) _ _ _); (k_here; k_dflt (refine' kdn_bytes ?Fz0 ?Nz0 ?bz0 ?az0 ?lz0 ?ez0 ?nz0 ?_; (case Fz0 => k_asm); (case Nz0 => first | k_asm | exact News.nil); (case bz0 => exact Top.nolimit (by k_asm)); (case az0 => rfl); (case lz0 => rfl); (case ez0 => exact List.cons_ne_nil _ _); (case nz0 => exact Nat.le_of_ble_eq_true rfl)); intro d' h' o' F' N' l1 lo' hd'; (try k_lt l1)))
    | (walk1; all_goals (try dsimp only))
    | (dsimp only; walk1)
    | (leave1; (try dsimp only)))
  rename News h₀ L _ news => kR
  rename News h₀ L _ (_ :: []) => kN
  rename News g' _ _ _ => kM
  rename Obj.IsDictOf _ _ _ => hd9
  exact hret _ _ _ _ _ hd9 (by rfl) (by assumption) (by k_asm) (news_cons (news_one kN (.head _)) kR) (allNe_of (off_new R' kM (.head _)))

end Mine
end

section -- Oc
open PySem PySem.Spec PySem.Calls PySem.W PyProof.Rows
set_option linter.unusedVariables false
set_option maxRecDepth 100000
set_option maxHeartbeats 8000000
namespace Mine
noncomputable def octT (t : List Int) : Option Int :=
  if t.take 4 = [114, 103, 98, 58] then (match spl (t.drop 4) with | [a, b, c] => partsV a b c | _ => none)
  else if t.take 1 = [35] then digitsV (t.drop 1) else none
noncomputable def octV (l : List Int) : Option Int := octT (small l)
theorem oct_rgb3 {t a b c : List Int} (h : t.take 4 = [114, 103, 98, 58]) (hs : spl (t.drop 4) = [a, b, c]) : octT t = partsV a b c := by unfold octT; rw [if_pos h, hs]
theorem oct_rgbn {t : List Int} (h : t.take 4 = [114, 103, 98, 58]) (hs : (spl (t.drop 4)).length ≠ 3) : octT t = none := by
  unfold octT; rw [if_pos h]
  match hx : spl (t.drop 4), hs with
  | [], _ => rfl
  | [_], _ => rfl
  | [_, _], _ => rfl
  | [_, _, _], h => exact absurd rfl h
  | _ :: _ :: _ :: _ :: _, _ => rfl
theorem oct_dig {t : List Int} (h : ¬ t.take 4 = [114, 103, 98, 58]) (h1 : t.take 1 = [35]) : octT t = digitsV (t.drop 1) := by unfold octT; rw [if_neg h, if_pos h1]
theorem oct_nil : octT [] = none := rfl
/-- what the walk asks of the octets: they open with rgb: or #, or are none -/
noncomputable def octOk (l : List Int) : Prop := (small l).take 4 = [114, 103, 98, 58] ∨ (small l).take 1 = [35] ∨ small l = []
theorem small_sz {b b' : Array UInt8} {n : Nat} (e : KBw.bInts b' = small (KBw.bInts b)) (h : b.size ≤ n) : b'.size ≤ n := by
  have := small_len (KBw.bInts b)
  rw [← e, KBw.ints_length, KBw.ints_length] at this
  omega
end Mine
namespace Mine
theorem oct_empty {l : List Int} {b9 b4 b1 : Array UInt8} (hok : octOk l) (e : KBw.bInts b9 = small l) (e4 : KBw.bInts b4 = List.take 4 (KBw.bInts b9)) (n4 : ¬ KBw.bInts b4 = KBw.bInts #[114, 103, 98, 58])
    (e1 : KBw.bInts b1 = List.take 1 (KBw.bInts b9)) (n1 : ¬ KBw.bInts b1 = KBw.bInts #[35]) : b9 = #[] ∧ small l = [] := by
  rw [e] at e4 e1
  rw [e4] at n4
  rw [e1] at n1
  have : small l = [] := by
    rcases hok with h | h | h
    · exact absurd h n4
    · exact absurd h n1
    · exact h
  refine ⟨?_, this⟩
  rw [this] at e
  have hs : b9.size = 0 := by rw [← KBw.ints_length b9, e]; rfl
  exact Array.eq_empty_of_size_eq_zero hs
theorem empty_key {p : Program} {w : World} {b : Array UInt8} {t : Tok} (h : b = #[]) : (PySem.W.bytesKind p w).is [] (.bytes b t) = true := by subst h; rfl
end Mine
namespace Mine
theorem end_rgb3 {b b9 b4 r : Array UInt8} {x y z : List Int} {v : Option Int} (e : KBw.bInts b9 = small (KBw.bInts b)) (e4 : KBw.bInts b4 = List.take 4 (KBw.bInts b9)) (h : KBw.bInts b4 = KBw.bInts #[114, 103, 98, 58]) (er : KBw.bInts r = List.drop 4 (KBw.bInts b9)) (es : spl (KBw.bInts r) = [x, y, z]) (ev : partsV x y z = v) : octV (KBw.bInts b) = v := by
  unfold octV
  rw [← e, oct_rgb3 (e4.symm.trans h) (er ▸ es), ev]
theorem end_rgbn {b b9 b4 r : Array UInt8} (e : KBw.bInts b9 = small (KBw.bInts b)) (e4 : KBw.bInts b4 = List.take 4 (KBw.bInts b9)) (h : KBw.bInts b4 = KBw.bInts #[114, 103, 98, 58]) (er : KBw.bInts r = List.drop 4 (KBw.bInts b9)) (es : (spl (KBw.bInts r)).length ≠ 3) : octV (KBw.bInts b) = none := by
  unfold octV
  rw [← e, oct_rgbn (e4.symm.trans h) (er ▸ es)]
theorem end_dig {b b9 b4 b1 r : Array UInt8} {v : Option Int} (e : KBw.bInts b9 = small (KBw.bInts b)) (e4 : KBw.bInts b4 = List.take 4 (KBw.bInts b9)) (n4 : ¬ KBw.bInts b4 = KBw.bInts #[114, 103, 98, 58]) (e1 : KBw.bInts b1 = List.take 1 (KBw.bInts b9)) (h : KBw.bInts b1 = KBw.bInts #[35])
    (er : KBw.bInts r = List.drop 1 (KBw.bInts b9)) (ev : digitsV (KBw.bInts r) = v) : octV (KBw.bInts b) = v := by
  unfold octV
  rw [← e, oct_dig (fun q => n4 (e4.trans q)) (e1.symm.trans h), ← er, ev]
theorem end_nil {b : Array UInt8} (h : small (KBw.bInts b) = []) : octV (KBw.bInts b) = none := by
  unfold octV
  rw [h]
  rfl
end Mine
end

theorem Mine.offG2 : True := by
  w_top off
  trivial

section -- G2
open PySem PySem.Spec PySem.Calls PySem.W PyProof.Rows
set_option linter.unusedVariables false
set_option maxRecDepth 100000
set_option maxHeartbeats 8000000
set_option pp.deepTerms false
namespace Mine
variable {w : World} {mean : ExcName → Option Value} {mg mb : Str → Option Value} {dp un : Nat} {gd : Option (List Code)} {cn : Str} {cs : Scope} {a : Addr} {ccd : Value} {cl : List (Str × Addr)} {outer : List Env} {A₀ : Around} {base h₀ : Heap} {L : Addr} {m : Str → Option Value} {news : List (Addr × Obj)} {s : Shared} {Q E : Value → Shared → Prop}
theorem c_octs
   (B : Below A₀ base outer h₀) (F : Fr h₀ L s.heap m) (X : (Mine.hd.heap_39 w.params).In h₀) (N : News h₀ L s.heap news) (T : Top Mine.hd.view_39 (looseW Mine.hd.view_39 []) mean mg mb h₀) (hk : cs.kind = .function)
   (hdp : dp + 4 < recursionLimit) (hun : un + 32 < cLine)
   {b : Array UInt8} {t : Tok} (hb : b.size ≤ 64) (hok : octOk (KBw.bInts b))
   (hsome : ∀ (i : Int) (t : Tok) (h' : Heap) (tk' : Nat), octV (KBw.bInts b) = some i → Fr h₀ L h' m → News h₀ L h' news → Q (.int i t) { s with heap := h', toks := tk' })
   (hnone : ∀ (h' : Heap) (tk' : Nat), octV (KBw.bInts b) = none → Fr h₀ L h' m → News h₀ L h' news → Q .none { s with heap := h', toks := tk' }) :
   wpAny (model PySem.Challenge.rw_og0237_01.row.prog w) (ktrTop dp un gd cn cs L a ccd cl outer) (call (.ref 69) [.bytes b t]) Q E s := by
  refine wpAny_call ?_
  revert X; k_fill; intro X
  k_dflt (refine' code_own (own := []) (rest := news) ?k1 ?k2 ?k3 ?k4 ?kr ?ko ?k5 ?kA ?kF ?kK ?k6 ?k7 ?k8 ?k9 ?kB ?_ ?c2 ?c3 ?c4 ?c5; (case kA => exact rfl); (case kF => exact rfl); (case kK => assumption); (case k1 => exact B); (case k2 => exact F); (case k3 => exact X); (case k4 => exact News.nil); (case kr => exact N); (case ko => exact fun _ _ _ h => nomatch h); (case k5 => exact T); (case k6 => k_is); (case k7 => k_is); (case k8 => first | exact dp_ok 0 hdp rfl | exact dp_ok 1 hdp rfl | exact dp_ok 2 hdp rfl | exact dp_ok 3 hdp rfl | ktr_room); (case k9 => exact BindsTo.of_eq rfl); (case c5 => decide); (case kB => exact locs rfl); (case c2 => exact rfl); (case c3 => exact rfl); (case c4 => exact rfl); k_whole)
  intro g' L' h' FG' F' N' B' X' T' R' S'
  (try dsimp only)
  (try k_fold)
  repeat' (first
    | (k_unfold; (try dsimp only))
    | ((with_reducible show wpAny _ _ (execs (_ :: _) _) _ _ _); (try k_gentoks); (try k_fold); (try dsimp only); refine (let A9 : Around := _; (?_ : wpAny _ A9 _ _ _ _)); (with_reducible rename News _ _ _ _ => kN); (with_reducible rename Fr _ _ _ _ => kF); refine (let n9 : List (Addr × Obj) := _; let m9 : Str → Option Value := _; (fun (kN : News _ _ _ n9) (kF : Fr _ _ _ m9) => ?_) kN kF); refine wpAny_execs_cons ?_; (try dsimp only))
    | ((with_reducible show wpAny _ _ (call (Value.ref _) _) _ _ _); first | (k_here; (with_reducible show wpAny _ _ (call (Value.ref 62) [_]) _ _ _); k_dflt (refine' c_digits ?k0z13 ?k1z13 ?k2z13 ?k3z13 ?k4z13 ?k5z13 ?k6z13 ?k7z13 ?p0z13 ?_ ?_; (case k0z13 => k_asm); (case k1z13 => k_asm); (case k2z13 => k_asm); (case k3z13 => k_asm); (case k4z13 => k_asm); (case k5z13 => first | exact rfl | assumption); (case k6z13 => first | exact dp_ok 0 hdp rfl | exact dp_ok 1 hdp rfl | exact dp_ok 2 hdp rfl | exact dp_ok 3 hdp rfl | ktr_room); (case k7z13 => first | exact un_ok hun rfl | exact un_ok0 hun rfl | ktr_units); (case p0z13 => omega);  k_whole); (intro i9 t9 h9 tk9 e9 F9 N9); (try dsimp only); (try k_fold)) | (k_here; (with_reducible show wpAny _ _ (call (Value.ref 55) [_]) _ _ _); k_dflt (refine' c_parts (news := []) ?k0z12 ?k1z12 ?k2z12 ?k3z12 ?k4z12 ?k5z12 ?k6z12 ?k7z12 ?p0z12 ?p1z12 ?p2z12 ?p3z12 ?p4z12 ?_ ?_; (case k0z12 => k_asm); (case k1z12 => k_asm); (case k2z12 => k_asm); (case k3z12 => exact News.nil); (case k4z12 => k_asm); (case k5z12 => first | exact rfl | assumption); (case k6z12 => first | exact dp_ok 0 hdp rfl | exact dp_ok 1 hdp rfl | exact dp_ok 2 hdp rfl | exact dp_ok 3 hdp rfl | ktr_room); (case k7z12 => first | exact un_ok hun rfl | exact un_ok0 hun rfl | ktr_units); (case p0z12 => k_asm); (case p1z12 => exact fun _ h => nomatch h); (case p2z12 => omega); (case p3z12 => omega); (case p4z12 => omega);  k_whole); (intro i9 t9 h9 tk9 e9 F9 N9); (try dsimp only); (try k_fold)) | (k_here; (with_reducible show wpAny _ _ (call (Value.ref 36) _) _ _ _); k_dflt (refine' c_names ?k0z11 ?k1z11 ?k2z11 ?k3z11 ?k4z11 ?k5z11 ?k6z11 ?k7z11 ?_; (case k0z11 => k_asm); (case k1z11 => k_asm); (case k2z11 => k_asm); (case k3z11 => k_asm); (case k4z11 => k_asm); (case k5z11 => first | exact rfl | assumption); (case k6z11 => first | exact dp_ok 0 hdp rfl | exact dp_ok 1 hdp rfl | exact dp_ok 2 hdp rfl | exact dp_ok 3 hdp rfl | ktr_room); (case k7z11 => first | exact un_ok hun rfl | exact un_ok0 hun rfl | ktr_units);  k_whole); intro D9 od9 kv9 h9 tk9 hd9 hv9 lo9 F9 N9 l9; (try simp only [AllNe, and_true] at l9); (try dsimp only); (try k_fold)) | (k_here; (with_reducible show wpAny _ _ (call (Value.ref 41) [_]) _ _ _); k_dflt (refine' c_small ?k0z10 ?k1z10 ?k2z10 ?k3z10 ?k4z10 ?k5z10 ?k6z10 ?k7z10 ?p0z10 ?_; (case k0z10 => k_asm); (case k1z10 => k_asm); (case k2z10 => k_asm); (case k3z10 => k_asm); (case k4z10 => k_asm); (case k5z10 => first | exact rfl | assumption); (case k6z10 => first | exact dp_ok 0 hdp rfl | exact dp_ok 1 hdp rfl | exact dp_ok 2 hdp rfl | exact dp_ok 3 hdp rfl | ktr_room); (case k7z10 => first | exact un_ok hun rfl | exact un_ok0 hun rfl | ktr_units); (case p0z10 => omega);  k_whole); intro b9 t9 h9 tk9 e9 F9 N9; (have z9 := small_sz e9 (by assumption)); (try dsimp only); (try k_fold)))
    | (k_here; (with_reducible show wpAny _ _ (compareOp CmpOp.Eq (Value.bytes _ _) (Value.bytes _ _)) _ _ _); (refine eq_bytesI ?_))
    | (k_here; (with_reducible show wpAny _ _ (subscriptTail _ (Expr.Slice (some (Expr.Constant (Const.int 1) _ _)) none none _) (Value.bytes _ _) (Value.ref _)) _ _ _); (with_reducible rename Fr _ _ _ _ => F'); (with_reducible rename News _ _ _ _ => N'); (refine slice_from (s := ⟨_, _, _, _, _⟩) 1 (by decide) F' N' (by omega) ?_ (by with_unfolding_all rfl) (by intro _; with_unfolding_all rfl)); intro b9 h9 t9 tk9 F9 N9 e9 z9)
    | (k_here; (with_reducible show wpAny _ _ (subscriptTail _ (Expr.Slice (some (Expr.Constant (Const.int 4) _ _)) none none _) (Value.bytes _ _) (Value.ref _)) _ _ _); (with_reducible rename Fr _ _ _ _ => F'); (with_reducible rename News _ _ _ _ => N'); (refine slice_from (s := ⟨_, _, _, _, _⟩) 4 (by decide) F' N' (by omega) ?_ (by with_unfolding_all rfl) (by intro _; with_unfolding_all rfl)); intro b9 h9 t9 tk9 F9 N9 e9 z9)
    | (k_here; (with_reducible show wpAny _ _ (subscriptTail _ (Expr.Slice none (some (Expr.Constant (Const.int 1) _ _)) none _) (Value.bytes _ _) (Value.ref _)) _ _ _); (with_reducible rename Fr _ _ _ _ => F'); (with_reducible rename News _ _ _ _ => N'); (refine slice_to (s := ⟨_, _, _, _, _⟩) 1 (by decide) F' N' (by omega) ?_ (by with_unfolding_all rfl) (by intro _; with_unfolding_all rfl)); intro b9 h9 t9 tk9 F9 N9 e9 z9)
    | (k_here; (with_reducible show wpAny _ _ (subscriptTail _ (Expr.Slice none (some (Expr.Constant (Const.int 4) _ _)) none _) (Value.bytes _ _) (Value.ref _)) _ _ _); (with_reducible rename Fr _ _ _ _ => F'); (with_reducible rename News _ _ _ _ => N'); (refine slice_to (s := ⟨_, _, _, _, _⟩) 4 (by decide) F' N' (by omega) ?_ (by with_unfolding_all rfl) (by intro _; with_unfolding_all rfl)); intro b9 h9 t9 tk9 F9 N9 e9 z9)
    | (k_here; (with_reducible show wpAny _ _ (call (Value.builtin "bytes.split") [Value.bytes _ _, Value.bytes _ _]) _ _ _); k_dflt (refine' split_call3 ?q1z4 ?q2z4 ?q3z4 ?_ ?_; (case q1z4 => k_asm); (case q2z4 => k_asm); (case q3z4 => omega)); intro D9 h9 a1 a2 a3 t1 t2 t3 n9 tk9 e9 z1 z2 z3 F9 N9 l9; (try k_lt l9))
    | ((with_reducible show wpAny _ _ (getMethod (Value.bytes _ _) _ _) _ _ _); (k_here; (with_reducible refine split_method ?_)))
    | (k_here; (with_reducible show wpAny _ _ (call (Value.builtin "len") [Value.ref _]) _ _ _); k_dflt (refine' len_vs ?q1z2 ?q2z2 ?q3z2 ?_; (case q1z2 => k_asm); (case q2z2 => k_mem); (case q3z2 => assumption)); intro _ _)
    | (k_here; (with_reducible show wpAny _ _ (call (Value.builtin "dict.get") [Value.ref _, Value.bytes _ _]) _ _ _); k_dflt (refine kdg_get1 (knd := PySem.W.bytesKind _ _) (k := []) (by k_asm) (by k_mem) (by k_asm) (by assumption) (empty_key (oct_empty (by assumption) (by assumption) (by assumption) (by assumption) (by assumption) (by assumption)).1) none (by assumption) ?_); (try dsimp only [Option.getD]))
    | (k_here; (with_reducible show wpAny _ _ (getMethod (Value.ref _) (Str.ofString "get") _) _ _ _); k_dflt (refine kdg_method (knd := PySem.W.bytesKind _ _) (by k_asm) (by k_mem) (by k_asm) ?_))
    | (walk1; all_goals (try dsimp only))
    | (dsimp only; walk1)
    | (leave1; (try dsimp only)))
  all_goals (try (exfalso; omega))
  all_goals first
    | exact hsome _ _ _ _ (end_rgb3 (by assumption) (by assumption) (by assumption) (by assumption) (by assumption) (by assumption)) (by k_asm) (by k_asm)
    | exact hnone _ _ (end_rgb3 (by assumption) (by assumption) (by assumption) (by assumption) (by assumption) (by assumption)) (by k_asm) (by k_asm)
    | exact hnone _ _ (end_rgbn (by assumption) (by assumption) (by assumption) (by assumption) (by assumption)) (by k_asm) (by k_asm)
    | exact hsome _ _ _ _ (end_dig (by assumption) (by assumption) (by assumption) (by assumption) (by assumption) (by assumption) (by assumption)) (by k_asm) (by k_asm)
    | exact hnone _ _ (end_dig (by assumption) (by assumption) (by assumption) (by assumption) (by assumption) (by assumption) (by assumption)) (by k_asm) (by k_asm)
    | exact hnone _ _ (end_nil (oct_empty hok (by assumption) (by assumption) (by assumption) (by assumption) (by assumption)).2) (by k_asm) (by k_asm)

end Mine
end

section -- Tl
open PySem PySem.Spec PySem.Calls PySem.W PyProof.Rows
set_option linter.unusedVariables false
set_option maxRecDepth 100000
set_option maxHeartbeats 8000000
namespace Mine
theorem meets_tuple_lt (a b : Addr) (x1 x2 y1 y2 : Int) (t1 t2 u1 u2 : Tok) (n m : Nat) :
    Meets (Builtin.«tuple.__lt__» ⟨[.ref a, .ref b], []⟩) (fun _ R s => s.heap.get? a = some { cls := .type "tuple", data := .seq #[.int x1 t1, .int x2 t2] n } ∧ s.heap.get? b = some { cls := .type "tuple", data := .seq #[.int y1 u1, .int y2 u2] m } ∧
      R (.ok (.ret (.bool (decide (x1 < y1 ∨ (x1 = y1 ∧ x2 < y2)))))) s) := by
  refine .of_wp fun prog w A R s ⟨ha, hb, h⟩ => ?_
  have hTb : s.TypeIs (.ref b) "tuple" := ⟨_, hb, rfl⟩
  show wpAny _ _ (isInstance (.ref b) (.type "tuple") >>= _) _ _ s
  refine wpAny_bind (wpAny_isInstance hTb isSubtype_tuple_tuple ?_)
  simp only [Bool.not_true, Bool.false_eq_true, if_false]
  refine wpAny_bind (wpAny_tupleItemsOf ha rfl ?_)
  refine wpAny_bind (wpAny_tupleItemsOf hb rfl ?_)
  refine wpAny_bind ?_
  show wpAny _ _ (forIn [(Value.int x1 t1, Value.int y1 u1), (Value.int x2 t2, Value.int y2 u2)] _ _) _ _ s
  simp only [List.forIn_cons, List.forIn_nil]
  refine wpAny_bind ?_
  refine wpAny_bind (wpAny_eqBool_int ?_)
  by_cases h1 : x1 = y1
  · subst h1
    refine wpAny_ite (KBy.ite_no (by simp) ?_)
    refine wpAny_pure ?_
    dsimp only
    refine wpAny_bind ?_
    refine wpAny_bind (wpAny_eqBool_int ?_)
    by_cases h2 : x2 = y2
    · subst h2
      refine wpAny_ite (KBy.ite_no (by simp) ?_)
      refine wpAny_pure ?_
      dsimp only
      refine wpAny_pure ?_
      dsimp only
      have e : decide (x1 < x1 ∨ x1 = x1 ∧ x2 < x2) = false := decide_eq_false (by omega)
      rw [e] at h
      exact wpAny_pure ⟨_, rfl, h⟩
    · refine wpAny_ite (KBc.ite_yes (by simp [h2]) ?_)
      refine wpAny_bind (wpAny_rule ?_)
      refine wpAny_bind (wpAny_mono (Q := fun v s' => v = .bool (decide (x2 < y2)) ∧ s' = s) (show wpAny _ _ (compareOp .Lt (.int x2 t2) (.int y2 u2)) _ _ s from lt_int ⟨rfl, rfl⟩) ?_ fun _ _ e => e)
      rintro v s' ⟨rfl, rfl⟩
      have e : decide (x1 < x1 ∨ x1 = x1 ∧ x2 < y2) = decide (x2 < y2) := by
        rw [Bool.eq_iff_iff, decide_eq_true_eq, decide_eq_true_eq]; omega
      rw [e] at h
      exact wpAny_bind (wpAny_pure (wpAny_pure (wpAny_pure (wpAny_pure ⟨_, rfl, h⟩))))
  · refine wpAny_ite (KBc.ite_yes (by simp [h1]) ?_)
    refine wpAny_bind (wpAny_rule ?_)
    refine wpAny_bind (wpAny_mono (Q := fun v s' => v = .bool (decide (x1 < y1)) ∧ s' = s) (show wpAny _ _ (compareOp .Lt (.int x1 t1) (.int y1 u1)) _ _ s from lt_int ⟨rfl, rfl⟩) ?_ fun _ _ e => e)
    rintro v s' ⟨rfl, rfl⟩
    have e : decide (x1 < y1 ∨ x1 = y1 ∧ x2 < y2) = decide (x1 < y1) := by
      rw [Bool.eq_iff_iff, decide_eq_true_eq, decide_eq_true_eq]; omega
    rw [e] at h
    exact wpAny_bind (wpAny_pure (wpAny_pure (wpAny_pure (wpAny_pure ⟨_, rfl, h⟩))))
section
variable {prog : Program} {w : World} {A : Around} {E : Value → Shared → Prop} {s : Shared}
theorem tuple_lt {a b : Addr} {x1 x2 y1 y2 : Int} {t1 t2 u1 u2 : Tok} {n m : Nat} {Q : Value → Shared → Prop} (ha : s.heap.get? a = some { cls := .type "tuple", data := .seq #[.int x1 t1, .int x2 t2] n }) (hb : s.heap.get? b = some { cls := .type "tuple", data := .seq #[.int y1 u1, .int y2 u2] m })
    (hu : A.units < cLine) (h : Q (.bool (decide (x1 < y1 ∨ (x1 = y1 ∧ x2 < y2)))) s) : wpAny (model prog w) A (compareOp .Lt (.ref a) (.ref b)) Q E s := by
  show wpAny _ _ (richCompare .Lt (.ref a) (.ref b)) _ _ _
  refine richCompare_meets_room (T := "tuple") ⟨_, ha, rfl⟩ ⟨_, hb, rfl⟩ PySem.F.slot_tuple_lt PySem.F.entry_tuple_lt (PySem.F.args_tuple_lt_2 _ _) (meets_tuple_lt a b x1 x2 y1 y2 t1 t2 u1 u2 n m) ?_ hu
  refine ⟨ha, hb, ?_⟩
  refine ⟨?_, h⟩
  intro e
  cases e
end
end Mine
end

theorem Mine.offH1 : True := by
  w_top off
  trivial

section -- H1
open PySem PySem.Spec PySem.Calls PySem.W PyProof.Rows
set_option linter.unusedVariables false
set_option maxRecDepth 100000
set_option maxHeartbeats 8000000
set_option pp.deepTerms false
namespace Mine
variable {w : World} {mean : ExcName → Option Value} {mg mb : Str → Option Value} {dp un : Nat} {gd : Option (List Code)} {cn : Str} {cs : Scope} {a : Addr} {ccd : Value} {cl : List (Str × Addr)} {outer : List Env} {A₀ : Around} {base h₀ : Heap} {L : Addr} {m : Str → Option Value} {news : List (Addr × Obj)} {s : Shared} {Q E : Value → Shared → Prop}
theorem c_is_nearest
   (B : Below A₀ base outer h₀) (F : Fr h₀ L s.heap m) (X : (Mine.hd.heap_39 w.params).In h₀) (N : News h₀ L s.heap news) (T : Top Mine.hd.view_39 (looseW Mine.hd.view_39 []) mean mg mb h₀) (hk : cs.kind = .function)
   (hdp : dp + 2 < recursionLimit) (hun : un + 128 < cLine)
   {p1 p2 p3 : Int} {u1 u2 u3 : Tok} {l2 : Addr} {n2 : Nat} (hm2 : s.heap.get? l2 = some { cls := .type "list", data := .seq #[.int p1 u1, .int p2 u2, .int p3 u3] n2 }) (hp1 : 0 ≤ p1 ∧ p1 < 256) (hp2 : 0 ≤ p2 ∧ p2 < 256) (hp3 : 0 ≤ p3 ∧ p3 < 256) {told way : Int} {t u : Tok} (ht0 : 16 ≤ told) (ht1 : told < 256) (hw0 : 0 ≤ way) (hw1 : way ≤ 2) (hnear : ∀ k : Int, 16 ≤ k → k < 256 → ¬ (far3 (palR k) (palG k) (palB k) p1 p2 p3 < far3 (palR told) (palG told) (palB told) p1 p2 p3 ∨ (far3 (palR k) (palG k) (palB k) p1 p2 p3 = far3 (palR told) (palG told) (palB told) p1 p2 p3 ∧ k < told)))
   (hret : ∀ (h' : Heap) (tk' : Nat), Fr h₀ L h' m → News h₀ L h' news → Q (.bool true) { s with heap := h', toks := tk' }) :
   wpAny (model PySem.Challenge.rw_og0237_01.row.prog w) (ktrTop dp un gd cn cs L a ccd cl outer) (call (.ref 152) [.int told t, .ref l2, .int way u]) Q E s := by
  refine wpAny_call ?_
  revert X; k_fill; intro X
  k_dflt (refine' code_ownC (own := []) (rest := news) ?k1 ?k2 ?k3 ?k4 ?kr ?ko ?k5 ?kA ?kF ?kK ?k6 ?k7 ?k8 ?k9 ?kB ?kD ?_ ?c2 ?c3 ?c4; (case kA => exact rfl); (case kF => exact rfl); (case kK => assumption); (case k1 => exact B); (case k2 => exact F); (case k3 => exact X); (case k4 => exact News.nil); (case kr => exact N); (case ko => exact fun _ _ _ h => nomatch h); (case k5 => exact T); (case k6 => k_is); (case k7 => k_is); (case k8 => first | exact dp_ok 0 hdp rfl | exact dp_ok 1 hdp rfl | exact dp_ok 2 hdp rfl | exact dp_ok 3 hdp rfl | ktr_room); (case k9 => exact BindsTo.of_eq rfl); (case kB => exact rfl); (case kD => decide +kernel); (case c2 => exact rfl); (case c3 => exact rfl); (case c4 => exact rfl); k_whole)
  intro g' L' h' tk' cells' FG' F' N' Y' B' X' T' l1 R' S'
  (try k_lt l1)
  k_cells Y'
  (try simp only [List.cons_append, List.nil_append] at N')
  (try dsimp only)
  (try k_fold)
  have T2 := S' _ _ hm2 (fun _ h => nomatch h)
  repeat' (first
    | (k_unfold; (try dsimp only))
    | ((with_reducible show wpAny _ _ (call (Value.ref _) _) _ _ _); first | (k_here; (with_reducible show wpAny _ _ (call (Value.ref 147) [_, _]) _ _ _); k_dflt (refine' c_law_far ?k0z5 ?k1z5 ?k2z5 ?k3z5 ?k4z5 ?k5z5 ?k6z5 ?k7z5 ?p0z5 ?p1z5 ?p2z5 ?p3z5 ?p4z5 ?p5z5 ?p6z5 ?p7z5 ?_; (case k0z5 => k_asm); (case k1z5 => k_asm); (case k2z5 => k_asm); (case k3z5 => k_asm); (case k4z5 => k_asm); (case k5z5 => first | exact rfl | assumption); (case k6z5 => first | exact dp_ok 0 hdp rfl | exact dp_ok 1 hdp rfl | exact dp_ok 2 hdp rfl | exact dp_ok 3 hdp rfl | ktr_room); (case k7z5 => first | exact un_ok hun rfl | exact un_ok0 hun rfl | ktr_units); (case p0z5 => exact News.get (by k_asm) (by k_mem)); (case p1z5 => exact Fr.keep (by k_asm) _ _ (by assumption)); (case p2z5 => exact palR_in (by omega)); (case p3z5 => exact palG_in (by omega)); (case p4z5 => exact palB_in (by omega)); (case p5z5 => assumption); (case p6z5 => assumption); (case p7z5 => assumption);  k_whole); intro t9 h9 tk9 F9 N9; (try dsimp only); (try k_fold)) | (k_here; (with_reducible show wpAny _ _ (call (Value.ref 135) [_]) _ _ _); k_dflt (refine' c_law_rgb ?k0z4 ?k1z4 ?k2z4 ?k3z4 ?k4z4 ?k5z4 ?k6z4 ?k7z4 ?p0z4 ?p1z4 ?_; (case k0z4 => k_asm); (case k1z4 => k_asm); (case k2z4 => k_asm); (case k3z4 => k_asm); (case k4z4 => k_asm); (case k5z4 => first | exact rfl | assumption); (case k6z4 => first | exact dp_ok 0 hdp rfl | exact dp_ok 1 hdp rfl | exact dp_ok 2 hdp rfl | exact dp_ok 3 hdp rfl | ktr_room); (case k7z4 => first | exact un_ok hun rfl | exact un_ok0 hun rfl | ktr_units); (case p0z4 => omega); (case p1z4 => omega);  k_whole); intro D9 t9 u9 v9 n9 h9 tk9 F9 N9 l9; (try simp only [AllNe, and_true] at l9); (try dsimp only); (try k_fold)))
    | ((with_reducible show wpAny _ _ (eval (Expr.ListComp _ _ _ _) _) _ _ _); (k_here; k_dflt (refine' comp_T ?q0z3 ?q1z3 ?q2z3 ?q3z3 ?q4z3 ?q5z3 ?q6z3 ?q7z3; (case q0z3 => k_asm); (case q1z3 => with_unfolding_all rfl); (case q2z3 => decide); (case q3z3 => rfl); (case q4z3 => decide); (case q5z3 => rfl); (case q7z3 => (intro _; rfl)))))
    | ((with_reducible show LCg.CompEnd _ _ _ _ _ _ _ _ _ _ _ _ _ _); first | ((refine end_left (by k_asm) (by k_asm) ?cesz2 (by assumption) trivial rfl); (case cesz2 => kcf_all)) | (exfalso; exact hnear _ (by assumption) (by assumption) (by assumption)))
    | (k_here; (with_reducible show wpAny _ _ (compareOp CmpOp.Eq (Value.ref _) (Value.ref _)) _ _ _); (with_unfolding_all refine' eq_intsK ?k1z1 ?k2z1 ?k3z1 ?k4z1 ?k5z1 ?_; (case k1z1 => is_list); (case k2z1 => l_intsC); (case k3z1 => is_list); (case k4z1 => l_intsC); (case k5z1 => first | exact un_ok hun rfl | exact un_ok0 hun rfl | ktr_units); k_whole); (try simp only [filter_tt]))
    | (k_here; (with_reducible show wpAny _ _ (compareOp CmpOp.Lt (Value.ref _) (Value.ref _)) _ _ _); k_dflt (refine' tuple_lt ?q1z0 ?q2z0 ?q3z0 ?_; (case q1z0 => exact News.get (by k_asm) (by k_mem)); (case q2z0 => exact News.get (by k_asm) (by k_mem)); (case q3z0 => first | exact un_ok hun rfl | exact un_ok0 hun rfl | ktr_units)))
    | (walk1; all_goals (try dsimp only))
    | (dsimp only; walk1)
    | (leave1; (try dsimp only)))
  have hw : way = 0 ∨ way = 1 ∨ way = 2 := by omega
  rename IsRange _ _ _ _ _ _ _ _ => hR
  refine SrcT.range (n := 80) rfl (by k_asm) (by k_asm) hR (by rcases hw with rfl | rfl | rfl <;> decide) (by rcases hw with rfl | rfl | rfl <;> decide) (by decide) (fun g1 => restT_fold (ks := stepKs (16 + way) 3 80) (fun _ => none) (stepKs_len _ _ _) (fun i v hi hv => stepKs_get i v hi hv) ?_ ?_)
  · intro k t1 I oI C oC D m2 ys h1 tk1 E1 hk hNs hx F1 N1 off ne
    obtain ⟨i, hi, ek⟩ := stepKs_mem hk
    have k0 : 16 ≤ k := by omega
    have k1 : k < 256 := by omega
    clear hi ek hR
    have off0 := off
    (try simp only [PyProof.Rows.LCg.Off3, and_true] at off)
    repeat' (first
    | (k_unfold; (try dsimp only))
    | ((with_reducible show wpAny _ _ (call (Value.ref _) _) _ _ _); first | (k_here; (with_reducible show wpAny _ _ (call (Value.ref 147) [_, _]) _ _ _); k_dflt (refine' c_law_far ?k0z5 ?k1z5 ?k2z5 ?k3z5 ?k4z5 ?k5z5 ?k6z5 ?k7z5 ?p0z5 ?p1z5 ?p2z5 ?p3z5 ?p4z5 ?p5z5 ?p6z5 ?p7z5 ?_; (case k0z5 => k_asm); (case k1z5 => k_asm); (case k2z5 => k_asm); (case k3z5 => k_asm); (case k4z5 => k_asm); (case k5z5 => first | exact rfl | assumption); (case k6z5 => first | exact dp_ok 0 hdp rfl | exact dp_ok 1 hdp rfl | exact dp_ok 2 hdp rfl | exact dp_ok 3 hdp rfl | ktr_room); (case k7z5 => first | exact un_ok hun rfl | exact un_ok0 hun rfl | ktr_units); (case p0z5 => exact News.get (by k_asm) (by k_mem)); (case p1z5 => exact Fr.keep (by k_asm) _ _ (by assumption)); (case p2z5 => exact palR_in (by omega)); (case p3z5 => exact palG_in (by omega)); (case p4z5 => exact palB_in (by omega)); (case p5z5 => assumption); (case p6z5 => assumption); (case p7z5 => assumption);  k_whole); intro t9 h9 tk9 F9 N9; (try dsimp only); (try k_fold)) | (k_here; (with_reducible show wpAny _ _ (call (Value.ref 135) [_]) _ _ _); k_dflt (refine' c_law_rgb ?k0z4 ?k1z4 ?k2z4 ?k3z4 ?k4z4 ?k5z4 ?k6z4 ?k7z4 ?p0z4 ?p1z4 ?_; (case k0z4 => k_asm); (case k1z4 => k_asm); (case k2z4 => k_asm); (case k3z4 => k_asm); (case k4z4 => k_asm); (case k5z4 => first | exact rfl | assumption); (case k6z4 => first | exact dp_ok 0 hdp rfl | exact dp_ok 1 hdp rfl | exact dp_ok 2 hdp rfl | exact dp_ok 3 hdp rfl | ktr_room); (case k7z4 => first | exact un_ok hun rfl | exact un_ok0 hun rfl | ktr_units); (case p0z4 => omega); (case p1z4 => omega);  k_whole); intro D9 t9 u9 v9 n9 h9 tk9 F9 N9 l9; (try simp only [AllNe, and_true] at l9); (try dsimp only); (try k_fold)))
    | ((with_reducible show wpAny _ _ (eval (Expr.ListComp _ _ _ _) _) _ _ _); (k_here; k_dflt (refine' comp_T ?q0z3 ?q1z3 ?q2z3 ?q3z3 ?q4z3 ?q5z3 ?q6z3 ?q7z3; (case q0z3 => k_asm); (case q1z3 => with_unfolding_all rfl); (case q2z3 => decide); (case q3z3 => rfl); (case q4z3 => decide); (case q5z3 => rfl); (case q7z3 => (intro _; rfl)))))
    | ((with_reducible show LCg.CompEnd _ _ _ _ _ _ _ _ _ _ _ _ _ _); first | ((refine end_left (by k_asm) (by k_asm) ?cesz2 (by assumption) trivial rfl); (case cesz2 => kcf_all)) | (exfalso; exact hnear _ (by assumption) (by assumption) (by assumption)))
    | (k_here; (with_reducible show wpAny _ _ (compareOp CmpOp.Eq (Value.ref _) (Value.ref _)) _ _ _); (with_unfolding_all refine' eq_intsK ?k1z1 ?k2z1 ?k3z1 ?k4z1 ?k5z1 ?_; (case k1z1 => is_list); (case k2z1 => l_intsC); (case k3z1 => is_list); (case k4z1 => l_intsC); (case k5z1 => first | exact un_ok hun rfl | exact un_ok0 hun rfl | ktr_units); k_whole); (try simp only [filter_tt]))
    | (k_here; (with_reducible show wpAny _ _ (compareOp CmpOp.Lt (Value.ref _) (Value.ref _)) _ _ _); k_dflt (refine' tuple_lt ?q1z0 ?q2z0 ?q3z0 ?_; (case q1z0 => exact News.get (by k_asm) (by k_mem)); (case q2z0 => exact News.get (by k_asm) (by k_mem)); (case q3z0 => first | exact un_ok hun rfl | exact un_ok0 hun rfl | ktr_units)))
    | (walk1; all_goals (try dsimp only))
    | (dsimp only; walk1)
    | (leave1; (try dsimp only)))
    all_goals exact absurd (by assumption) (hnear k k0 k1)
  · intro ys hy
    rw [filterMap_none] at hy
    cases hy
    repeat' (first
    | (k_unfold; (try dsimp only))
    | ((with_reducible show wpAny _ _ (call (Value.ref _) _) _ _ _); first | (k_here; (with_reducible show wpAny _ _ (call (Value.ref 147) [_, _]) _ _ _); k_dflt (refine' c_law_far ?k0z5 ?k1z5 ?k2z5 ?k3z5 ?k4z5 ?k5z5 ?k6z5 ?k7z5 ?p0z5 ?p1z5 ?p2z5 ?p3z5 ?p4z5 ?p5z5 ?p6z5 ?p7z5 ?_; (case k0z5 => k_asm); (case k1z5 => k_asm); (case k2z5 => k_asm); (case k3z5 => k_asm); (case k4z5 => k_asm); (case k5z5 => first | exact rfl | assumption); (case k6z5 => first | exact dp_ok 0 hdp rfl | exact dp_ok 1 hdp rfl | exact dp_ok 2 hdp rfl | exact dp_ok 3 hdp rfl | ktr_room); (case k7z5 => first | exact un_ok hun rfl | exact un_ok0 hun rfl | ktr_units); (case p0z5 => exact News.get (by k_asm) (by k_mem)); (case p1z5 => exact Fr.keep (by k_asm) _ _ (by assumption)); (case p2z5 => exact palR_in (by omega)); (case p3z5 => exact palG_in (by omega)); (case p4z5 => exact palB_in (by omega)); (case p5z5 => assumption); (case p6z5 => assumption); (case p7z5 => assumption);  k_whole); intro t9 h9 tk9 F9 N9; (try dsimp only); (try k_fold)) | (k_here; (with_reducible show wpAny _ _ (call (Value.ref 135) [_]) _ _ _); k_dflt (refine' c_law_rgb ?k0z4 ?k1z4 ?k2z4 ?k3z4 ?k4z4 ?k5z4 ?k6z4 ?k7z4 ?p0z4 ?p1z4 ?_; (case k0z4 => k_asm); (case k1z4 => k_asm); (case k2z4 => k_asm); (case k3z4 => k_asm); (case k4z4 => k_asm); (case k5z4 => first | exact rfl | assumption); (case k6z4 => first | exact dp_ok 0 hdp rfl | exact dp_ok 1 hdp rfl | exact dp_ok 2 hdp rfl | exact dp_ok 3 hdp rfl | ktr_room); (case k7z4 => first | exact un_ok hun rfl | exact un_ok0 hun rfl | ktr_units); (case p0z4 => omega); (case p1z4 => omega);  k_whole); intro D9 t9 u9 v9 n9 h9 tk9 F9 N9 l9; (try simp only [AllNe, and_true] at l9); (try dsimp only); (try k_fold)))
    | ((with_reducible show wpAny _ _ (eval (Expr.ListComp _ _ _ _) _) _ _ _); (k_here; k_dflt (refine' comp_T ?q0z3 ?q1z3 ?q2z3 ?q3z3 ?q4z3 ?q5z3 ?q6z3 ?q7z3; (case q0z3 => k_asm); (case q1z3 => with_unfolding_all rfl); (case q2z3 => decide); (case q3z3 => rfl); (case q4z3 => decide); (case q5z3 => rfl); (case q7z3 => (intro _; rfl)))))
    | ((with_reducible show LCg.CompEnd _ _ _ _ _ _ _ _ _ _ _ _ _ _); first | ((refine end_left (by k_asm) (by k_asm) ?cesz2 (by assumption) trivial rfl); (case cesz2 => kcf_all)) | (exfalso; exact hnear _ (by assumption) (by assumption) (by assumption)))
    | (k_here; (with_reducible show wpAny _ _ (compareOp CmpOp.Eq (Value.ref _) (Value.ref _)) _ _ _); (with_unfolding_all refine' eq_intsK ?k1z1 ?k2z1 ?k3z1 ?k4z1 ?k5z1 ?_; (case k1z1 => is_list); (case k2z1 => l_intsC); (case k3z1 => is_list); (case k4z1 => l_intsC); (case k5z1 => first | exact un_ok hun rfl | exact un_ok0 hun rfl | ktr_units); k_whole); (try simp only [filter_tt]))
    | (k_here; (with_reducible show wpAny _ _ (compareOp CmpOp.Lt (Value.ref _) (Value.ref _)) _ _ _); k_dflt (refine' tuple_lt ?q1z0 ?q2z0 ?q3z0 ?_; (case q1z0 => exact News.get (by k_asm) (by k_mem)); (case q2z0 => exact News.get (by k_asm) (by k_mem)); (case q3z0 => first | exact un_ok hun rfl | exact un_ok0 hun rfl | ktr_units)))
    | (walk1; all_goals (try dsimp only))
    | (dsimp only; walk1)
    | (leave1; (try dsimp only)))
    exact hret _ _ (by k_asm) (by k_asm)

end Mine
end

section -- E3
open PySem PySem.Spec PySem.Calls PySem.W PyProof.Rows
set_option linter.unusedVariables false
set_option maxRecDepth 100000
set_option maxHeartbeats 8000000
set_option pp.deepTerms false
namespace Mine
variable {w : World} {mean : ExcName → Option Value} {mg mb : Str → Option Value} {dp un : Nat} {gd : Option (List Code)} {cn : Str} {cs : Scope} {a : Addr} {ccd : Value} {cl : List (Str × Addr)} {outer : List Env} {A₀ : Around} {base h₀ : Heap} {L : Addr} {m : Str → Option Value} {news : List (Addr × Obj)} {s : Shared} {Q E : Value → Shared → Prop}
theorem c_drawU
   (B : Below A₀ base outer h₀) (F : Fr h₀ L s.heap m) (X : (Mine.hd.heap_39 w.params).In h₀) (N : News h₀ L s.heap news) (T : Top Mine.hd.view_39 (looseW Mine.hd.view_39 []) mean mg mb h₀) (hk : cs.kind = .function)
   (hdp : dp + 1 < recursionLimit) (hun : un + 128 < cLine)
   {D Ls : Addr} {od ol : Obj} {u : Tok} {many : Int} {g1 : Obj → List (Addr × Obj)} {g2 : Obj → Obj → List (Addr × Obj)} (hd : DeckOk w Ls od ol) (hne : @Ne Nat D Ls) (U1 : UpdF D od news g1) (U2 : ∀ od', UpdF Ls ol (g1 od') (g2 od')) (hm0 : 1 ≤ many) (hm1 : many ≤ 1024)
   (hret : ∀ (r : Int) (t : Tok) (od' ol' : Obj) (h' : Heap) (tk' : Nat), 0 ≤ r → r < many → DeckOk w Ls od' ol' → Fr h₀ L h' m → News h₀ L h' (g2 od' ol') → Q (.int r t) { s with heap := h', toks := tk' }) :
   wpAny (model PySem.Challenge.rw_og0237_01.row.prog w) (ktrTop dp un gd cn cs L a ccd cl outer) (call (.ref 128) [.ref D, .int many u]) Q E s := by
  obtain ⟨pre, post, rfl, hg1, a1, b1⟩ := U1.split
  have key : ∀ od' ol', ∀ p ∈ g2 od' ol', p = (D, od') ∨ p = (Ls, ol') ∨ (p ∈ pre ++ (D, od) :: post ∧ p.1 ≠ D ∧ p.1 ≠ Ls) := by
    intro od' ol' p hp
    obtain ⟨pre', post', e2, hg2, a2, b2⟩ := (U2 od').split
    rw [hg2] at hp
    have back : ∀ q, q ∈ g1 od' → q.1 ≠ Ls → q = (D, od') ∨ q = (Ls, ol') ∨ (q ∈ pre ++ (D, od) :: post ∧ q.1 ≠ D ∧ q.1 ≠ Ls) := by
      intro q hq hL
      rw [hg1] at hq
      rcases List.mem_append.mp hq with hq | hq
      · exact .inr (.inr ⟨List.mem_append_left _ hq, a1 q hq, hL⟩)
      · rcases List.mem_cons.mp hq with rfl | hq
        · exact .inl rfl
        · exact .inr (.inr ⟨List.mem_append_right _ (.tail _ hq), b1 q hq, hL⟩)
    rcases List.mem_append.mp hp with hp | hp
    · exact back p (by rw [e2]; exact List.mem_append_left _ hp) (a2 p hp)
    · rcases List.mem_cons.mp hp with rfl | hp
      · exact .inr (.inl rfl)
      · exact back p (by rw [e2]; exact List.mem_append_right _ (.tail _ hp)) (b2 p hp)
  have hLs : (Ls, ol) ∈ pre ++ (D, od) :: post := by
    obtain ⟨pre', post', e2, _, _, _⟩ := (U2 od).split
    have : (Ls, ol) ∈ g1 od := by rw [e2]; exact List.mem_append_right _ (.head _)
    rw [hg1] at this
    exact this
  have N1 : News h₀ L s.heap [(D, od), (Ls, ol)] := fun p hp => by
    rcases List.mem_cons.mp hp with rfl | hp
    · exact N _ (List.mem_append_right _ (.head _))
    · rw [List.mem_singleton.mp hp]; exact N _ hLs
  refine c_draw (news := (pre ++ (D, od) :: post).filter fun p => decide (¬ @Eq Nat p.1 D ∧ ¬ @Eq Nat p.1 Ls)) B F X (fun p hp => N p (List.mem_filter.mp hp).1) T ‹_› hdp hun hd N1 (fun q hq p hp => ?_) hne hm0 hm1 fun r t od' ol' h' tk' r0 r1 hd' F1 N2 => hret r t od' ol' h' tk' r0 r1 hd' F1 fun p hp => ?_
  · have h2 := of_decide_eq_true (List.mem_filter.mp hq).2
    rcases List.mem_cons.mp hp with rfl | hp
    · exact h2.1
    · rw [List.mem_singleton.mp hp]; exact h2.2
  · rcases key od' ol' p hp with rfl | rfl | ⟨h1, h2, h3⟩
    · exact N2 _ (.head _)
    · exact N2 _ (.tail _ (.head _))
    · exact N2 _ (.tail _ (.tail _ (List.mem_filter.mpr ⟨h1, decide_eq_true ⟨h2, h3⟩⟩)))
end Mine
end

section -- Lw
open PySem PySem.Spec PySem.Calls PySem.W PyProof.Rows
set_option linter.unusedVariables false
set_option maxRecDepth 100000
set_option maxHeartbeats 8000000
namespace Mine
theorem off3_same {I C D : Addr} {l l' : List (Addr × Obj)} (x : LCg.Off3 I C D l) (e : l.map (fun p => p.1) = l'.map (fun p => p.1)) : LCg.Off3 I C D l' :=
  LCg.Off3.of fun p hp => by
    have h : p.1 ∈ l'.map (fun p => p.1) := List.mem_map.mpr ⟨p, hp, rfl⟩
    rw [← e] at h
    obtain ⟨q, hq, eq⟩ := List.mem_map.mp h
    rw [← eq]
    exact LCg.Off3.mem x q hq
theorem off3_I {I C D a : Addr} {o : Obj} {l : List (Addr × Obj)} (x : LCg.Off3 I C D l) (h : (a, o) ∈ l) : @Ne Nat a I := (LCg.Off3.mem x _ h).1
theorem off3_C {I C D a : Addr} {o : Obj} {l : List (Addr × Obj)} (x : LCg.Off3 I C D l) (h : (a, o) ∈ l) : @Ne Nat a C := (LCg.Off3.mem x _ h).2.1
theorem off3_D {I C D a : Addr} {o : Obj} {l : List (Addr × Obj)} (x : LCg.Off3 I C D l) (h : (a, o) ∈ l) : @Ne Nat a D := (LCg.Off3.mem x _ h).2.2
theorem frN {g h : Heap} {L : Addr} {m m' : Str → Option Value} (F : Fr g L h m) (e : m = m') : Fr g L h m' := e ▸ F
section
variable {prog : Program} {w : World} {A : Around} {E : Value → Shared → Prop} {s : Shared} {t u : Tok} {Q : Value → Shared → Prop}
theorem ne_same {x y : Int} (h : x = y) (hQ : Q (.bool false) s) : wpAny (model prog w) A (compareOp .NotEq (.int x t) (.int y u)) Q E s :=
  PyProof.Rows.ne_int (by rw [h, bne_self_eq_false]; exact hQ)
theorem ne_bsame {b c : Array UInt8} (h : KBw.bInts b = KBw.bInts c) (hQ : Q (.bool false) s) : wpAny (model prog w) A (compareOp .NotEq (.bytes b t) (.bytes c u)) Q E s :=
  ne_bytesI (by rw [decide_eq_true h]; exact hQ)
end
end Mine
end

section -- P1
open PySem PySem.Spec PySem.Calls PySem.W PyProof.Rows
set_option linter.unusedVariables false
set_option maxRecDepth 100000
set_option maxHeartbeats 8000000
namespace Mine
/-- the level of a part lies nearest, the least of those that do -/
theorem lev_fin : ∀ i : Nat, i < 6 → ∀ p : Nat, p < 256 → (lev (nl p) - (p : Int)) * (lev (nl p) - (p : Int)) ≤ (lev i - (p : Int)) * (lev i - (p : Int)) ∧ ((i : Int) < nl p → (lev (nl p) - (p : Int)) * (lev (nl p) - (p : Int)) < (lev i - (p : Int)) * (lev i - (p : Int))) := by
  decide +kernel
theorem lev_best {p : Int} (hp : 0 ≤ p ∧ p < 256) {i : Nat} (hi : i < 6) : (lev (nl p) - p) * (lev (nl p) - p) ≤ (lev i - p) * (lev i - p) ∧ ((i : Int) < nl p → (lev (nl p) - p) * (lev (nl p) - p) < (lev i - p) * (lev i - p)) :=
  fin_int (P := fun p => (lev (nl p) - p) * (lev (nl p) - p) ≤ (lev i - p) * (lev i - p) ∧ ((i : Int) < nl p → (lev (nl p) - p) * (lev (nl p) - p) < (lev i - p) * (lev i - p))) 256 (lev_fin i hi) hp.1 hp.2
/-- the parts of a colour of the cube -/
theorem cube_fin : ∀ i : Nat, i < 6 → ∀ j : Nat, j < 6 → ∀ k : Nat, k < 6 → palR (16 + 36 * i + 6 * j + k) = lev i ∧ palG (16 + 36 * i + 6 * j + k) = lev j ∧ palB (16 + 36 * i + 6 * j + k) = lev k := by decide +kernel
theorem cube_fin2 : ∀ n : Nat, n < 232 → 16 ≤ n → (n - 16) / 36 < 6 ∧ (n - 16) / 6 % 6 < 6 ∧ (n - 16) % 6 < 6 ∧ (n : Int) = 16 + 36 * ((n - 16) / 36 : Nat) + 6 * ((n - 16) / 6 % 6 : Nat) + ((n - 16) % 6 : Nat) := by decide +kernel
/-- a fold that keeps the best, the elder where two are as good -/
theorem keep_min (g : Int → Int) : ∀ (l : List Int) (b : Int), (∀ i ∈ l, b < i) → l.Pairwise (· < ·) →
    (l.foldl (fun b i => if g i < g b then i else b) b = b ∨ l.foldl (fun b i => if g i < g b then i else b) b ∈ l) ∧
    g (l.foldl (fun b i => if g i < g b then i else b) b) ≤ g b ∧
    (l.foldl (fun b i => if g i < g b then i else b) b ≠ b → g (l.foldl (fun b i => if g i < g b then i else b) b) < g b) ∧
    ∀ i ∈ l, g (l.foldl (fun b i => if g i < g b then i else b) b) ≤ g i ∧ (i < l.foldl (fun b i => if g i < g b then i else b) b → g (l.foldl (fun b i => if g i < g b then i else b) b) < g i)
  | [], b, _, _ => ⟨.inl rfl, Int.le_refl _, fun h => absurd rfl h, fun _ h => nomatch h⟩
  | i :: l, b, hb, hp => by
    obtain ⟨hi, hl⟩ := List.pairwise_cons.mp hp
    have hbi := hb i (.head _)
    rw [List.foldl_cons]
    by_cases hc : g i < g b
    · rw [if_pos hc]
      obtain ⟨a1, a2, a3, a4⟩ := keep_min g l i hi hl
      revert a1 a2 a3 a4
      generalize l.foldl (fun b i => if g i < g b then i else b) i = x
      intro a1 a2 a3 a4
      refine ⟨?_, by omega, fun _ => by omega, fun j hj => ?_⟩
      · rcases a1 with rfl | a1
        · exact .inr (.head _)
        · exact .inr (.tail _ a1)
      · rcases List.mem_cons.mp hj with rfl | hj
        · exact ⟨a2, fun h => a3 (by omega)⟩
        · exact a4 j hj
    · rw [if_neg hc]
      obtain ⟨a1, a2, a3, a4⟩ := keep_min g l b (fun j hj => hb j (.tail _ hj)) hl
      revert a1 a2 a3 a4
      generalize l.foldl (fun b i => if g i < g b then i else b) b = x
      intro a1 a2 a3 a4
      refine ⟨?_, a2, a3, fun j hj => ?_⟩
      · rcases a1 with rfl | a1
        · exact .inl rfl
        · exact .inr (.tail _ a1)
      · rcases List.mem_cons.mp hj with rfl | hj
        · exact ⟨by omega, fun h => by have := a3 (by omega); omega⟩
        · exact a4 j hj
theorem dist_pal {k p1 p2 p3 : Int} (hk : k < 256) (h1 : 0 ≤ p1 ∧ p1 < 256) (h2 : 0 ≤ p2 ∧ p2 < 256) (h3 : 0 ≤ p3 ∧ p3 < 256) :
    dist (pal k) (p1 * 65536 + p2 * 256 + p3) = far3 (palR k) (palG k) (palB k) p1 p2 p3 := by
  unfold dist pal
  rw [pR_num (palR_in hk) (palG_in hk) (palB_in hk), pG_num (palG_in hk) (palB_in hk), pB_num (palB_in hk), pR_num h1 h2 h3, pG_num h2 h3, pB_num h3]
  unfold far3
  rw [Int.zero_add, Int.add_zero, Int.add_assoc]
theorem range_grays : rangeKs 232 24 = [232,233,234,235,236,237,238,239,240,241,242,243,244,245,246,247,248,249,250,251,252,253,254,255] := by decide
theorem gray_mem {k : Int} (h0 : 232 ≤ k) (h1 : k < 256) : k ∈ rangeKs 232 24 :=
  fin_int (P := fun k => 232 ≤ k → k ∈ rangeKs 232 24) 256 (by decide +kernel) (Int.le_trans (by decide) h0) h1 h0
theorem gray_all : ∀ k ∈ rangeKs 232 24, 232 ≤ k ∧ k < 256 := by decide
theorem gray_in {k : Int} (h : k ∈ rangeKs 232 24) : 232 ≤ k ∧ k < 256 := gray_all k h
theorem gray_inc : (rangeKs 232 24).Pairwise (· < ·) := by rw [range_grays]; decide
section
variable {p1 p2 p3 : Int} (h1 : 0 ≤ p1 ∧ p1 < 256) (h2 : 0 ≤ p2 ∧ p2 < 256) (h3 : 0 ≤ p3 ∧ p3 < 256)
include h1 h2 h3
theorem b0_num : b0 (p1 * 65536 + p2 * 256 + p3) = 16 + 36 * nl p1 + 6 * nl p2 + nl p3 := by
  unfold b0
  rw [pR_num h1 h2 h3, pG_num h2 h3, pB_num h3]
theorem b0_nat : ∃ a b c : Nat, a < 6 ∧ b < 6 ∧ c < 6 ∧ nl p1 = a ∧ nl p2 = b ∧ nl p3 = c ∧ b0 (p1 * 65536 + p2 * 256 + p3) = 16 + 36 * (a : Int) + 6 * b + c := by
  have key : ∀ p : Int, ∃ a : Nat, a < 6 ∧ nl p = a := fun p => ⟨(nl p).toNat, (Int.toNat_lt (nl_in p).1).mpr (Int.lt_of_le_of_lt (nl_in p).2 (by decide)), (Int.toNat_of_nonneg (nl_in p).1).symm⟩
  obtain ⟨a, ha, ea⟩ := key p1
  obtain ⟨b, hb, eb⟩ := key p2
  obtain ⟨c, hc, ec⟩ := key p3
  refine ⟨a, b, c, ha, hb, hc, ea, eb, ec, ?_⟩
  rw [b0_num h1 h2 h3, ea, eb, ec]
theorem b0_best {k : Nat} (k0 : 16 ≤ k) (k1 : k < 232) :
    far3 (palR (b0 (p1 * 65536 + p2 * 256 + p3))) (palG (b0 (p1 * 65536 + p2 * 256 + p3))) (palB (b0 (p1 * 65536 + p2 * 256 + p3))) p1 p2 p3 ≤ far3 (palR k) (palG k) (palB k) p1 p2 p3 ∧
    ((k : Int) < b0 (p1 * 65536 + p2 * 256 + p3) → far3 (palR (b0 (p1 * 65536 + p2 * 256 + p3))) (palG (b0 (p1 * 65536 + p2 * 256 + p3))) (palB (b0 (p1 * 65536 + p2 * 256 + p3))) p1 p2 p3 < far3 (palR k) (palG k) (palB k) p1 p2 p3) := by
  obtain ⟨a, b, c, ha, hb, hc, ea, eb, ec, e⟩ := b0_nat h1 h2 h3
  obtain ⟨hi, hj, hl, ek⟩ := cube_fin2 k k1 k0
  revert hi hj hl ek
  generalize (k - 16) / 36 = i
  generalize (k - 16) / 6 % 6 = j
  generalize (k - 16) % 6 = l
  intro hi hj hl ek
  rw [e, ek, (cube_fin a ha b hb c hc).1, (cube_fin a ha b hb c hc).2.1, (cube_fin a ha b hb c hc).2.2, (cube_fin i hi j hj l hl).1, (cube_fin i hi j hj l hl).2.1, (cube_fin i hi j hj l hl).2.2]
  have A := lev_best h1 hi
  have B := lev_best h2 hj
  have C := lev_best h3 hl
  rw [ea] at A
  rw [eb] at B
  rw [ec] at C
  unfold far3
  refine ⟨Int.add_le_add A.1 (Int.add_le_add B.1 (Int.add_le_add_right C.1 0)), fun hlt => ?_⟩
  by_cases hA : (i : Int) < a
  · exact Int.add_lt_add_of_lt_of_le (A.2 hA) (Int.add_le_add B.1 (Int.add_le_add_right C.1 0))
  · by_cases hB : (j : Int) < b
    · exact Int.add_lt_add_of_le_of_lt A.1 (Int.add_lt_add_of_lt_of_le (B.2 hB) (Int.add_le_add_right C.1 0))
    · exact Int.add_lt_add_of_le_of_lt A.1 (Int.add_lt_add_of_le_of_lt B.1 (Int.add_lt_add_right (C.2 (by omega)) 0))
theorem near_is : 16 ≤ nearest (p1 * 65536 + p2 * 256 + p3) ∧ nearest (p1 * 65536 + p2 * 256 + p3) < 256 ∧ ∀ k : Int, 16 ≤ k → k < 256 →
    ¬ (far3 (palR k) (palG k) (palB k) p1 p2 p3 < far3 (palR (nearest (p1 * 65536 + p2 * 256 + p3))) (palG (nearest (p1 * 65536 + p2 * 256 + p3))) (palB (nearest (p1 * 65536 + p2 * 256 + p3))) p1 p2 p3 ∨
      (far3 (palR k) (palG k) (palB k) p1 p2 p3 = far3 (palR (nearest (p1 * 65536 + p2 * 256 + p3))) (palG (nearest (p1 * 65536 + p2 * 256 + p3))) (palB (nearest (p1 * 65536 + p2 * 256 + p3))) p1 p2 p3 ∧ k < nearest (p1 * 65536 + p2 * 256 + p3))) := by
  obtain ⟨a, b, c, ha, hb, hc, _, _, _, e0⟩ := b0_nat h1 h2 h3
  have hy : 16 ≤ b0 (p1 * 65536 + p2 * 256 + p3) ∧ b0 (p1 * 65536 + p2 * 256 + p3) < 232 := by omega
  clear e0
  have hbb := fun (k : Nat) (k0 : 16 ≤ k) (k1 : k < 232) => b0_best h1 h2 h3 k0 k1
  obtain ⟨a1, a2, a3, a4⟩ := keep_min (fun k => dist (pal k) (p1 * 65536 + p2 * 256 + p3)) (rangeKs 232 24) (b0 (p1 * 65536 + p2 * 256 + p3)) (fun i hi => Int.lt_of_lt_of_le hy.2 (gray_in hi).1) gray_inc
  have e : (rangeKs 232 24).foldl (fun b i => if dist (pal i) (p1 * 65536 + p2 * 256 + p3) < dist (pal b) (p1 * 65536 + p2 * 256 + p3) then i else b) (b0 (p1 * 65536 + p2 * 256 + p3)) = nearest (p1 * 65536 + p2 * 256 + p3) := rfl
  rw [e] at a1 a2 a3 a4
  revert a1 a2 a3 a4
  generalize nearest (p1 * 65536 + p2 * 256 + p3) = x
  revert hy hbb
  generalize b0 (p1 * 65536 + p2 * 256 + p3) = y
  intro hy hbb a1 a2 a3 a4
  have hx : 16 ≤ x ∧ x < 256 := by
    rcases a1 with rfl | a1
    · exact ⟨hy.1, Int.lt_trans hy.2 (by decide)⟩
    · exact ⟨Int.le_trans (by decide) (gray_in a1).1, (gray_in a1).2⟩
  refine ⟨hx.1, hx.2, fun k k0 k1 hh => ?_⟩
  (try dsimp only at a2 a3 a4)
  rw [dist_pal hx.2 h1 h2 h3, dist_pal (Int.lt_trans hy.2 (by decide)) h1 h2 h3] at a2 a3
  by_cases hk : k < 232
  · have hn : k = (k.toNat : Int) := (Int.toNat_of_nonneg (Int.le_trans (by decide) k0)).symm
    obtain ⟨c1, c2⟩ := hbb k.toNat ((Int.le_toNat (Int.le_trans (by decide) k0)).mpr k0) ((Int.toNat_lt (Int.le_trans (by decide) k0)).mpr hk)
    rw [← hn] at c1 c2
    rcases hh with hh | ⟨hh, hl⟩
    · exact absurd (Int.le_trans a2 c1) (Int.not_le.mpr hh)
    · by_cases hxy : x = y
      · subst hxy; exact absurd hh (Int.ne_of_gt (c2 hl))
      · exact absurd (Int.lt_of_lt_of_le (a3 hxy) c1) (hh ▸ Int.lt_irrefl _)
  · obtain ⟨c1, c2⟩ := a4 k (gray_mem (Int.not_lt.mp hk) k1)
    rw [dist_pal hx.2 h1 h2 h3, dist_pal k1 h1 h2 h3] at c1 c2
    rcases hh with hh | ⟨hh, hl⟩
    · exact absurd c1 (Int.not_le.mpr hh)
    · exact absurd hh (Int.ne_of_gt (c2 hl))
end
theorem sq_nonneg' (a : Int) : 0 ≤ a * a := by
  rcases Int.le_total 0 a with h | h
  · exact Int.mul_nonneg h h
  · exact Int.mul_nonneg_of_nonpos_of_nonpos h h
theorem sq_zero {a : Int} (h : a * a = 0) : a = 0 := by
  rcases Int.mul_eq_zero.mp h with h | h <;> exact h
/-- the number of a colour, out of its parts -/
noncomputable def lvN (x : Int) : Int := if x = 0 then 0 else (x - 55) / 40
noncomputable def palN (r g b : Int) : Int := if r = g ∧ g = b ∧ (r - 8) % 10 = 0 then 232 + (r - 8) / 10 else 16 + 36 * lvN r + 6 * lvN g + lvN b
theorem palN_fin : ∀ n : Nat, n < 256 → 16 ≤ (n : Int) → palN (palR n) (palG n) (palB n) = n := by decide +kernel
theorem palN_is {n : Int} (n0 : 16 ≤ n) (n1 : n < 256) : palN (palR n) (palG n) (palB n) = n := fin_int (P := fun n => 16 ≤ n → palN (palR n) (palG n) (palB n) = n) 256 palN_fin (Int.le_trans (by decide) n0) n1 n0
theorem far_self (a b c : Int) : far3 a b c a b c = 0 := by
  unfold far3
  rw [Int.sub_self, Int.sub_self, Int.sub_self]
  decide
theorem far_zero {a b c x y z : Int} (h : far3 a b c x y z ≤ 0) : a = x ∧ b = y ∧ c = z := by
  unfold far3 at h
  have h1 := sq_nonneg' (a - x)
  have h2 := sq_nonneg' (b - y)
  have h3 := sq_nonneg' (c - z)
  rw [Int.add_zero] at h
  have e23 := Int.le_trans (Int.le_add_of_nonneg_left h1) h
  exact ⟨Int.sub_eq_zero.mp (sq_zero (Int.le_antisymm (Int.le_trans (Int.le_add_of_nonneg_right (Int.add_nonneg h2 h3)) h) h1)), Int.sub_eq_zero.mp (sq_zero (Int.le_antisymm (Int.le_trans (Int.le_add_of_nonneg_right h3) e23) h2)), Int.sub_eq_zero.mp (sq_zero (Int.le_antisymm (Int.le_trans (Int.le_add_of_nonneg_left h2) e23) h3))⟩
/-- a colour of the cube or of the grays leads back to its number -/
theorem near_pal {n : Int} (n0 : 16 ≤ n) (n1 : n < 256) : nearest (pal n) = n := by
  have h1 := palR_in n1
  have h2 := palG_in n1
  have h3 := palB_in n1
  obtain ⟨x0, x1, hx⟩ := near_is h1 h2 h3
  have e : palR n * 65536 + palG n * 256 + palB n = pal n := rfl
  rw [e] at x0 x1 hx
  have hn := hx n n0 n1
  rw [far_self] at hn
  obtain ⟨a, b, c⟩ := far_zero (Int.not_lt.mp fun h => hn (.inl h))
  rw [← palN_is x0 x1, a, b, c, palN_is n0 n1]
end Mine
end

section -- P2
open PySem PySem.Spec PySem.Calls PySem.W PyProof.Rows
set_option linter.unusedVariables false
set_option maxRecDepth 100000
set_option maxHeartbeats 8000000
namespace Mine
theorem hexC_fin : ∀ gr : Bool, ∀ d : Nat, d < 16 → lowC (hexC gr d) = some (hexC false d) ∧ hv (hexC gr d) = some (d : Int) ∧ hexC false d ≠ 47 := by decide +kernel
theorem hexC_all (gr : Bool) {d : Int} (h : 0 ≤ d ∧ d < 16) : lowC (hexC gr d) = some (hexC false d) ∧ hv (hexC gr d) = some d ∧ hexC false d ≠ 47 :=
  fin_int (P := fun d => lowC (hexC gr d) = some (hexC false d) ∧ hv (hexC gr d) = some d ∧ hexC false d ≠ 47) 16 (hexC_fin gr) h.1 h.2
theorem dig16 (c : Int) (k : Nat) : 0 ≤ c / 16 ^ k % 16 ∧ c / 16 ^ k % 16 < 16 := ⟨Int.emod_nonneg _ (by decide), Int.emod_lt_of_pos _ (by decide)⟩
theorem small_app (a b : List Int) : small (a ++ b) = small a ++ small b := List.filterMap_append ..
theorem small_hex (gr : Bool) (c : Int) : ∀ n, small (hexL gr c n) = hexL false c n
  | 0 => rfl
  | n + 1 => by
    have ih := small_hex gr c n
    unfold small at ih ⊢
    show List.filterMap lowC (hexC gr (c / 16 ^ n % 16) :: hexL gr c n) = hexC false (c / 16 ^ n % 16) :: hexL false c n
    rw [List.filterMap_cons_some (hexC_all gr (dig16 c n)).1, ih]
theorem hex_no47 (c : Int) : ∀ n, 47 ∉ hexL false c n
  | 0 => fun h => nomatch h
  | n + 1 => fun h => by
    rcases List.mem_cons.mp h with h | h
    · exact (hexC_all false (dig16 c n)).2.2 h.symm
    · exact hex_no47 c n h
noncomputable def fstep (a : Option Int) (c : Int) : Option Int := a.bind fun f => (hv c).map fun v => f * 16 + v
theorem fstep_hex (gr : Bool) (f : Int) {d : Int} (h : 0 ≤ d ∧ d < 16) : fstep (some f) (hexC gr d) = some (f * 16 + d) := by
  unfold fstep
  rw [(hexC_all gr h).2.1]
  rfl
theorem pow1 : (16 : Int) ^ 0 = 1 := by decide
theorem pow2 : (16 : Int) ^ 1 = 16 := by decide
theorem pow3 : (16 : Int) ^ 2 = 256 := by decide
theorem pow4 : (16 : Int) ^ 3 = 4096 := by decide
theorem emod_step (c : Int) (n : Nat) : c % 16 ^ (n + 1) = c / 16 ^ n % 16 * 16 ^ n + c % 16 ^ n := by
  have hq : (16 : Int) ^ n ≠ 0 := Int.ne_of_gt (Int.pow_pos (by decide))
  have e1 : c / 16 ^ (n + 1) = c / 16 ^ n / 16 := by rw [Int.pow_succ, Int.ediv_ediv_of_nonneg (Int.le_of_lt (Int.pow_pos (by decide)))]
  have h1 := Int.emod_add_mul_ediv c (16 ^ (n + 1))
  have h2 := Int.emod_add_mul_ediv c (16 ^ n)
  have h3 := Int.emod_add_mul_ediv (c / 16 ^ n) 16
  rw [e1, Int.pow_succ] at h1
  rw [Int.pow_succ]
  generalize (16 : Int) ^ n = q at *
  generalize c / q = x at *
  generalize c % q = r at *
  generalize c % (q * 16) = z at *
  generalize x / 16 = y at *
  generalize x % 16 = d at *
  subst h3
  have : q * (d + 16 * y) = d * q + q * 16 * y := by rw [Int.mul_add, Int.mul_comm q d, Int.mul_assoc q 16 y]
  omega
theorem fold_hex (gr : Bool) : ∀ (n : Nat) (f c : Int), (hexL gr c n).foldl fstep (some f) = some (f * 16 ^ n + c % 16 ^ n)
  | 0, f, c => by
    show some f = _
    rw [pow1, Int.mul_one, Int.emod_one, Int.add_zero]
  | n + 1, f, c => by
    show List.foldl fstep (fstep (some f) (hexC gr (c / 16 ^ n % 16))) (hexL gr c n) = _
    rw [fstep_hex gr f (dig16 c n), fold_hex gr n, emod_step, Int.pow_succ]
    congr 1
    rw [Int.add_mul, Int.mul_assoc, Int.mul_comm 16, Int.add_assoc]
theorem figGo_fold (l : List Int) : figGo l = l.foldl fstep (some 0) := rfl
theorem fig_hex {c : Int} {n : Nat} (h1 : 1 ≤ n) (h4 : n ≤ 4) (h0 : 0 ≤ c) (hc : c < 16 ^ n) : figures (hexL false c n) = some c := by
  unfold figures
  rw [if_pos (by rw [hexL_len]; exact ⟨h1, h4⟩), figGo_fold, fold_hex false n 0 c, Int.zero_mul, Int.zero_add, Int.emod_eq_of_lt h0 hc]
-- the parts between the slashes
theorem splGo_free : ∀ (l : List Int) (acc : List (List Int) × List Int), 47 ∉ l → l.foldl splGo acc = (acc.1, acc.2 ++ l)
  | [], acc, _ => by simp
  | c :: l, acc, h => by
    have hc : ¬ c = 47 := fun e => h (e ▸ .head _)
    rw [List.foldl_cons]
    unfold splGo
    rw [if_neg hc]
    have := splGo_free l (acc.1, acc.2 ++ [c]) (fun hm => h (.tail _ hm))
    unfold splGo at this
    rw [this]
    simp
theorem splGo_sep (acc : List (List Int) × List Int) : [47].foldl splGo acc = (acc.1 ++ [acc.2], []) := by
  show splGo acc 47 = _
  unfold splGo
  rw [if_pos rfl]
theorem spl3 {a b c : List Int} (ha : 47 ∉ a) (hb : 47 ∉ b) (hc : 47 ∉ c) : spl (a ++ [47] ++ b ++ [47] ++ c) = [a, b, c] := by
  unfold spl
  rw [List.foldl_append, List.foldl_append, List.foldl_append, List.foldl_append, splGo_free a _ ha, splGo_sep, splGo_free b _ hb, splGo_sep, splGo_free c _ hc]
  simp
theorem spl4 {a b c d : List Int} (ha : 47 ∉ a) (hb : 47 ∉ b) (hc : 47 ∉ c) (hd : 47 ∉ d) : spl (a ++ [47] ++ b ++ [47] ++ c ++ [47] ++ d) = [a, b, c, d] := by
  unfold spl
  rw [List.foldl_append, List.foldl_append, List.foldl_append, List.foldl_append, List.foldl_append, List.foldl_append, splGo_free a _ ha, splGo_sep, splGo_free b _ hb, splGo_sep, splGo_free c _ hc, splGo_sep, splGo_free d _ hd]
  simp
-- what no figures are
theorem fig_last {l : List Int} {x : Int} (h : hv x = none) : figures (l ++ [x]) = none := by
  unfold figures
  split
  · rw [figGo_snoc, h]
    cases figGo l <;> rfl
  · rfl
theorem fig_first {l : List Int} {x : Int} (h : hv x = none) : figures (x :: l) = none := by
  unfold figures
  split
  · rw [figGo_fold, List.foldl_cons]
    have : fstep (some 0) x = none := by unfold fstep; rw [h]; rfl
    rw [this]
    exact fold_none l
  · rfl
theorem digs_cases (l : List Int) : digitsV l = none ∨ ∃ n, 1 ≤ n ∧ n ≤ 4 ∧ l.length = 3 * n := by
  by_cases hl : l.length = 3 ∨ l.length = 6 ∨ l.length = 9 ∨ l.length = 12
  · rcases hl with h | h | h | h
    · exact .inr ⟨1, by decide, by decide, h⟩
    · exact .inr ⟨2, by decide, by decide, h⟩
    · exact .inr ⟨3, by decide, by decide, h⟩
    · exact .inr ⟨4, by decide, by decide, h⟩
  · exact .inl (digs_out hl)
theorem digs_first {l : List Int} {x : Int} (h : hv x = none) : digitsV (x :: l) = none := by
  rcases digs_cases (x :: l) with e | ⟨n, h1, h4, e⟩
  · exact e
  · refine digs_none1 n e h1 h4 ?_
    cases n with
    | zero => exact absurd h1 (by decide)
    | succ n =>
      rw [List.drop_zero, List.take_succ_cons]
      exact fig_first h
theorem digs_last {l : List Int} {x : Int} (h : hv x = none) : digitsV (l ++ [x]) = none := by
  rcases digs_cases (l ++ [x]) with e | ⟨n, h1, h4, e⟩
  · exact e
  · refine digs_none3 n e h1 h4 ?_
    have hl' : l.length + 1 = 3 * n := by rw [← e, List.length_append, List.length_singleton]
    have hk : 2 * n ≤ l.length ∧ l.length - 2 * n + 1 ≤ n := by omega
    rw [List.drop_append_of_le_length hk.1, List.take_of_length_le (by rw [List.length_append, List.length_drop, List.length_singleton]; exact hk.2)]
    exact fig_last h
-- what the octets of the law are
noncomputable def FigP (n : Nat) (e : List Int) (v : Int) : Prop := e.length = n ∧ 1 ≤ n ∧ n ≤ 4 ∧ figures e = some v ∧ 47 ∉ e
noncomputable def ToldR (t : List Int) (d1 d2 d3 : Int) : Prop := ∃ n e1 e2 e3 v1 v2 v3, FigP n e1 v1 ∧ FigP n e2 v2 ∧ FigP n e3 v3 ∧ t = [114, 103, 98, 58] ++ (e1 ++ [47] ++ e2 ++ [47] ++ e3) ∧ d1 = partV e1 v1 ∧ d2 = partV e2 v2 ∧ d3 = partV e3 v3
noncomputable def ToldD (t : List Int) (d1 d2 d3 : Int) : Prop := ∃ n e1 e2 e3 v1 v2 v3, FigP n e1 v1 ∧ FigP n e2 v2 ∧ FigP n e3 v3 ∧ t = [35] ++ (e1 ++ e2 ++ e3) ∧ d1 = digV n v1 ∧ d2 = digV n v2 ∧ d3 = digV n v3
noncomputable def ToldIs (l : List Int) (d1 d2 d3 : Int) : Prop := (small l).length = l.length ∧ l.length ≤ 18 ∧ (l.take 1 = [35] ∧ ToldD (small l) d1 d2 d3 ∨ l.take 1 ≠ [35] ∧ ToldR (small l) d1 d2 d3)
theorem octT_rgb (x : List Int) : octT ([114, 103, 98, 58] ++ x) = match spl x with | [a, b, c] => partsV a b c | _ => none := by
  unfold octT
  rw [if_pos (by rfl)]
  rfl
theorem octT_dig (x : List Int) : octT ([35] ++ x) = digitsV x := by
  unfold octT
  rw [if_neg (by show ¬ (List.take 4 (35 :: x) = _); intro h; injection h with h1 _; exact absurd h1 (by decide)), if_pos (by rfl)]
  rfl
theorem num3 (a b c : Int) : ((0 * 256 + a) * 256 + b) * 256 + c = a * 65536 + b * 256 + c := by rw [num_eq, Int.zero_mul, Int.zero_add]
theorem toldR_is {t : List Int} {d1 d2 d3 : Int} (h : ToldR t d1 d2 d3) : octT t = some (d1 * 65536 + d2 * 256 + d3) := by
  obtain ⟨n, e1, e2, e3, v1, v2, v3, ⟨_, _, _, f1, g1⟩, ⟨_, _, _, f2, g2⟩, ⟨_, _, _, f3, g3⟩, rfl, rfl, rfl, rfl⟩ := h
  rw [octT_rgb, spl3 g1 g2 g3]
  show partsV e1 e2 e3 = _
  rw [parts_some f1 f2 f3, num3]
theorem toldD_is {t : List Int} {d1 d2 d3 : Int} (h : ToldD t d1 d2 d3) : octT t = some (d1 * 65536 + d2 * 256 + d3) := by
  obtain ⟨n, e1, e2, e3, v1, v2, v3, ⟨l1, hn1, hn4, f1, g1⟩, ⟨l2, _, _, f2, g2⟩, ⟨l3, _, _, f3, g3⟩, rfl, rfl, rfl, rfl⟩ := h
  rw [octT_dig]
  have a1 : List.take n (List.drop 0 (e1 ++ e2 ++ e3)) = e1 := by
    rw [List.drop_zero, List.append_assoc, ← l1, List.take_left']; rfl
  have a2 : List.take n (List.drop n (e1 ++ e2 ++ e3)) = e2 := by
    rw [List.append_assoc, List.drop_left' l1, List.take_left' l2]
  have a3 : List.take n (List.drop (2 * n) (e1 ++ e2 ++ e3)) = e3 := by
    rw [List.drop_left' (by rw [List.length_append, l1, l2, Nat.two_mul]), List.take_of_length_le (Nat.le_of_eq l3)]
  rw [digs_some (x := v1) (y := v2) (z := v3) n (by rw [List.length_append, List.length_append, l1, l2, l3, Nat.succ_mul 2 n, Nat.two_mul]) hn1 hn4 (by rw [a1]; exact f1) (by rw [a2]; exact f2) (by rw [a3]; exact f3), num3]
theorem told_is {l : List Int} {d1 d2 d3 : Int} (h : ToldIs l d1 d2 d3) : octV l = some (d1 * 65536 + d2 * 256 + d3) := by
  obtain ⟨_, _, ⟨_, h⟩ | ⟨_, h⟩⟩ := h
  · exact toldD_is h
  · exact toldR_is h
theorem ok_R {t : List Int} {d1 d2 d3 : Int} (h : ToldR t d1 d2 d3) (x : List Int) : ∃ y, t ++ x = [114, 103, 98, 58] ++ y := by
  obtain ⟨n, e1, e2, e3, v1, v2, v3, _, _, _, rfl, _⟩ := h
  exact ⟨_, List.append_assoc _ _ _⟩
theorem oct_ok_r {l y : List Int} (h : small l = [114, 103, 98, 58] ++ y) : octOk l := by
  refine .inl ?_
  rw [h]
  rfl
theorem oct_ok_d {l y : List Int} (h : small l = [35] ++ y) : octOk l := by
  refine .inr (.inl ?_)
  rw [h]
  rfl
theorem told_ok {l : List Int} {d1 d2 d3 : Int} (h : ToldIs l d1 d2 d3) : octOk l := by
  obtain ⟨_, _, ⟨_, h⟩ | ⟨_, h⟩⟩ := h
  · obtain ⟨n, e1, e2, e3, v1, v2, v3, _, _, _, e, _⟩ := h
    exact oct_ok_d e
  · obtain ⟨n, e1, e2, e3, v1, v2, v3, _, _, _, e, _⟩ := h
    exact oct_ok_r e
/-- the last sign cut -/
theorem small_last {l : List Int} (h : (small l).length = l.length) : small l.dropLast = (small l).dropLast := by
  by_cases hne : l = []
  · subst hne; rfl
  · have e : l = l.dropLast ++ [l.getLast hne] := (List.dropLast_concat_getLast hne).symm
    have hl : l.dropLast.length = l.length - 1 := List.length_dropLast
    have hp : 0 < l.length := List.length_pos_iff.mpr hne
    have e2 : small l = small l.dropLast ++ small [l.getLast hne] := by
      rw [← small_app, ← e]
    have h2 := small_len l.dropLast
    cases hx : lowC (l.getLast hne) with
    | none =>
      have e3 : small [l.getLast hne] = [] := by unfold small; rw [List.filterMap_cons_none hx]; rfl
      rw [e3, List.append_nil] at e2
      rw [e2] at h
      omega
    | some c =>
      have e3 : small [l.getLast hne] = [c] := by unfold small; rw [List.filterMap_cons_some hx]; rfl
      rw [e3] at e2
      rw [e2, List.dropLast_concat]
theorem hv_g : hv 103 = none := by decide
theorem hv_r : hv 114 = none := by decide
theorem hv_sharp : hv 35 = none := by decide
/-- octets bent: none is a colour -/
theorem ne_nil_of {e : List Int} {n : Nat} (l : e.length = n) (h : 1 ≤ n) : e ≠ [] := fun q => by subst q; subst l; exact absurd h (by decide)
theorem bent_g {l : List Int} {d1 d2 d3 : Int} (h : ToldIs l d1 d2 d3) : octV (l.dropLast ++ [103]) = none ∧ octOk (l.dropLast ++ [103]) := by
  obtain ⟨hl, _, h⟩ := h
  have e : small (l.dropLast ++ [103]) = (small l).dropLast ++ [103] := by
    rw [small_app, small_last hl]; rfl
  rcases h with ⟨_, h⟩ | ⟨_, h⟩
  · obtain ⟨n, e1, e2, e3, v1, v2, v3, p1, p2, ⟨l3, hn1, _, _, _⟩, es, _⟩ := h
    have h3 : e3 ≠ [] := ne_nil_of l3 hn1
    have es' : (small l).dropLast ++ [103] = [35] ++ (e1 ++ e2 ++ e3.dropLast ++ [103]) := by
      rw [es, List.dropLast_append_of_ne_nil (by simp [h3]), List.dropLast_append_of_ne_nil h3]
      simp
    refine ⟨?_, oct_ok_d (e.trans es')⟩
    unfold octV
    rw [e, es', octT_dig]
    exact digs_last hv_g
  · obtain ⟨n, e1, e2, e3, v1, v2, v3, ⟨_, _, _, _, g1⟩, ⟨_, _, _, _, g2⟩, ⟨l3, hn1, _, _, g3⟩, es, _⟩ := h
    have h3 : e3 ≠ [] := ne_nil_of l3 hn1
    have es' : (small l).dropLast ++ [103] = [114, 103, 98, 58] ++ (e1 ++ [47] ++ e2 ++ [47] ++ (e3.dropLast ++ [103])) := by
      rw [es, List.dropLast_append_of_ne_nil (by simp), List.dropLast_append_of_ne_nil h3]
      simp
    refine ⟨?_, oct_ok_r (e.trans es')⟩
    unfold octV
    rw [e, es', octT_rgb, spl3 g1 g2 (fun hm => by
      rcases List.mem_append.mp hm with hm | hm
      · exact g3 (List.dropLast_subset _ hm)
      · exact absurd (List.mem_singleton.mp hm) (by decide))]
    exact parts_none3 (fig_last hv_g)
theorem bent_1 {l : List Int} {d1 d2 d3 : Int} (h : ToldIs l d1 d2 d3) : octV (l ++ [47, 49]) = none ∧ octOk (l ++ [47, 49]) := by
  obtain ⟨hl, _, h⟩ := h
  have e : small (l ++ [47, 49]) = small l ++ [47, 49] := by rw [small_app]; rfl
  rcases h with ⟨_, h⟩ | ⟨_, h⟩
  · obtain ⟨n, e1, e2, e3, v1, v2, v3, ⟨l1, _, _, _, _⟩, ⟨l2, _, _, _, _⟩, ⟨l3, hn1, hn4, _, _⟩, es, _⟩ := h
    have es' : small l ++ [47, 49] = [35] ++ (e1 ++ e2 ++ e3 ++ [47, 49]) := by rw [es]; simp
    refine ⟨?_, oct_ok_d (e.trans es')⟩
    unfold octV
    rw [e, es', octT_dig]
    refine digs_out ?_
    simp only [List.length_append, List.length_cons, List.length_nil, l1, l2, l3]
    rcases fewN hn1 hn4 with rfl | rfl | rfl | rfl <;> decide
  · obtain ⟨n, e1, e2, e3, v1, v2, v3, ⟨_, _, _, _, g1⟩, ⟨_, _, _, _, g2⟩, ⟨l3, hn1, _, _, g3⟩, es, _⟩ := h
    have es' : small l ++ [47, 49] = [114, 103, 98, 58] ++ (e1 ++ [47] ++ e2 ++ [47] ++ e3 ++ [47] ++ [49]) := by rw [es]; simp
    refine ⟨?_, oct_ok_r (e.trans es')⟩
    unfold octV
    rw [e, es', octT_rgb, spl4 g1 g2 g3 (by decide)]
theorem bent_s {l : List Int} {d1 d2 d3 : Int} (h : ToldIs l d1 d2 d3) : octV ([35] ++ l) = none ∧ octOk ([35] ++ l) := by
  obtain ⟨hl, _, h⟩ := h
  have e : small ([35] ++ l) = [35] ++ small l := by rw [small_app]; rfl
  refine ⟨?_, oct_ok_d e⟩
  unfold octV
  rw [e, octT_dig]
  rcases h with ⟨_, h⟩ | ⟨_, h⟩
  · obtain ⟨n, e1, e2, e3, v1, v2, v3, ⟨l1, _, _, _, _⟩, ⟨l2, _, _, _, _⟩, ⟨l3, hn1, hn4, _, _⟩, es, _⟩ := h
    rw [es]
    exact digs_first hv_sharp
  · obtain ⟨n, e1, e2, e3, v1, v2, v3, _, _, _, es, _⟩ := h
    rw [es]
    exact digs_first hv_r
theorem none_0 : octV [] = none ∧ octOk [] := ⟨by decide, .inr (.inr rfl)⟩
theorem none_1 : octV [35] = none ∧ octOk [35] := ⟨by decide, .inr (.inl rfl)⟩
theorem none_2 : octV [35, 49, 50] = none ∧ octOk [35, 49, 50] := ⟨by decide, .inr (.inl rfl)⟩
theorem none_3 : octV [35, 49, 50, 51, 52, 53] = none ∧ octOk [35, 49, 50, 51, 52, 53] := ⟨by decide, .inr (.inl rfl)⟩
theorem none_4 : octV [114, 103, 98, 58, 49, 47, 50, 47, 49, 50, 51, 52, 53] = none ∧ octOk [114, 103, 98, 58, 49, 47, 50, 47, 49, 50, 51, 52, 53] := ⟨by decide, .inl rfl⟩
theorem none_5 : octV [114, 103, 98, 58, 49, 47, 47, 50] = none ∧ octOk [114, 103, 98, 58, 49, 47, 47, 50] := ⟨by decide, .inl rfl⟩
theorem none_6 : octV [114, 103, 98, 58] = none ∧ octOk [114, 103, 98, 58] := ⟨by decide, .inl rfl⟩
theorem none_7 : octV [114, 103, 98, 58, 49, 47, 50] = none ∧ octOk [114, 103, 98, 58, 49, 47, 50] := ⟨by decide, .inl rfl⟩
end Mine
end

section -- P3
open PySem PySem.Spec PySem.Calls PySem.W PyProof.Rows
set_option linter.unusedVariables false
set_option maxRecDepth 100000
set_option maxHeartbeats 8000000
namespace Mine
noncomputable def preL (gr : Bool) : List Int := if gr then [82, 71, 66, 58] else [114, 103, 98, 58]
theorem partV_open (l : List Int) (f : Int) : partV l f = f * 65535 / (16 ^ l.length - 1) / 256 := by
  unfold partV midV
  rw [show (2 : Int) ^ Int.toNat 8 = 256 by decide]
  exact fdiv_pos _ (by decide)
theorem figP_hex {c : Int} {n : Nat} (h1 : 1 ≤ n) (h4 : n ≤ 4) (h0 : 0 ≤ c) (hc : c < 16 ^ n) : FigP n (hexL false c n) c :=
  ⟨hexL_len _ _ _, h1, h4, fig_hex h1 h4 h0 hc, hex_no47 _ _⟩
theorem nf_fin : ∀ n : Nat, n < 256 →
    (0 ≤ (n : Int) / 17 * 17 / 17 ∧ (n : Int) / 17 * 17 / 17 < 16 ^ 1 ∧ (n : Int) / 17 * 17 = (n : Int) / 17 * 17 / 17 * 65535 / (16 ^ 1 - 1) / 256) ∧
    (0 ≤ (n : Int) / 17 * 17 ∧ (n : Int) / 17 * 17 < 16 ^ 2 ∧ (n : Int) / 17 * 17 = (n : Int) / 17 * 17 * 65535 / (16 ^ 2 - 1) / 256) ∧
    (0 ≤ (n : Int) / 17 * 17 / 17 * 273 ∧ (n : Int) / 17 * 17 / 17 * 273 < 16 ^ 3 ∧ (n : Int) / 17 * 17 = (n : Int) / 17 * 17 / 17 * 273 * 65535 / (16 ^ 3 - 1) / 256) ∧
    (0 ≤ (n : Int) / 17 * 17 * 257 ∧ (n : Int) / 17 * 17 * 257 < 16 ^ 4 ∧ (n : Int) / 17 * 17 = (n : Int) / 17 * 17 * 257 * 65535 / (16 ^ 4 - 1) / 256) := by decide +kernel
/-- the number that is told of a share is read back -/
theorem nF_part {d k : Int} (h0 : 0 ≤ k) (h3 : k < 4) (hd : ∃ p, d = p / 17 * 17 ∧ 0 ≤ p ∧ p < 256) :
    0 ≤ nF k (d / 17) d (d / 17 * 273) (d * 257) ∧ nF k (d / 17) d (d / 17 * 273) (d * 257) < 16 ^ (1 + k).toNat ∧ d = partV (hexL false (nF k (d / 17) d (d / 17 * 273) (d * 257)) (1 + k).toNat) (nF k (d / 17) d (d / 17 * 273) (d * 257)) := by
  obtain ⟨p, rfl, p0, p1⟩ := hd
  have hf := nf_fin p.toNat ((Int.toNat_lt p0).mpr p1)
  rw [Int.toNat_of_nonneg p0] at hf
  rw [partV_open, hexL_len]
  rcases fewI h0 h3 with rfl | rfl | rfl | rfl
  · exact hf.1
  · exact hf.2.1
  · exact hf.2.2.1
  · exact hf.2.2.2
theorem small_pre (gr : Bool) : small (preL gr) = [114, 103, 98, 58] := by cases gr <;> decide
theorem pre_len (gr : Bool) : (preL gr).length = 4 := by cases gr <;> rfl
theorem pre_take (gr : Bool) (x : List Int) : (preL gr ++ x).take 1 ≠ [35] := by
  cases gr
  · show (114 :: _ : List Int).take 1 ≠ _
    intro h; injection h with h1 _; exact absurd h1 (by decide)
  · show (82 :: _ : List Int).take 1 ≠ _
    intro h; injection h with h1 _; exact absurd h1 (by decide)
theorem small_47 : small [47] = [47] := by decide
theorem told_rgb {gr : Bool} {k p1 p2 p3 f1 f2 f3 : Int} (h0 : 0 ≤ k) (h3 : k < 4) (hp1 : 0 ≤ p1 ∧ p1 < 256) (hp2 : 0 ≤ p2 ∧ p2 < 256) (hp3 : 0 ≤ p3 ∧ p3 < 256) (e1 : f1 = p1 / 17 * 17) (e2 : f2 = p2 / 17 * 17) (e3 : f3 = p3 / 17 * 17) :
    ToldIs (preL gr ++ (hexL gr (nF k (f1 / 17) f1 (f1 / 17 * 273) (f1 * 257)) (1 + k).toNat ++ [47] ++ hexL gr (nF k (f2 / 17) f2 (f2 / 17 * 273) (f2 * 257)) (1 + k).toNat ++ [47] ++ hexL gr (nF k (f3 / 17) f3 (f3 / 17 * 273) (f3 * 257)) (1 + k).toNat)) f1 f2 f3 := by
  have hq : 1 ≤ (1 + k).toNat ∧ (1 + k).toNat ≤ 4 := by rcases fewI h0 h3 with rfl | rfl | rfl | rfl <;> decide
  obtain ⟨a0, a1, a2⟩ := nF_part h0 h3 ⟨p1, e1, hp1⟩
  obtain ⟨b0, b1, b2⟩ := nF_part h0 h3 ⟨p2, e2, hp2⟩
  obtain ⟨c0, c1, c2⟩ := nF_part h0 h3 ⟨p3, e3, hp3⟩
  refine ⟨?_, ?_, .inr ⟨pre_take _ _, ?_⟩⟩
  · simp only [small_app, small_pre, small_hex, small_47, List.length_append, pre_len, hexL_len, List.length_cons, List.length_nil]
  · simp only [List.length_append, pre_len, hexL_len, List.length_cons, List.length_nil]
    exact Nat.le_trans (Nat.add_le_add_left (Nat.add_le_add (Nat.add_le_add_right (Nat.add_le_add (Nat.add_le_add_right hq.2 _) hq.2) _) hq.2) _) (by decide)
  · refine ⟨(1 + k).toNat, _, _, _, _, _, _, figP_hex hq.1 hq.2 a0 a1, figP_hex hq.1 hq.2 b0 b1, figP_hex hq.1 hq.2 c0 c1, ?_, a2, b2, c2⟩
    simp only [small_app, small_pre, small_hex, small_47]
-- behind #
theorem digV_open (n : Nat) (x : Int) (h1 : 1 ≤ n) (h4 : n ≤ 4) : digV n x = x * 2 ^ (16 - 4 * n) / 256 := by
  unfold digV
  rw [show (2 : Int) ^ Int.toNat 8 = 256 by decide, show (16 - 4 * (n : Int)).toNat = 16 - 4 * n by rcases fewN h1 h4 with rfl | rfl | rfl | rfl <;> decide]
  exact fdiv_pos _ (by decide)
theorem told_sharp {gr : Bool} {n : Nat} {l1 l2 l3 e1 e2 e3 : List Int} {v1 v2 v3 d1 d2 d3 : Int} (s1 : small l1 = e1) (s2 : small l2 = e2) (s3 : small l3 = e3) (z1 : l1.length = n) (z2 : l2.length = n) (z3 : l3.length = n) (f1 : FigP n e1 v1) (f2 : FigP n e2 v2) (f3 : FigP n e3 v3) (g1 : d1 = digV n v1) (g2 : d2 = digV n v2) (g3 : d3 = digV n v3) :
    ToldIs ([35] ++ (l1 ++ l2 ++ l3)) d1 d2 d3 := by
  have hn := f1.2.2.1
  refine ⟨?_, ?_, .inl ⟨rfl, n, e1, e2, e3, v1, v2, v3, f1, f2, f3, ?_, g1, g2, g3⟩⟩
  · rw [small_app, small_app, small_app, s1, s2, s3]
    simp only [List.length_append, f1.1, f2.1, f3.1, z1, z2, z3]
    rfl
  · simp only [List.length_append, z1, z2, z3, List.length_cons, List.length_nil]
    exact Nat.le_trans (Nat.add_le_add_left (Nat.add_le_add (Nat.add_le_add hn hn) hn) _) (by decide)
  · rw [small_app, small_app, small_app, s1, s2, s3]; rfl
theorem t1_fin : ∀ n : Nat, n < 256 → 0 ≤ (n : Int) / 16 ∧ (n : Int) / 16 < 16 ^ 1 ∧ (n : Int) / 16 * 16 = digV 1 ((n : Int) / 16) := by decide +kernel
theorem told_1 {gr : Bool} {p1 p2 p3 : Int} (hp1 : 0 ≤ p1 ∧ p1 < 256) (hp2 : 0 ≤ p2 ∧ p2 < 256) (hp3 : 0 ≤ p3 ∧ p3 < 256) :
    ToldIs ([35] ++ (hexL gr (p1 / 16) 1 ++ hexL gr (p2 / 16) 1 ++ hexL gr (p3 / 16) 1)) (p1 / 16 * 16) (p2 / 16 * 16) (p3 / 16 * 16) := by
  have key : ∀ p : Int, 0 ≤ p ∧ p < 256 → FigP 1 (hexL false (p / 16) 1) (p / 16) ∧ p / 16 * 16 = digV 1 (p / 16) := fun p hp => by
    have h := fin_int (P := fun p => 0 ≤ p / 16 ∧ p / 16 < 16 ^ 1 ∧ p / 16 * 16 = digV 1 (p / 16)) 256 t1_fin hp.1 hp.2
    exact ⟨figP_hex (by decide) (by decide) h.1 h.2.1, h.2.2⟩
  exact told_sharp (gr := gr) (small_hex _ _ _) (small_hex _ _ _) (small_hex _ _ _) (hexL_len _ _ _) (hexL_len _ _ _) (hexL_len _ _ _) (key p1 hp1).1 (key p2 hp2).1 (key p3 hp3).1 (key p1 hp1).2 (key p2 hp2).2 (key p3 hp3).2
noncomputable def restL (gr : Bool) : List Int := if gr then [48, 65] else [102, 48]
theorem fold_app (l r : List Int) : figGo (l ++ r) = r.foldl fstep (figGo l) := by rw [figGo_fold, List.foldl_append]; rfl
theorem rest_fin : ∀ gr : Bool, ∀ m : Nat, m < 3 → (small ((restL gr).take m)).length = m ∧ ((restL gr).take m).length = m ∧ 47 ∉ small ((restL gr).take m) := by decide
theorem rest_val : ∀ gr : Bool, ∀ m : Nat, m < 3 → ∀ p : Nat, p < 256 → ((small ((restL gr).take m)).foldl fstep (some (p : Int))).map (digV (2 + m)) = some (p : Int) := by decide +kernel
theorem rest_k : ∀ n : Nat, n < 4 → 1 ≤ (n : Int) → (1 + (n : Int)).toNat = 2 + ((n : Int) - 1).toNat ∧ ((n : Int) - 1).toNat < 3 := by decide
theorem rest_part (gr : Bool) {k p : Int} (h1 : 1 ≤ k) (h3 : k < 4) (hp : 0 ≤ p ∧ p < 256) :
    small (hexL gr p 2 ++ (restL gr).take (k - 1).toNat) = hexL false p 2 ++ small ((restL gr).take (k - 1).toNat) ∧ (hexL gr p 2 ++ (restL gr).take (k - 1).toNat).length = (1 + k).toNat ∧
    ∃ v, FigP (1 + k).toNat (hexL false p 2 ++ small ((restL gr).take (k - 1).toNat)) v ∧ p = digV (1 + k).toNat v := by
  obtain ⟨e, hm⟩ := fin_int (P := fun k => 1 ≤ k → (1 + k).toNat = 2 + (k - 1).toNat ∧ (k - 1).toNat < 3) 4 rest_k (Int.le_trans (by decide) h1) h3 h1
  rw [e]
  revert hm
  generalize (k - 1).toNat = m
  intro hm
  obtain ⟨l1, l2, n47⟩ := rest_fin gr m hm
  obtain ⟨v, hv1, hv2⟩ := Option.map_eq_some_iff.mp (fin_int (P := fun p => ((small ((restL gr).take m)).foldl fstep (some p)).map (digV (2 + m)) = some p) 256 (rest_val gr m hm) hp.1 hp.2)
  have hl : (hexL false p 2 ++ small ((restL gr).take m)).length = 2 + m := by rw [List.length_append, hexL_len, l1]
  have h4 : 2 + m ≤ 4 := Nat.add_le_add_left (Nat.le_of_lt_succ hm) 2
  have h2 : 1 ≤ 2 + m := Nat.le_trans (by decide) (Nat.le_add_right 2 m)
  refine ⟨by rw [small_app, small_hex], by rw [List.length_append, hexL_len, l2], v, ⟨hl, h2, h4, ?_, fun hm => ?_⟩, hv2.symm⟩
  · have hg := fig_hex (n := 2) (by decide) (by decide) hp.1 (Int.lt_of_lt_of_le hp.2 (by decide))
    unfold figures at hg ⊢
    rw [if_pos (by rw [hexL_len]; decide)] at hg
    rw [if_pos (by rw [hl]; exact ⟨h2, h4⟩), fold_app, hg, hv1]
  · rcases List.mem_append.mp hm with hm | hm
    · exact hex_no47 _ _ hm
    · exact n47 hm
theorem told_2 {gr : Bool} {k p1 p2 p3 : Int} (h1 : 1 ≤ k) (h3 : k < 4) (hp1 : 0 ≤ p1 ∧ p1 < 256) (hp2 : 0 ≤ p2 ∧ p2 < 256) (hp3 : 0 ≤ p3 ∧ p3 < 256) :
    ToldIs ([35] ++ ((hexL gr p1 2 ++ (restL gr).take (k - 1).toNat) ++ (hexL gr p2 2 ++ (restL gr).take (k - 1).toNat) ++ (hexL gr p3 2 ++ (restL gr).take (k - 1).toNat))) p1 p2 p3 := by
  obtain ⟨a1, a2, v1, a3, a4⟩ := rest_part gr h1 h3 hp1
  obtain ⟨b1, b2, v2, b3, b4⟩ := rest_part gr h1 h3 hp2
  obtain ⟨c1, c2, v3, c3, c4⟩ := rest_part gr h1 h3 hp3
  exact told_sharp (gr := gr) a1 b1 c1 a2 b2 c2 a3 b3 c3 a4 b4 c4
-- what colour_octets writes
theorem octetsL_len (p1 p2 p3 : Int) : (octetsL p1 p2 p3).length = 18 := rfl
theorem oct1_fin : ∀ n : Nat, n < 256 → oct1 (n : Int) = hexL false ((n : Int) * 257) 4 := by decide +kernel
theorem oct1_is {p : Int} (hp : 0 ≤ p ∧ p < 256) : oct1 p = hexL false (p * 257) 4 := by
  have h := oct1_fin p.toNat ((Int.toNat_lt hp.1).mpr hp.2)
  rw [Int.toNat_of_nonneg hp.1] at h
  exact h
theorem back_fin : ∀ n : Nat, n < 256 → 0 ≤ (n : Int) * 257 ∧ (n : Int) * 257 < 16 ^ 4 ∧ (n : Int) = (n : Int) * 257 * 65535 / (16 ^ 4 - 1) / 256 := by decide +kernel
section
variable {p1 p2 p3 : Int} (hp1 : 0 ≤ p1 ∧ p1 < 256) (hp2 : 0 ≤ p2 ∧ p2 < 256) (hp3 : 0 ≤ p3 ∧ p3 < 256)
include hp1 hp2 hp3
theorem octetsL_is : octetsL p1 p2 p3 = [114, 103, 98, 58] ++ (hexL false (p1 * 257) 4 ++ [47] ++ hexL false (p2 * 257) 4 ++ [47] ++ hexL false (p3 * 257) 4) := by
  unfold octetsL
  rw [oct1_is hp1, oct1_is hp2, oct1_is hp3]
theorem octetsL_small : small (octetsL p1 p2 p3) = [114, 103, 98, 58] ++ (hexL false (p1 * 257) 4 ++ [47] ++ hexL false (p2 * 257) 4 ++ [47] ++ hexL false (p3 * 257) 4) := by
  rw [octetsL_is hp1 hp2 hp3]
  simp only [small_app, small_hex, small_47]
  rfl
theorem octetsL_ok : octOk (octetsL p1 p2 p3) := oct_ok_r (octetsL_small hp1 hp2 hp3)
theorem octetsL_back : octV (octetsL p1 p2 p3) = some (p1 * 65536 + p2 * 256 + p3) := by
  have key : ∀ p : Int, 0 ≤ p ∧ p < 256 → FigP 4 (hexL false (p * 257) 4) (p * 257) ∧ p = partV (hexL false (p * 257) 4) (p * 257) := fun p hp => by
    rw [partV_open, hexL_len]
    have h := fin_int (P := fun p => 0 ≤ p * 257 ∧ p * 257 < 16 ^ 4 ∧ p = p * 257 * 65535 / (16 ^ 4 - 1) / 256) 256 back_fin hp.1 hp.2
    exact ⟨figP_hex (by decide) (by decide) h.1 h.2.1, h.2.2⟩
  refine toldR_is ⟨4, _, _, _, _, _, _, (key p1 hp1).1, (key p2 hp2).1, (key p3 hp3).1, octetsL_small hp1 hp2 hp3, (key p1 hp1).2, (key p2 hp2).2, (key p3 hp3).2⟩
end
end Mine
end

section -- P4
open PySem PySem.Spec PySem.Calls PySem.W PyProof.Rows
set_option linter.unusedVariables false
set_option maxRecDepth 100000
set_option maxHeartbeats 8000000
namespace Mine
theorem bints_app (a b : Array UInt8) : KBw.bInts (a ++ b) = KBw.bInts a ++ KBw.bInts b := by
  simp only [KBw.bInts, Array.toList_append, List.map_append]
theorem told_sz {b : Array UInt8} {d1 d2 d3 : Int} (h : ToldIs (KBw.bInts b) d1 d2 d3) : b.size ≤ 18 := by
  have := h.2.1
  rw [KBw.ints_length] at this
  exact this
section
variable {gr : Bool} {r p1 p2 p3 : Int} {P b1 b2 b3 c1 c2 c3 : Array UInt8} (r0 : 0 ≤ r) (r1 : r < 4) (hp1 : 0 ≤ p1 ∧ p1 < 256) (hp2 : 0 ≤ p2 ∧ p2 < 256) (hp3 : 0 ≤ p3 ∧ p3 < 256)
include r0 r1 hp1 hp2 hp3
theorem end_rgb {v1 v2 v3 : Int} (hP : KBw.bInts P = preL gr) (e1 : KBw.bInts b1 = hexL gr v1 (1 + r).toNat) (e2 : KBw.bInts b2 = hexL gr v2 (1 + r).toNat) (e3 : KBw.bInts b3 = hexL gr v3 (1 + r).toNat)
    (q1 : v1 = nF (1 + r - 1) ((p1.fdiv 17 * 17).fdiv 17) (p1.fdiv 17 * 17) ((p1.fdiv 17 * 17).fdiv 17 * 273) (p1.fdiv 17 * 17 * 257))
    (q2 : v2 = nF (1 + r - 1) ((p2.fdiv 17 * 17).fdiv 17) (p2.fdiv 17 * 17) ((p2.fdiv 17 * 17).fdiv 17 * 273) (p2.fdiv 17 * 17 * 257))
    (q3 : v3 = nF (1 + r - 1) ((p3.fdiv 17 * 17).fdiv 17) (p3.fdiv 17 * 17) ((p3.fdiv 17 * 17).fdiv 17 * 273) (p3.fdiv 17 * 17 * 257)) :
    ToldIs (KBw.bInts (P ++ (b1 ++ #[47] ++ b2 ++ #[47] ++ b3))) (p1.fdiv 17 * 17) (p2.fdiv 17 * 17) (p3.fdiv 17 * 17) := by
  have h := told_rgb (gr := gr) r0 r1 hp1 hp2 hp3 rfl rfl rfl
  simp only [fd17, show 1 + r - 1 = r by omega] at q1 q2 q3 ⊢
  rw [← q1, ← q2, ← q3] at h
  rw [bints_app, bints_app, bints_app, bints_app, bints_app, hP, e1, e2, e3]
  exact h
theorem end_one (hr : 1 + r = 1) (e1 : KBw.bInts b1 = hexL gr (p1.fdiv 16) (Int.toNat 1)) (e2 : KBw.bInts b2 = hexL gr (p2.fdiv 16) (Int.toNat 1)) (e3 : KBw.bInts b3 = hexL gr (p3.fdiv 16) (Int.toNat 1)) :
    ToldIs (KBw.bInts (#[35] ++ (b1 ++ #[] ++ b2 ++ #[] ++ b3))) (p1.fdiv 16 * 16) (p2.fdiv 16 * 16) (p3.fdiv 16 * 16) := by
  have h := told_1 (gr := gr) hp1 hp2 hp3
  simp only [fdd16] at e1 e2 e3 ⊢
  rw [Array.append_empty, Array.append_empty, bints_app, bints_app, bints_app, e1, e2, e3]
  exact h
theorem end_two (hr : 1 + r ≠ 1) (hP : KBw.bInts P = restL gr) (e1 : KBw.bInts b1 = hexL gr p1 (Int.toNat 2)) (e2 : KBw.bInts b2 = hexL gr p2 (Int.toNat 2)) (e3 : KBw.bInts b3 = hexL gr p3 (Int.toNat 2))
    (f1 : KBw.bInts c1 = List.take (1 + r - 2).toNat (KBw.bInts P)) (f2 : KBw.bInts c2 = List.take (1 + r - 2).toNat (KBw.bInts P)) (f3 : KBw.bInts c3 = List.take (1 + r - 2).toNat (KBw.bInts P)) :
    ToldIs (KBw.bInts (#[35] ++ (b1 ++ c1 ++ #[] ++ (b2 ++ c2) ++ #[] ++ (b3 ++ c3)))) p1 p2 p3 := by
  have h := told_2 (gr := gr) (k := r) (by omega) r1 hp1 hp2 hp3
  rw [show 1 + r - 2 = r - 1 by omega, hP] at f1 f2 f3
  rw [Array.append_empty, Array.append_empty, bints_app, bints_app, bints_app, bints_app, bints_app, bints_app, e1, e2, e3, f1, f2, f3]
  exact h
end
theorem preT {gr : Bool} (h : gr = true) : KBw.bInts #[82, 71, 66, 58] = preL gr := by subst h; rfl
theorem preF {gr : Bool} (h : gr = false) : KBw.bInts #[114, 103, 98, 58] = preL gr := by subst h; rfl
theorem restT {gr : Bool} (h : gr = true) : KBw.bInts #[48, 65] = restL gr := by subst h; rfl
theorem restF {gr : Bool} (h : gr = false) : KBw.bInts #[102, 48] = restL gr := by subst h; rfl
end Mine
end

section -- P5
open PySem PySem.Spec PySem.Calls PySem.W PyProof.Rows
set_option linter.unusedVariables false
set_option maxRecDepth 100000
set_option maxHeartbeats 8000000
namespace Mine
noncomputable def NoneOk (b : Array UInt8) : Prop := b.size ≤ 64 ∧ octOk (KBw.bInts b) ∧ octV (KBw.bInts b) = none
noncomputable def SomeOk (b : Array UInt8) (v : Int) : Prop := b.size ≤ 64 ∧ octOk (KBw.bInts b) ∧ octV (KBw.bInts b) = some v
section
variable {p1 p2 p3 : Int} {b0 b1 b2 b3 : Array UInt8} (hp1 : 0 ≤ p1 ∧ p1 < 256) (hp2 : 0 ≤ p2 ∧ p2 < 256) (hp3 : 0 ≤ p3 ∧ p3 < 256)
include hp1 hp2 hp3
theorem oct_num (e0 : KBw.bInts b0 = octetsL (pR (p1 * 65536 + p2 * 256 + p3)) (pG (p1 * 65536 + p2 * 256 + p3)) (pB (p1 * 65536 + p2 * 256 + p3))) : KBw.bInts b0 = octetsL p1 p2 p3 := by
  rw [pR_num hp1 hp2 hp3, pG_num hp2 hp3, pB_num hp3] at e0
  exact e0
theorem cmp_octets (e0 : KBw.bInts b0 = octetsL (pR (p1 * 65536 + p2 * 256 + p3)) (pG (p1 * 65536 + p2 * 256 + p3)) (pB (p1 * 65536 + p2 * 256 + p3)))
    (e1 : KBw.bInts b1 = hexL false (p1 * 257) (Int.toNat 4)) (e2 : KBw.bInts b2 = hexL false (p2 * 257) (Int.toNat 4)) (e3 : KBw.bInts b3 = hexL false (p3 * 257) (Int.toNat 4)) :
    KBw.bInts b0 = KBw.bInts (#[114, 103, 98, 58] ++ (b1 ++ #[47] ++ b2 ++ #[47] ++ b3)) := by
  rw [oct_num hp1 hp2 hp3 e0, octetsL_is hp1 hp2 hp3, bints_app, bints_app, bints_app, bints_app, bints_app, e1, e2, e3]
  rfl
theorem some_oct (e0 : KBw.bInts b0 = octetsL (pR (p1 * 65536 + p2 * 256 + p3)) (pG (p1 * 65536 + p2 * 256 + p3)) (pB (p1 * 65536 + p2 * 256 + p3))) : SomeOk b0 (p1 * 65536 + p2 * 256 + p3) := by
  have e := oct_num hp1 hp2 hp3 e0
  refine ⟨?_, e ▸ octetsL_ok hp1 hp2 hp3, e ▸ octetsL_back hp1 hp2 hp3⟩
  rw [← KBw.ints_length, e, octetsL_len]
  decide
end
section
variable {b c : Array UInt8} {d1 d2 d3 : Int} (ht : ToldIs (KBw.bInts b) d1 d2 d3)
include ht
theorem some_told : SomeOk b (d1 * 65536 + d2 * 256 + d3) := ⟨Nat.le_trans (told_sz ht) (by decide), told_ok ht, told_is ht⟩
theorem none_g (e : KBw.bInts c = (KBw.bInts b).dropLast) : NoneOk (c ++ #[103]) := by
  have h : KBw.bInts (c ++ #[103]) = (KBw.bInts b).dropLast ++ [103] := by rw [bints_app, e]; rfl
  have hz := told_sz ht
  refine ⟨?_, h ▸ (bent_g ht).2, h ▸ (bent_g ht).1⟩
  rw [← KBw.ints_length, h, List.length_append, List.length_dropLast, KBw.ints_length]
  simp only [List.length_cons, List.length_nil]
  omega
theorem none_o : NoneOk (b ++ #[47, 49]) := by
  have h : KBw.bInts (b ++ #[47, 49]) = KBw.bInts b ++ [47, 49] := by rw [bints_app]; rfl
  have hz := told_sz ht
  refine ⟨?_, h ▸ (bent_1 ht).2, h ▸ (bent_1 ht).1⟩
  rw [← KBw.ints_length, h, List.length_append, KBw.ints_length]
  simp only [List.length_cons, List.length_nil]
  omega
theorem none_s : NoneOk (#[35] ++ b) := by
  have h : KBw.bInts (#[35] ++ b) = [35] ++ KBw.bInts b := by rw [bints_app]; rfl
  have hz := told_sz ht
  refine ⟨?_, h ▸ (bent_s ht).2, h ▸ (bent_s ht).1⟩
  rw [← KBw.ints_length, h, List.length_append, KBw.ints_length]
  simp only [List.length_cons, List.length_nil]
  omega
end
theorem nok_0 : NoneOk #[] := ⟨by decide, none_0.2, none_0.1⟩
theorem nok_1 : NoneOk #[35] := ⟨by decide, none_1.2, none_1.1⟩
theorem nok_2 : NoneOk #[35, 49, 50] := ⟨by decide, none_2.2, none_2.1⟩
theorem nok_3 : NoneOk #[35, 49, 50, 51, 52, 53] := ⟨by decide, none_3.2, none_3.1⟩
theorem nok_4 : NoneOk #[114, 103, 98, 58, 49, 47, 50, 47, 49, 50, 51, 52, 53] := ⟨by decide, none_4.2, none_4.1⟩
theorem nok_5 : NoneOk #[114, 103, 98, 58, 49, 47, 47, 50] := ⟨by decide, none_5.2, none_5.1⟩
theorem nok_6 : NoneOk #[114, 103, 98, 58] := ⟨by decide, none_6.2, none_6.1⟩
theorem nok_7 : NoneOk #[114, 103, 98, 58, 49, 47, 50] := ⟨by decide, none_7.2, none_7.1⟩
theorem nok_8 : NoneOk (#[114, 103, 98, 58] ++ #[49, 47, 50]) := nok_7
end Mine
end

section -- G3
open PySem PySem.Spec PySem.Calls PySem.W PyProof.Rows
set_option linter.unusedVariables false
set_option maxRecDepth 100000
set_option maxHeartbeats 8000000
set_option pp.deepTerms false
namespace Mine
variable {w : World} {mean : ExcName → Option Value} {mg mb : Str → Option Value} {dp un : Nat} {gd : Option (List Code)} {cn : Str} {cs : Scope} {a : Addr} {ccd : Value} {cl : List (Str × Addr)} {outer : List Env} {A₀ : Around} {base h₀ : Heap} {L : Addr} {m : Str → Option Value} {news : List (Addr × Obj)} {s : Shared} {Q E : Value → Shared → Prop}
theorem c_octs_some
   (B : Below A₀ base outer h₀) (F : Fr h₀ L s.heap m) (X : (Mine.hd.heap_39 w.params).In h₀) (N : News h₀ L s.heap news) (T : Top Mine.hd.view_39 (looseW Mine.hd.view_39 []) mean mg mb h₀) (hk : cs.kind = .function)
   (hdp : dp + 4 < recursionLimit) (hun : un + 32 < cLine)
   {b : Array UInt8} {t : Tok} {v : Int} (h : SomeOk b v)
   (hret : ∀ (t : Tok) (h' : Heap) (tk' : Nat), Fr h₀ L h' m → News h₀ L h' news → Q (.int v t) { s with heap := h', toks := tk' }) :
   wpAny (model PySem.Challenge.rw_og0237_01.row.prog w) (ktrTop dp un gd cn cs L a ccd cl outer) (call (.ref 69) [.bytes b t]) Q E s := by
  refine c_octs B F X N T ‹_› hdp hun h.1 h.2.1 (fun i t h' tk' e F1 N1 => ?_) (fun h' tk' e F1 N1 => ?_)
  · rw [h.2.2] at e
    cases e
    exact hret t h' tk' F1 N1
  · rw [h.2.2] at e
    cases e
theorem c_octs_none
   (B : Below A₀ base outer h₀) (F : Fr h₀ L s.heap m) (X : (Mine.hd.heap_39 w.params).In h₀) (N : News h₀ L s.heap news) (T : Top Mine.hd.view_39 (looseW Mine.hd.view_39 []) mean mg mb h₀) (hk : cs.kind = .function)
   (hdp : dp + 4 < recursionLimit) (hun : un + 32 < cLine)
   {b : Array UInt8} {t : Tok} (h : NoneOk b)
   (hret : ∀ (h' : Heap) (tk' : Nat), Fr h₀ L h' m → News h₀ L h' news → Q .none { s with heap := h', toks := tk' }) :
   wpAny (model PySem.Challenge.rw_og0237_01.row.prog w) (ktrTop dp un gd cn cs L a ccd cl outer) (call (.ref 69) [.bytes b t]) Q E s := by
  refine c_octs B F X N T ‹_› hdp hun h.1 h.2.1 (fun i t h' tk' e F1 N1 => ?_) (fun h' tk' e F1 N1 => ?_)
  · rw [h.2.2] at e
    cases e
  · exact hret h' tk' F1 N1
end Mine
end

section -- Rc
open PySem PySem.Spec PySem.Calls PySem.W PyProof.Rows
set_option linter.unusedVariables false
set_option maxRecDepth 100000
set_option maxHeartbeats 8000000
namespace Mine
/-- what the two ways of told's rest leave -/
noncomputable def RestOk (gr : Bool) (s : Shared) (v : Value) (s' : Shared) : Prop := ∃ (P : Array UInt8) (t : Tok) (tk : Nat), v = .bytes P t ∧ KBw.bInts P = restL gr ∧ s' = { s with toks := tk }
theorem rest_cut {prog : Program} {w : World} {A : Around} {E : Value → Shared → Prop} {s : Shared} {env : Env} {e : PySem.Expr} {Q : Value → Shared → Prop} (gr : Bool)
    (h1 : wpAny (model prog w) A (eval e env) (fun v s' => RestOk gr s v s') E s)
    (h2 : ∀ (P : Array UInt8) (t : Tok) (tk : Nat), KBw.bInts P = restL gr → P.size = 2 → Q (.bytes P t) { s with toks := tk }) : wpAny (model prog w) A (eval e env) Q E s :=
  wpAny_mono h1 (fun v s' hq => by
    obtain ⟨P, t, tk, rfl, hP, rfl⟩ := hq
    refine h2 P t tk hP ?_
    rw [← KBw.ints_length, hP]
    cases gr <;> rfl) fun _ _ e => e
end Mine
end

section -- Rf
open PySem PySem.Spec PySem.Calls PySem.W PyProof.Rows
set_option linter.unusedVariables false
set_option maxRecDepth 100000
set_option maxHeartbeats 8000000
namespace Mine
open PyProof.Rows.LCg PyProof.Rows.LCt
noncomputable abbrev lhsOf {a b : Int} (_ : a < b) : Int := a
/-- what one element of a comprehension leaves -/
noncomputable def TurnOk (R : Int → Value → Prop) (k : Int) (h₀ : Heap) (L : Addr) (m : Str → Option Value) (all : List (Addr × Obj)) (s : Shared) (y : Value) (s' : Shared) : Prop :=
  R k y ∧ ∃ h' tk', s' = { s with heap := h', toks := tk' } ∧ Fr h₀ L h' m ∧ News h₀ L h' all
section
variable {prog : Program} {w : World} {A : Around} {h₀ : Heap} {L : Addr} {m : Str → Option Value} {env : Env} {elt : Expr} {x : Str} {scope : Scope} {cl : List (Str × Addr)} {s : Shared} {S : List (Addr × Obj) → Prop} {Fin : List Value → List (Addr × Obj) → Prop} {news : List (Addr × Obj)} {p1 p2 p3 : Int} {u1 u2 u3 : Tok}
/-- a comprehension over three ints, its element walked once -/
theorem rest_three (R : Int → Value → Prop) (hS : S news)
    (turn : ∀ k t I oI C oC D m₂ ys h tk (E' : Value → Shared → Prop), (k = p1 ∨ k = p2 ∨ k = p3) → NsObj oC m₂ → m₂ x = some (.int k t) → Fr h₀ L h m → News h₀ L h ((I, oI) :: (C, oC) :: (D, lst ys) :: news) → Off3 I C D news →
      wpAny (model prog w) A (eval elt (compEnvC scope cl C env)) (TurnOk R k h₀ L m ((I, oI) :: (C, oC) :: (D, lst ys) :: news) { s with heap := h, toks := tk }) E' { s with heap := h, toks := tk })
    (fin : ∀ y1 y2 y3, R p1 y1 → R p2 y2 → R p3 y3 → Fin [y1, y2, y3] news) :
    CompRest prog w A h₀ L m env elt x scope cl s S (fun i v => (#[Value.int p1 u1, Value.int p2 u2, Value.int p3 u3] : Array Value)[i]? = some v) Fin 3 0 [] news := by
  have step : ∀ (k : Int) (u : Tok) (j i : Nat) (ys : List Value), (k = p1 ∨ k = p2 ∨ k = p3) → (∀ v, (#[Value.int p1 u1, Value.int p2 u2, Value.int p3 u3] : Array Value)[i]? = some v → v = .int k u) →
      (∀ y, R k y → CompRest prog w A h₀ L m env elt x scope cl s S (fun i v => (#[Value.int p1 u1, Value.int p2 u2, Value.int p3 u3] : Array Value)[i]? = some v) Fin j (i + 1) (ys ++ [y]) news) →
      CompRest prog w A h₀ L m env elt x scope cl s S (fun i v => (#[Value.int p1 u1, Value.int p2 u2, Value.int p3 u3] : Array Value)[i]? = some v) Fin (j + 1) i ys news := by
    intro k u j i ys hk hv0 next
    refine CompRest.succ ?_
    intro v I oI C oC D m₂ h tk E' hv hC hx F N off ne
    rw [hv0 v hv] at hx
    refine wpAny_mono (turn k u I oI C oC D m₂ ys h tk E' hk hC hx F N off) (fun y s₃ hq => ?_) fun _ _ e => e
    obtain ⟨hR, h', tk', rfl, F', N'⟩ := hq
    exact ⟨h', tk', news, rfl, F', N', off, hS, next y hR⟩
  refine step p1 u1 2 0 [] (.inl rfl) (fun v h => by cases h; rfl) fun y1 q1 => step p2 u2 1 1 [y1] (.inr (.inl rfl)) (fun v h => by cases h; rfl) fun y2 q2 => step p3 u3 0 2 [y1, y2] (.inr (.inr rfl)) (fun v h => by cases h; rfl) fun y3 q3 => CompRest.zero (fin y1 y2 y3 q1 q2 q3)
end
end Mine
end

section -- Lq
open PySem PySem.Spec PySem.Calls PySem.W PyProof.Rows
set_option linter.unusedVariables false
set_option maxRecDepth 100000
set_option maxHeartbeats 8000000
namespace Mine
/-- the frame of told's turns: what they write over m0 -/
noncomputable def ovt (vn vp : Option Value) (m0 : Str → Option Value) : Str → Option Value := fun y => if y = Str.ofString "number" then vn else if y = Str.ofString "part" then vp else m0 y
theorem ovt_back {vn vp w1 w2 : Option Value} {m0 : Str → Option Value} : (fun y => if y = Str.ofString "number" then w1 else if y = Str.ofString "part" then w2 else ovt vn vp m0 y) = ovt w1 w2 m0 := by
  funext y
  unfold ovt
  by_cases h1 : y = Str.ofString "number"
  · simp only [if_pos h1]
  · by_cases h2 : y = Str.ofString "part"
    · simp only [if_neg h1, if_pos h2]
    · simp only [if_neg h1, if_neg h2]
theorem ovt_start {m0 : Str → Option Value} (e1 : m0 (Str.ofString "number") = none) (e2 : m0 (Str.ofString "part") = none) : m0 = ovt none none m0 := by
  funext y
  unfold ovt
  by_cases h1 : y = Str.ofString "number"
  · rw [if_pos h1, h1, e1]
  · by_cases h2 : y = Str.ofString "part"
    · rw [if_neg h1, if_pos h2, h2, e2]
    · rw [if_neg h1, if_neg h2]
section
variable {prog : Program} {w : World} {A : Around} {E : Value → Shared → Prop} {h₀ : Heap} {env : Env} {x : Str} {body : List Stmt} {Q : Flow → Shared → Prop} {s : Shared} {I : Addr} {lp : Addr × Obj} {m m' m0 : Str → Option Value} {news news' : List (Addr × Obj)}
theorem list_at {r : List Value} (h : ListRest prog w A E h₀ env x body Q s I lp r m news) (e : m' = m) : ListRest prog w A E h₀ env x body Q s I lp r m' news := e ▸ h
/-- with more in the ledger too -/
theorem list_sub {r : List Value} (h : ListRest prog w A E h₀ env x body Q s I lp r m news) (sub : ∀ p ∈ news, p ∈ news') : ListRest prog w A E h₀ env x body Q s I lp r m news' := by
  cases r with
  | nil => exact fun h' tk F N => h h' tk F fun p hp => N p (sub p hp)
  | cons v r =>
    exact fun it h' tk hi F N => h it h' tk hi F fun p hp => by
      rcases List.mem_cons.mp hp with rfl | hp
      · exact N _ (.head _)
      · exact N p (.tail _ (sub p hp))
theorem list3_ind {l : Addr} {base : List (Addr × Obj)} {d1 d2 d3 : Int} {t1 t2 t3 : Tok} (RF : Int → Value → Prop) (hm : m = ovt none none m0)
    (turn : ∀ (d : Int) (td : Tok) (xs : List Value) (k : Nat) (vn vp : Option Value) (r : List Value), (d = d1 ∨ d = d2 ∨ d = d3) → xs.length ≤ 2 →
      (∀ y k' vn' vp', RF d y → ListRest prog w A E h₀ env x body Q s I lp r (ovt vn' vp' m0) ((l, W.listOf (xs ++ [y]).toArray k') :: base)) →
      ListRest prog w A E h₀ env x body Q s I lp (.int d td :: r) (ovt vn vp m0) ((l, W.listOf xs.toArray k) :: base))
    (fin : ∀ y1 y2 y3 k vn vp, RF d1 y1 → RF d2 y2 → RF d3 y3 → ListRest prog w A E h₀ env x body Q s I lp [] (ovt vn vp m0) ((l, W.listOf [y1, y2, y3].toArray k) :: base)) :
    ListRest prog w A E h₀ env x body Q s I lp [.int d1 t1, .int d2 t2, .int d3 t3] m ((l, W.listOf #[] 0) :: base) := by
  subst hm
  exact turn d1 t1 [] 0 none none _ (.inl rfl) (by decide) fun y1 k1 n1 q1 h1 => turn d2 t2 [y1] k1 n1 q1 _ (.inr (.inl rfl)) (by simp) fun y2 k2 n2 q2 h2 =>
    turn d3 t3 [y1, y2] k2 n2 q2 _ (.inr (.inr rfl)) (by simp) fun y3 k3 n3 q3 h3 => fin y1 y2 y3 k3 n3 q3 h1 h2 h3
end
end Mine
end

open PySem PySem.Spec PySem.Calls PySem.W PyProof.Rows Mine
local macro_rules | `(tactic| k_lt $h:ident) => `(tactic| replace $h := allLt_of $h)
local macro_rules | `(tactic| k_ne) => `(tactic| ((try dsimp only); refine neN ?_; first
  | (exact allLt_ne (by with_reducible assumption) (by k_mem))
  | (exact Ne.symm (allLt_ne (by with_reducible assumption) (by k_mem)))
  | (exact off1_ne (by with_reducible assumption) (by k_mem))
  | (exact Ne.symm (off1_ne (by with_reducible assumption) (by k_mem)))
  | with_reducible assumption
  | (with_reducible exact Ne.symm (by with_reducible assumption))
  | (exact allNe_ne (by with_reducible assumption) (by k_mem))
  | (exact Ne.symm (allNe_ne (by with_reducible assumption) (by k_mem)))
  | (exact Ne.symm (off3_I (by with_reducible assumption) (by k_mem)))
  | (exact Ne.symm (off3_C (by with_reducible assumption) (by k_mem)))
  | (exact Ne.symm (off3_D (by with_reducible assumption) (by k_mem)))
  | omega))
local macro_rules | `(tactic| lcg_off) => `(tactic| first | with_reducible assumption | exact off3_same (by with_reducible assumption) rfl)

theorem Mine.offT1 : True := by
  w_top off
  trivial

section -- T1
open PySem PySem.Spec PySem.Calls PySem.W PyProof.Rows
set_option linter.unusedVariables false
set_option maxRecDepth 100000
set_option maxHeartbeats 8000000
set_option pp.deepTerms false
namespace Mine
variable {w : World} {mean : ExcName → Option Value} {mg mb : Str → Option Value} {dp un : Nat} {gd : Option (List Code)} {cn : Str} {cs : Scope} {a : Addr} {ccd : Value} {cl : List (Str × Addr)} {outer : List Env} {A₀ : Around} {base h₀ : Heap} {L : Addr} {m : Str → Option Value} {news : List (Addr × Obj)} {s : Shared} {Q E : Value → Shared → Prop}
theorem c_told
   (B : Below A₀ base outer h₀) (F : Fr h₀ L s.heap m) (X : (Mine.hd.heap_39 w.params).In h₀) (N : News h₀ L s.heap news) (T : Top Mine.hd.view_39 (looseW Mine.hd.view_39 []) mean mg mb h₀) (hk : cs.kind = .function)
   (hdp : dp + 2 < recursionLimit) (hun : un + 256 < cLine)
   {D Ls : Addr} {od ol : Obj} {gr : Bool} {p1 p2 p3 : Int} {u1 u2 u3 : Tok} {l2 : Addr} {n2 : Nat} (hm2 : s.heap.get? l2 = some { cls := .type "list", data := .seq #[.int p1 u1, .int p2 u2, .int p3 u3] n2 }) (hl2 : ∀ p ∈ [(D, od), (Ls, ol)], l2 ≠ p.1) (hp1 : 0 ≤ p1 ∧ p1 < 256) (hp2 : 0 ≤ p2 ∧ p2 < 256) (hp3 : 0 ≤ p3 ∧ p3 < 256) (hd : DeckOk w Ls od ol) (hne : @Ne Nat D Ls) (N1 : News h₀ L s.heap [(D, od), (Ls, ol)]) (hoff : ∀ q ∈ news, ∀ p ∈ [(D, od), (Ls, ol)], q.1 ≠ p.1)
   (hret : ∀ (a l : Addr) (b : Array UInt8) (tb : Tok) (d1 d2 d3 : Int) (v1 v2 v3 : Tok) (n n' : Nat) (od' ol' : Obj) (h' : Heap) (tk' : Nat), ToldIs (KBw.bInts b) d1 d2 d3 → b.size ≤ 18 → DeckOk w Ls od' ol' → @Ne Nat a D → @Ne Nat a Ls → @Ne Nat l D → @Ne Nat l Ls → Fr h₀ L h' m →
      News h₀ L h' ((a, ({ cls := .type "tuple", data := .seq #[.bytes b tb, .ref l] n } : Obj)) :: (l, ({ cls := .type "list", data := .seq #[.int d1 v1, .int d2 v2, .int d3 v3] n' } : Obj)) :: (D, od') :: (Ls, ol') :: news) → Q (.ref a) { s with heap := h', toks := tk' }) :
   wpAny (model PySem.Challenge.rw_og0237_01.row.prog w) (ktrTop dp un gd cn cs L a ccd cl outer) (call (.ref 162) [.ref D, .ref l2, .bool gr]) Q E s := by
  refine wpAny_call ?_
  revert X; k_fill; intro X
  k_dflt (refine' code_ownC (own := [(D, od), (Ls, ol)]) (rest := news) ?k1 ?k2 ?k3 ?k4 ?kr ?ko ?k5 ?kA ?kF ?kK ?k6 ?k7 ?k8 ?k9 ?kB ?kD ?_ ?c2 ?c3 ?c4; (case kA => exact rfl); (case kF => exact rfl); (case kK => assumption); (case k1 => exact B); (case k2 => exact F); (case k3 => exact X); (case k4 => exact N1); (case kr => exact N); (case ko => exact hoff); (case k5 => exact T); (case k6 => k_is); (case k7 => k_is); (case k8 => first | exact dp_ok 0 hdp rfl | exact dp_ok 1 hdp rfl | exact dp_ok 2 hdp rfl | exact dp_ok 3 hdp rfl | ktr_room); (case k9 => exact BindsTo.of_eq rfl); (case kB => exact rfl); (case kD => decide +kernel); (case c2 => exact rfl); (case c3 => exact rfl); (case c4 => exact rfl); k_whole)
  intro g' L' h' tk' cells' FG' F' N' Y' B' X' T' l1 R' S'
  (replace l1 := allLt_of l1)
  simp only [AllLt, and_true] at l1
  k_cells Y'
  (try simp only [List.cons_append, List.nil_append] at N')
  (try dsimp only)
  (try k_fold)
  (replace F' : Fr g' L' h' (fun y => if y = Str.ofString "parts" then some (.ref l2) else if y = Str.ofString "deck" then some (.ref D) else none) := F')
  rename _ = Data.cell _ => d3
  replace d3 : _ = Data.cell (some (Value.bool gr)) := d3
  revert d3
  rename _ = Data.cell _ => d2
  replace d2 : _ = Data.cell none := d2
  revert d2
  rename _ = Data.cell _ => d1
  replace d1 : _ = Data.cell none := d1
  intro d2 d3
  have T2 : g'.IsList l2 #[.int p1 u1, .int p2 u2, .int p3 u3] := ⟨_, S' _ _ hm2 hl2, rfl, _, rfl⟩
  repeat' ((fail_if_success (with_reducible show ListRest _ _ _ _ _ _ _ _ _ _ _ _ _ _ _)); first
    | (k_unfold; (try dsimp only))
    | ((with_reducible show wpAny _ _ (execs (_ :: _) _) _ _ _); (try (k_here; ((with_reducible rename LCg.NsObj _ _ => hj); clear hj); (repeat ((with_reducible rename LCg.NsObj _ _ => hj); clear hj)); (repeat ((with_reducible rename LCg.Off3 _ _ _ _ => hj); clear hj)); (repeat ((with_reducible rename _[_]? = some _ => hj); clear hj)); (repeat ((with_reducible rename InElt _ _ => hj); clear hj)); (repeat ((with_reducible rename _ = some (Value.int _ _) => hj); clear hj)))); (try k_gentoks); (try k_fold); (try dsimp only); refine (let A9 : Around := _; (?_ : wpAny _ A9 _ _ _ _)); (with_reducible rename News _ _ _ _ => kN); (with_reducible rename Fr _ _ _ _ => kF); refine (let n9 : List (Addr × Obj) := _; let m9 : Str → Option Value := _; (fun (kN : News _ _ _ n9) (kF : Fr _ _ _ m9) => ?_) kN kF); refine wpAny_execs_cons ?_; (try dsimp only))
    | ((with_reducible show wpAny _ _ (call (Value.ref _) _) _ _ _); first | (k_here; (with_reducible show wpAny _ _ (call (Value.ref 157) [_, _, _]) _ _ _); k_dflt (refine' c_law_hex ?k0z9 ?k1z9 ?k2z9 ?k3z9 ?k4z9 ?k5z9 ?k6z9 ?k7z9 ?p0z9 ?p1z9 ?p2z9 ?p3z9 ?_; (case k0z9 => k_asm); (case k1z9 => k_asm); (case k2z9 => k_asm); (case k3z9 => k_asm); (case k4z9 => k_asm); (case k5z9 => first | exact rfl | assumption); (case k6z9 => first | exact dp_ok 0 hdp rfl | exact dp_ok 1 hdp rfl | exact dp_ok 2 hdp rfl | exact dp_ok 3 hdp rfl | ktr_room); (case k7z9 => first | exact un_ok hun rfl | exact un_ok0 hun rfl | ktr_units); (case p0z9 => first | with_reducible assumption | exact (d16_in (by assumption)).1 | omega); (case p1z9 => first | with_reducible assumption | exact (d16_in (by assumption)).2 | omega); (case p2z9 => first | decide | exact (few1 (by assumption) (by assumption)).1 | omega); (case p3z9 => first | decide | exact (few1 (by assumption) (by assumption)).2.1 | omega);  k_whole); intro b9 t9 h9 tk9 e9 F9 N9; have z9 := hex_sz4 e9 (by first | decide | exact (few1 (by assumption) (by assumption)).2.1 | omega); (try dsimp only); (try k_fold)) | (k_here; (with_reducible show wpAny _ _ (call (Value.ref 128) [_, _]) _ _ _); k_dflt (refine' c_drawU ?k0z8 ?k1z8 ?k2z8 ?k3z8 ?k4z8 ?k5z8 ?k6z8 ?k7z8 ?hdz8 ?hnez8 ?U1z8 ?U2z8 ?m0z8 ?m1z8 ?_; (case k0z8 => k_asm); (case k1z8 => k_asm); (case k2z8 => k_asm); (case k3z8 => k_asm); (case k4z8 => k_asm); (case k5z8 => first | exact rfl | assumption); (case k6z8 => first | exact dp_ok 0 hdp rfl | exact dp_ok 1 hdp rfl | exact dp_ok 2 hdp rfl | exact dp_ok 3 hdp rfl | ktr_room); (case k7z8 => first | exact un_ok hun rfl | exact un_ok0 hun rfl | ktr_units); (case hdz8 => assumption); (case hnez8 => first | assumption | k_ne); (case U1z8 => k_updF); (case U2z8 => (intro od'; k_updF)); (case m0z8 => decide); (case m1z8 => decide); k_whole); intro r9 t9 od9 ol9 h9 tk9 r0 r1 hd9 F9 N9; (try dsimp only at N9); (try dsimp only); (try k_fold)))
    | ((with_reducible show ListRest _ _ _ _ _ _ _ _ _ _ _ _ _ _ _); exact list_sub (list_at (ih _ _ _ _ ⟨_, _, _, rfl, by assumption, by assumption, by assumption⟩) ovt_back) (by kcf_all))
    | (k_here; (with_reducible show wpAny _ _ (call (Value.builtin "list.append") [Value.ref _, _]) _ _ _); (with_reducible rename News _ _ _ _ => kN); (with_reducible rename Fr _ _ _ _ => kF); k_dflt (refine' append_K kF kN ?Uz22 ?_ ?szz22; (case Uz22 => k_upd); (case szz22 => first | (rw [List.size_toArray, sizeLine_eq]; exact Nat.le_trans (m := 2) (by with_reducible assumption) (Nat.le_of_ble_eq_true rfl)) | (rw [List.size_toArray, sizeLine_eq]; omega))); intro h9 F9 N9; (try simp only [List.push_toArray] at N9))
    | ((with_reducible show TurnOk _ _ _ _ _ _ _ _ _); (with_reducible rename News _ _ _ _ => kN); (with_reducible rename Fr _ _ _ _ => kF); (refine ⟨?_, _, _, rfl, kF, kN⟩); first | exact ⟨_, rfl⟩ | exact ⟨_, _, rfl, by assumption, by assumption⟩ | exact ⟨_, _, _, rfl, by assumption, by assumption, by assumption, by assumption⟩)
    | ((with_reducible show LCg.CompRest _ _ _ _ _ _ _ (Expr.BinOp (Expr.Call _ _ _ _) Operator.Add _ _) _ _ _ _ _ _ _ _ _ _ _); (with_reducible rename _ < (4 : Int) => q4); (refine rest_three (fun k y => ∃ b c t, y = .bytes (b ++ c) t ∧ KBw.bInts b = hexL gr k (Int.toNat 2) ∧ b.size ≤ 4 ∧ KBw.bInts c = List.take (1 + lhsOf q4 - 2).toNat (KBw.bInts P9) ∧ c.size ≤ 2) (.inl (by with_reducible assumption)) (fun k9 t9 I9 oI9 C9 oC9 D9 m9 ys9 h9 tk9 E9 hk9 hC9 hx9 F9 N9 off9 => ?_) (fun y1 y2 y3 q1 q2 q3 => ?_)); rotate_left; (obtain ⟨b1, c1, t1, rfl, e1, z1, f1, g1⟩ := q1; obtain ⟨b2, c2, t2, rfl, e2, z2, f2, g2⟩ := q2; obtain ⟨b3, c3, t3, rfl, e3, z3, f3, g3⟩ := q3); rotate_left; (have hb9 := or3_in hk9 hp1 hp2 hp3))
    | ((with_reducible show LCg.CompRest _ _ _ _ _ _ _ (Expr.Call _ _ _ _) _ _ _ _ _ _ _ _ _ _ _); (with_reducible rename _ < (4 : Int) => q4); (refine rest_three (fun k y => ∃ b t, y = .bytes b t ∧ KBw.bInts b = hexL gr (k.fdiv 16) (Int.toNat 1) ∧ b.size ≤ 4) (.inl (by with_reducible assumption)) (fun k9 t9 I9 oI9 C9 oC9 D9 m9 ys9 h9 tk9 E9 hk9 hC9 hx9 F9 N9 off9 => ?_) (fun y1 y2 y3 q1 q2 q3 => ?_)); rotate_left; (obtain ⟨b1, t1, rfl, e1, z1⟩ := q1; obtain ⟨b2, t2, rfl, e2, z2⟩ := q2; obtain ⟨b3, t3, rfl, e3, z3⟩ := q3); rotate_left; (have hb9 := or3_in hk9 hp1 hp2 hp3))
    | ((with_reducible show LCg.CompRest _ _ _ _ _ _ _ (Expr.BinOp (Expr.BinOp _ Operator.FloorDiv (Expr.Constant (Const.int 16) _ _) _) Operator.Mult _ _) _ _ _ _ _ _ _ _ _ _ _); (with_reducible rename _ < (4 : Int) => q4); (refine rest_three (fun k y => ∃ t, y = .int (k.fdiv 16 * 16) t) (.inl (by with_reducible assumption)) (fun k9 t9 I9 oI9 C9 oC9 D9 m9 ys9 h9 tk9 E9 hk9 hC9 hx9 F9 N9 off9 => ?_) (fun y1 y2 y3 q1 q2 q3 => ?_)); rotate_left; (obtain ⟨t1, rfl⟩ := q1; obtain ⟨t2, rfl⟩ := q2; obtain ⟨t3, rfl⟩ := q3); rotate_left; (have hb9 := or3_in hk9 hp1 hp2 hp3))
    | ((with_reducible show LCg.CompRest _ _ _ _ _ _ _ (Expr.BinOp (Expr.BinOp _ Operator.FloorDiv (Expr.Constant (Const.int 17) _ _) _) Operator.Mult _ _) _ _ _ _ _ _ _ _ _ _ _); (with_reducible rename _ < (4 : Int) => q4); (refine rest_three (fun k y => ∃ t, y = .int (k.fdiv 17 * 17) t) (.inl (by with_reducible assumption)) (fun k9 t9 I9 oI9 C9 oC9 D9 m9 ys9 h9 tk9 E9 hk9 hC9 hx9 F9 N9 off9 => ?_) (fun y1 y2 y3 q1 q2 q3 => ?_)); rotate_left; (obtain ⟨t1, rfl⟩ := q1; obtain ⟨t2, rfl⟩ := q2; obtain ⟨t3, rfl⟩ := q3); rotate_left; (have hb9 := or3_in hk9 hp1 hp2 hp3))
    | ((with_reducible show RestOk _ _ _ _); first | exact ⟨_, _, _, rfl, restT (by assumption), rfl⟩ | exact ⟨_, _, _, rfl, restF (by assumption), rfl⟩)
    | (k_here; (with_reducible show wpAny _ _ (eval (Expr.IfExp (Expr.UnaryOp _ _ _) _ _ _) _) _ _ _); (fail_if_success (with_reducible show wpAny _ _ _ (fun v s' => RestOk _ _ v s') _ _)); (refine rest_cut gr ?_ (fun P9 t9 tk9 hP9 hz9 => ?_)); (try dsimp only))
    | (k_here; (with_reducible show wpAny _ _ (eval (Expr.Name _ _) (envOfC _ _ _ _ _)) _ _ _); (with_reducible rename News _ _ _ _ => kN); (with_reducible rename Fr _ _ _ _ => kF); k_dflt (first | (refine' nameX_L kF ?vz14 ?_ ?az14 ?bz14; (case bz14 => exact rfl); (case az14 => exact rfl); (case vz14 => exact rfl); k_whole) | (refine' nameX_C kN ?cz14 ?mz14 ?dz14 ?_ ?az14 ?bz14; (case bz14 => exact rfl); (case az14 => exact rfl); (case cz14 => exact rfl); (case mz14 => k_mem); (case dz14 => k_asm); k_whole) | (refine' nameX_K kF ?Xz14 ?Tz14 ?ez14 ?_ ?az14 ?bz14; (case bz14 => exact rfl); (case Xz14 => k_asm); (case Tz14 => k_asm); (case az14 => exact rfl); (case ez14 => k_is); k_whole) | (refine' nameX_B kF ?Xz14 ?Tz14 ?ez14 ?vz14 ?nz14 ?_ ?az14 ?bz14; (case bz14 => exact rfl); (case Xz14 => k_asm); (case Tz14 => k_asm); (case az14 => exact rfl); (case ez14 => k_is); (case vz14 => boot_fast); (case nz14 => decide); k_whole)))
    | (k_here; (with_reducible show wpAny _ _ (eval (Expr.Name _ _) (compEnvC _ _ _ _)) _ _ _); (with_reducible rename News _ _ _ _ => kN); (with_reducible rename Fr _ _ _ _ => kF); k_dflt (first | refine LCgL.ld_own kN (by k_mem) (by with_reducible assumption) (by with_reducible assumption) ?_ | refine kcf_cell kN (by exact rfl) (by k_mem) (by k_asm) ?_ | refine LCgL.ld_global kF (by k_asm) (by k_asm) (by k_is) ?_))
    | ((with_reducible show LCg.CompSrc _ _ _ _ _ _ _ _ _ _ _ _ _ _); (k_here; k_dflt (refine LCg.CompSrc.base (by rfl) (by k_asm) (by k_asm) (by with_reducible assumption) (by first | exact Nat.le_of_ble_eq_true rfl | size_fits) ?_; intro g'; lcg_lit)))
    | (k_here; (with_reducible show wpAny _ _ (call (Value.builtin "bytes.join") [Value.bytes _ _, Value.ref _]) _ _ _); k_dflt (refine' join_call ?q1z11 ?q2z11 ?q3z11 ?_; (case q1z11 => k_asm); (case q2z11 => k_mem); (case q3z11 => first | (refine' Nat.le_trans ?z1z11 ?z3z11; (case z1z11 => repeat' ((with_reducible show _ ≤ _); first | with_reducible assumption | with_reducible refine' szA ?_ ?_ | with_reducible refine' Nat.add_le_add ?_ ?_ | exact Nat.le_of_eq (by with_reducible assumption) | exact Nat.le_refl _)); (case z3z11 => exact Nat.le_of_ble_eq_true rfl)) | (simp only [Array.size_append, byteArr_size, List.length_cons, List.length_nil, List.size_toArray]; omega))); intro _ _)
    | ((with_reducible show wpAny _ _ (getMethod (Value.bytes _ _) _ _) _ _ _); (k_here; (with_reducible refine join_method ?_)))
    | (k_here; (with_reducible show wpAny _ _ (subscriptTail _ (Expr.Slice none (some _) none _) (Value.bytes _ _) (Value.ref _)) _ _ _); (with_reducible rename Fr _ _ _ _ => F'); (with_reducible rename News _ _ _ _ => N'); (refine slice_to (s := ⟨_, _, _, _, _⟩) (Int.toNat _) (Int.toNat_of_nonneg (nn2 (by assumption) (by assumption))).symm F' N' (by omega) ?_ (by with_unfolding_all rfl) (by intro _; with_unfolding_all rfl)); intro b9 h9 t9 tk9 F9 N9 e9 z9; (replace z9 : b9.size ≤ 2 := by omega))
    | (k_here; (with_reducible show wpAny _ _ (binaryOp Operator.Add (Value.bytes _ _) (Value.bytes _ _)) _ _ _); (refine' KBy.add_bytes ?z0z6 ?_; (case z0z6 => first | (refine' Nat.le_trans ?z1z6 ?z3z6; (case z1z6 => repeat' ((with_reducible show _ ≤ _); first | with_reducible assumption | with_reducible refine' szA ?_ ?_ | with_reducible refine' Nat.add_le_add ?_ ?_ | exact Nat.le_of_eq (by with_reducible assumption) | exact Nat.le_refl _)); (case z3z6 => exact Nat.le_of_ble_eq_true rfl)) | ((try simp only [Array.size_append, List.size_toArray, List.length_cons, List.length_nil]); omega)); k_whole); intro _ _)
    | (k_here; (with_reducible show wpAny _ _ (subscriptTail _ _ (Value.ref _) (Value.int (_ - 1) _)) _ _ _); k_dflt (refine' item4 ?q1z5 ?q2z5 ?q3z5 ?q4z5 ?q5z5 ?q6z5 ?q7z5 ?_ ?q8z5; (case q1z5 => is_list); (case q2z5 => exact (few1 (by assumption) (by assumption)).2.2.1); (case q3z5 => exact (few1 (by assumption) (by assumption)).2.2.2); (case q4z5 => exact (d17_in hd6).2.1); (case q5z5 => exact (d17_in hd6).2.2.1); (case q6z5 => exact (d17_in hd6).2.2.2.1); (case q7z5 => exact (d17_in hd6).2.2.2.2); (case q8z5 => with_unfolding_all rfl); k_whole); intro v9 t9 e9 v90 v91)
    | ((with_reducible show LCg.FinA _ _ _ _ _ _ _ _); ((unfold LCg.FinA); intro D' h' tk' F' N' o1'; (try simp only [List.nil_append, List.cons_append] at N'); (try dsimp only)))
    | ((with_reducible show LCg.FinE _ _ _ _ _ _ _); ((unfold LCg.FinE); intro D' h' tk' F' N' o1'; (try simp only [List.nil_append, List.cons_append] at N'); (try dsimp only)))
    | ((with_reducible show LCg.CompRest _ _ _ _ _ _ _ _ _ _ _ _ _ _ _ _ _ _ _); (with_unfolding_all (refine LCg.CompRest.succ ?_; intro v' I' oI' C' oC' D' m' h' tk' E' hv' hC' hx' F' N' off' ne'; clear ne'; (first | lcg_open hv' | (obtain ⟨t9', hv9'⟩ := hv'; subst hv9')))))
    | ((with_reducible show LCg.CompEnd _ _ _ _ _ _ _ _ _ _ _ _ _ _); (k_here; (with_reducible rename News _ _ _ _ => kN); (with_reducible rename Fr _ _ _ _ => kF); k_dflt (refine' LCg.CompEnd.intro kF kN _ (fun _ h => h) ?coz1 ?csz1 ?_; (case coz1 => first | with_reducible assumption | exact off3_same (by with_reducible assumption) (by exact rfl)); (case csz1 => lcg_src))))
    | (walk1; all_goals (try dsimp only))
    | (dsimp only; walk1)
    | (leave1; (try dsimp only)))
  · (with_reducible rename _ < (4 : Int) => q4)
    refine list3_ind (fun d y => ∃ v b t, y = .bytes b t ∧ v = nF (1 + lhsOf q4 - 1) (d.fdiv 17) d (d.fdiv 17 * 273) (d * 257) ∧ KBw.bInts b = hexL gr v (1 + lhsOf q4).toNat ∧ b.size ≤ 4) (ovt_start rfl rfl) (fun d td xs k vn vp r hd5 hx5 ih => ?_) (fun y1 y2 y3 k vn vp h1 h2 h3 => ?_)
    · have hd6 := or3_in hd5 (d17_in hp1).1 (d17_in hp2).1 (d17_in hp3).1
      repeat' (first
    | (k_unfold; (try dsimp only))
    | ((with_reducible show wpAny _ _ (execs (_ :: _) _) _ _ _); (try (k_here; ((with_reducible rename LCg.NsObj _ _ => hj); clear hj); (repeat ((with_reducible rename LCg.NsObj _ _ => hj); clear hj)); (repeat ((with_reducible rename LCg.Off3 _ _ _ _ => hj); clear hj)); (repeat ((with_reducible rename _[_]? = some _ => hj); clear hj)); (repeat ((with_reducible rename InElt _ _ => hj); clear hj)); (repeat ((with_reducible rename _ = some (Value.int _ _) => hj); clear hj)))); (try k_gentoks); (try k_fold); (try dsimp only); refine (let A9 : Around := _; (?_ : wpAny _ A9 _ _ _ _)); (with_reducible rename News _ _ _ _ => kN); (with_reducible rename Fr _ _ _ _ => kF); refine (let n9 : List (Addr × Obj) := _; let m9 : Str → Option Value := _; (fun (kN : News _ _ _ n9) (kF : Fr _ _ _ m9) => ?_) kN kF); refine wpAny_execs_cons ?_; (try dsimp only))
    | ((with_reducible show wpAny _ _ (call (Value.ref _) _) _ _ _); first | (k_here; (with_reducible show wpAny _ _ (call (Value.ref 157) [_, _, _]) _ _ _); k_dflt (refine' c_law_hex ?k0z9 ?k1z9 ?k2z9 ?k3z9 ?k4z9 ?k5z9 ?k6z9 ?k7z9 ?p0z9 ?p1z9 ?p2z9 ?p3z9 ?_; (case k0z9 => k_asm); (case k1z9 => k_asm); (case k2z9 => k_asm); (case k3z9 => k_asm); (case k4z9 => k_asm); (case k5z9 => first | exact rfl | assumption); (case k6z9 => first | exact dp_ok 0 hdp rfl | exact dp_ok 1 hdp rfl | exact dp_ok 2 hdp rfl | exact dp_ok 3 hdp rfl | ktr_room); (case k7z9 => first | exact un_ok hun rfl | exact un_ok0 hun rfl | ktr_units); (case p0z9 => first | with_reducible assumption | exact (d16_in (by assumption)).1 | omega); (case p1z9 => first | with_reducible assumption | exact (d16_in (by assumption)).2 | omega); (case p2z9 => first | decide | exact (few1 (by assumption) (by assumption)).1 | omega); (case p3z9 => first | decide | exact (few1 (by assumption) (by assumption)).2.1 | omega);  k_whole); intro b9 t9 h9 tk9 e9 F9 N9; have z9 := hex_sz4 e9 (by first | decide | exact (few1 (by assumption) (by assumption)).2.1 | omega); (try dsimp only); (try k_fold)) | (k_here; (with_reducible show wpAny _ _ (call (Value.ref 128) [_, _]) _ _ _); k_dflt (refine' c_drawU ?k0z8 ?k1z8 ?k2z8 ?k3z8 ?k4z8 ?k5z8 ?k6z8 ?k7z8 ?hdz8 ?hnez8 ?U1z8 ?U2z8 ?m0z8 ?m1z8 ?_; (case k0z8 => k_asm); (case k1z8 => k_asm); (case k2z8 => k_asm); (case k3z8 => k_asm); (case k4z8 => k_asm); (case k5z8 => first | exact rfl | assumption); (case k6z8 => first | exact dp_ok 0 hdp rfl | exact dp_ok 1 hdp rfl | exact dp_ok 2 hdp rfl | exact dp_ok 3 hdp rfl | ktr_room); (case k7z8 => first | exact un_ok hun rfl | exact un_ok0 hun rfl | ktr_units); (case hdz8 => assumption); (case hnez8 => first | assumption | k_ne); (case U1z8 => k_updF); (case U2z8 => (intro od'; k_updF)); (case m0z8 => decide); (case m1z8 => decide); k_whole); intro r9 t9 od9 ol9 h9 tk9 r0 r1 hd9 F9 N9; (try dsimp only at N9); (try dsimp only); (try k_fold)))
    | ((with_reducible show ListRest _ _ _ _ _ _ _ _ _ _ _ _ _ _ _); exact list_sub (list_at (ih _ _ _ _ ⟨_, _, _, rfl, by assumption, by assumption, by assumption⟩) ovt_back) (by kcf_all))
    | (k_here; (with_reducible show wpAny _ _ (call (Value.builtin "list.append") [Value.ref _, _]) _ _ _); (with_reducible rename News _ _ _ _ => kN); (with_reducible rename Fr _ _ _ _ => kF); k_dflt (refine' append_K kF kN ?Uz22 ?_ ?szz22; (case Uz22 => k_upd); (case szz22 => first | (rw [List.size_toArray, sizeLine_eq]; exact Nat.le_trans (m := 2) (by with_reducible assumption) (Nat.le_of_ble_eq_true rfl)) | (rw [List.size_toArray, sizeLine_eq]; omega))); intro h9 F9 N9; (try simp only [List.push_toArray] at N9))
    | ((with_reducible show TurnOk _ _ _ _ _ _ _ _ _); (with_reducible rename News _ _ _ _ => kN); (with_reducible rename Fr _ _ _ _ => kF); (refine ⟨?_, _, _, rfl, kF, kN⟩); first | exact ⟨_, rfl⟩ | exact ⟨_, _, rfl, by assumption, by assumption⟩ | exact ⟨_, _, _, rfl, by assumption, by assumption, by assumption, by assumption⟩)
    | ((with_reducible show LCg.CompRest _ _ _ _ _ _ _ (Expr.BinOp (Expr.Call _ _ _ _) Operator.Add _ _) _ _ _ _ _ _ _ _ _ _ _); (with_reducible rename _ < (4 : Int) => q4); (refine rest_three (fun k y => ∃ b c t, y = .bytes (b ++ c) t ∧ KBw.bInts b = hexL gr k (Int.toNat 2) ∧ b.size ≤ 4 ∧ KBw.bInts c = List.take (1 + lhsOf q4 - 2).toNat (KBw.bInts P9) ∧ c.size ≤ 2) (.inl (by with_reducible assumption)) (fun k9 t9 I9 oI9 C9 oC9 D9 m9 ys9 h9 tk9 E9 hk9 hC9 hx9 F9 N9 off9 => ?_) (fun y1 y2 y3 q1 q2 q3 => ?_)); rotate_left; (obtain ⟨b1, c1, t1, rfl, e1, z1, f1, g1⟩ := q1; obtain ⟨b2, c2, t2, rfl, e2, z2, f2, g2⟩ := q2; obtain ⟨b3, c3, t3, rfl, e3, z3, f3, g3⟩ := q3); rotate_left; (have hb9 := or3_in hk9 hp1 hp2 hp3))
    | ((with_reducible show LCg.CompRest _ _ _ _ _ _ _ (Expr.Call _ _ _ _) _ _ _ _ _ _ _ _ _ _ _); (with_reducible rename _ < (4 : Int) => q4); (refine rest_three (fun k y => ∃ b t, y = .bytes b t ∧ KBw.bInts b = hexL gr (k.fdiv 16) (Int.toNat 1) ∧ b.size ≤ 4) (.inl (by with_reducible assumption)) (fun k9 t9 I9 oI9 C9 oC9 D9 m9 ys9 h9 tk9 E9 hk9 hC9 hx9 F9 N9 off9 => ?_) (fun y1 y2 y3 q1 q2 q3 => ?_)); rotate_left; (obtain ⟨b1, t1, rfl, e1, z1⟩ := q1; obtain ⟨b2, t2, rfl, e2, z2⟩ := q2; obtain ⟨b3, t3, rfl, e3, z3⟩ := q3); rotate_left; (have hb9 := or3_in hk9 hp1 hp2 hp3))
    | ((with_reducible show LCg.CompRest _ _ _ _ _ _ _ (Expr.BinOp (Expr.BinOp _ Operator.FloorDiv (Expr.Constant (Const.int 16) _ _) _) Operator.Mult _ _) _ _ _ _ _ _ _ _ _ _ _); (with_reducible rename _ < (4 : Int) => q4); (refine rest_three (fun k y => ∃ t, y = .int (k.fdiv 16 * 16) t) (.inl (by with_reducible assumption)) (fun k9 t9 I9 oI9 C9 oC9 D9 m9 ys9 h9 tk9 E9 hk9 hC9 hx9 F9 N9 off9 => ?_) (fun y1 y2 y3 q1 q2 q3 => ?_)); rotate_left; (obtain ⟨t1, rfl⟩ := q1; obtain ⟨t2, rfl⟩ := q2; obtain ⟨t3, rfl⟩ := q3); rotate_left; (have hb9 := or3_in hk9 hp1 hp2 hp3))
    | ((with_reducible show LCg.CompRest _ _ _ _ _ _ _ (Expr.BinOp (Expr.BinOp _ Operator.FloorDiv (Expr.Constant (Const.int 17) _ _) _) Operator.Mult _ _) _ _ _ _ _ _ _ _ _ _ _); (with_reducible rename _ < (4 : Int) => q4); (refine rest_three (fun k y => ∃ t, y = .int (k.fdiv 17 * 17) t) (.inl (by with_reducible assumption)) (fun k9 t9 I9 oI9 C9 oC9 D9 m9 ys9 h9 tk9 E9 hk9 hC9 hx9 F9 N9 off9 => ?_) (fun y1 y2 y3 q1 q2 q3 => ?_)); rotate_left; (obtain ⟨t1, rfl⟩ := q1; obtain ⟨t2, rfl⟩ := q2; obtain ⟨t3, rfl⟩ := q3); rotate_left; (have hb9 := or3_in hk9 hp1 hp2 hp3))
    | ((with_reducible show RestOk _ _ _ _); first | exact ⟨_, _, _, rfl, restT (by assumption), rfl⟩ | exact ⟨_, _, _, rfl, restF (by assumption), rfl⟩)
    | (k_here; (with_reducible show wpAny _ _ (eval (Expr.IfExp (Expr.UnaryOp _ _ _) _ _ _) _) _ _ _); (fail_if_success (with_reducible show wpAny _ _ _ (fun v s' => RestOk _ _ v s') _ _)); (refine rest_cut gr ?_ (fun P9 t9 tk9 hP9 hz9 => ?_)); (try dsimp only))
    | (k_here; (with_reducible show wpAny _ _ (eval (Expr.Name _ _) (envOfC _ _ _ _ _)) _ _ _); (with_reducible rename News _ _ _ _ => kN); (with_reducible rename Fr _ _ _ _ => kF); k_dflt (first | (refine' nameX_L kF ?vz14 ?_ ?az14 ?bz14; (case bz14 => exact rfl); (case az14 => exact rfl); (case vz14 => exact rfl); k_whole) | (refine' nameX_C kN ?cz14 ?mz14 ?dz14 ?_ ?az14 ?bz14; (case bz14 => exact rfl); (case az14 => exact rfl); (case cz14 => exact rfl); (case mz14 => k_mem); (case dz14 => k_asm); k_whole) | (refine' nameX_K kF ?Xz14 ?Tz14 ?ez14 ?_ ?az14 ?bz14; (case bz14 => exact rfl); (case Xz14 => k_asm); (case Tz14 => k_asm); (case az14 => exact rfl); (case ez14 => k_is); k_whole) | (refine' nameX_B kF ?Xz14 ?Tz14 ?ez14 ?vz14 ?nz14 ?_ ?az14 ?bz14; (case bz14 => exact rfl); (case Xz14 => k_asm); (case Tz14 => k_asm); (case az14 => exact rfl); (case ez14 => k_is); (case vz14 => boot_fast); (case nz14 => decide); k_whole)))
    | (k_here; (with_reducible show wpAny _ _ (eval (Expr.Name _ _) (compEnvC _ _ _ _)) _ _ _); (with_reducible rename News _ _ _ _ => kN); (with_reducible rename Fr _ _ _ _ => kF); k_dflt (first | refine LCgL.ld_own kN (by k_mem) (by with_reducible assumption) (by with_reducible assumption) ?_ | refine kcf_cell kN (by exact rfl) (by k_mem) (by k_asm) ?_ | refine LCgL.ld_global kF (by k_asm) (by k_asm) (by k_is) ?_))
    | ((with_reducible show LCg.CompSrc _ _ _ _ _ _ _ _ _ _ _ _ _ _); (k_here; k_dflt (refine LCg.CompSrc.base (by rfl) (by k_asm) (by k_asm) (by with_reducible assumption) (by first | exact Nat.le_of_ble_eq_true rfl | size_fits) ?_; intro g'; lcg_lit)))
    | (k_here; (with_reducible show wpAny _ _ (call (Value.builtin "bytes.join") [Value.bytes _ _, Value.ref _]) _ _ _); k_dflt (refine' join_call ?q1z11 ?q2z11 ?q3z11 ?_; (case q1z11 => k_asm); (case q2z11 => k_mem); (case q3z11 => first | (refine' Nat.le_trans ?z1z11 ?z3z11; (case z1z11 => repeat' ((with_reducible show _ ≤ _); first | with_reducible assumption | with_reducible refine' szA ?_ ?_ | with_reducible refine' Nat.add_le_add ?_ ?_ | exact Nat.le_of_eq (by with_reducible assumption) | exact Nat.le_refl _)); (case z3z11 => exact Nat.le_of_ble_eq_true rfl)) | (simp only [Array.size_append, byteArr_size, List.length_cons, List.length_nil, List.size_toArray]; omega))); intro _ _)
    | ((with_reducible show wpAny _ _ (getMethod (Value.bytes _ _) _ _) _ _ _); (k_here; (with_reducible refine join_method ?_)))
    | (k_here; (with_reducible show wpAny _ _ (subscriptTail _ (Expr.Slice none (some _) none _) (Value.bytes _ _) (Value.ref _)) _ _ _); (with_reducible rename Fr _ _ _ _ => F'); (with_reducible rename News _ _ _ _ => N'); (refine slice_to (s := ⟨_, _, _, _, _⟩) (Int.toNat _) (Int.toNat_of_nonneg (nn2 (by assumption) (by assumption))).symm F' N' (by omega) ?_ (by with_unfolding_all rfl) (by intro _; with_unfolding_all rfl)); intro b9 h9 t9 tk9 F9 N9 e9 z9; (replace z9 : b9.size ≤ 2 := by omega))
    | (k_here; (with_reducible show wpAny _ _ (binaryOp Operator.Add (Value.bytes _ _) (Value.bytes _ _)) _ _ _); (refine' KBy.add_bytes ?z0z6 ?_; (case z0z6 => first | (refine' Nat.le_trans ?z1z6 ?z3z6; (case z1z6 => repeat' ((with_reducible show _ ≤ _); first | with_reducible assumption | with_reducible refine' szA ?_ ?_ | with_reducible refine' Nat.add_le_add ?_ ?_ | exact Nat.le_of_eq (by with_reducible assumption) | exact Nat.le_refl _)); (case z3z6 => exact Nat.le_of_ble_eq_true rfl)) | ((try simp only [Array.size_append, List.size_toArray, List.length_cons, List.length_nil]); omega)); k_whole); intro _ _)
    | (k_here; (with_reducible show wpAny _ _ (subscriptTail _ _ (Value.ref _) (Value.int (_ - 1) _)) _ _ _); k_dflt (refine' item4 ?q1z5 ?q2z5 ?q3z5 ?q4z5 ?q5z5 ?q6z5 ?q7z5 ?_ ?q8z5; (case q1z5 => is_list); (case q2z5 => exact (few1 (by assumption) (by assumption)).2.2.1); (case q3z5 => exact (few1 (by assumption) (by assumption)).2.2.2); (case q4z5 => exact (d17_in hd6).2.1); (case q5z5 => exact (d17_in hd6).2.2.1); (case q6z5 => exact (d17_in hd6).2.2.2.1); (case q7z5 => exact (d17_in hd6).2.2.2.2); (case q8z5 => with_unfolding_all rfl); k_whole); intro v9 t9 e9 v90 v91)
    | ((with_reducible show LCg.FinA _ _ _ _ _ _ _ _); ((unfold LCg.FinA); intro D' h' tk' F' N' o1'; (try simp only [List.nil_append, List.cons_append] at N'); (try dsimp only)))
    | ((with_reducible show LCg.FinE _ _ _ _ _ _ _); ((unfold LCg.FinE); intro D' h' tk' F' N' o1'; (try simp only [List.nil_append, List.cons_append] at N'); (try dsimp only)))
    | ((with_reducible show LCg.CompRest _ _ _ _ _ _ _ _ _ _ _ _ _ _ _ _ _ _ _); (with_unfolding_all (refine LCg.CompRest.succ ?_; intro v' I' oI' C' oC' D' m' h' tk' E' hv' hC' hx' F' N' off' ne'; clear ne'; (first | lcg_open hv' | (obtain ⟨t9', hv9'⟩ := hv'; subst hv9')))))
    | ((with_reducible show LCg.CompEnd _ _ _ _ _ _ _ _ _ _ _ _ _ _); (k_here; (with_reducible rename News _ _ _ _ => kN); (with_reducible rename Fr _ _ _ _ => kF); k_dflt (refine' LCg.CompEnd.intro kF kN _ (fun _ h => h) ?coz1 ?csz1 ?_; (case coz1 => first | with_reducible assumption | exact off3_same (by with_reducible assumption) (by exact rfl)); (case csz1 => lcg_src))))
    | (walk1; all_goals (try dsimp only))
    | (dsimp only; walk1)
    | (leave1; (try dsimp only)))
    · obtain ⟨v1, b1, t1, rfl, q1, e1, z1⟩ := h1
      obtain ⟨v2, b2, t2, rfl, q2, e2, z2⟩ := h2
      obtain ⟨v3, b3, t3, rfl, q3, e3, z3⟩ := h3
      repeat' (first
    | (k_unfold; (try dsimp only))
    | ((with_reducible show wpAny _ _ (execs (_ :: _) _) _ _ _); (try (k_here; ((with_reducible rename LCg.NsObj _ _ => hj); clear hj); (repeat ((with_reducible rename LCg.NsObj _ _ => hj); clear hj)); (repeat ((with_reducible rename LCg.Off3 _ _ _ _ => hj); clear hj)); (repeat ((with_reducible rename _[_]? = some _ => hj); clear hj)); (repeat ((with_reducible rename InElt _ _ => hj); clear hj)); (repeat ((with_reducible rename _ = some (Value.int _ _) => hj); clear hj)))); (try k_gentoks); (try k_fold); (try dsimp only); refine (let A9 : Around := _; (?_ : wpAny _ A9 _ _ _ _)); (with_reducible rename News _ _ _ _ => kN); (with_reducible rename Fr _ _ _ _ => kF); refine (let n9 : List (Addr × Obj) := _; let m9 : Str → Option Value := _; (fun (kN : News _ _ _ n9) (kF : Fr _ _ _ m9) => ?_) kN kF); refine wpAny_execs_cons ?_; (try dsimp only))
    | ((with_reducible show wpAny _ _ (call (Value.ref _) _) _ _ _); first | (k_here; (with_reducible show wpAny _ _ (call (Value.ref 157) [_, _, _]) _ _ _); k_dflt (refine' c_law_hex ?k0z9 ?k1z9 ?k2z9 ?k3z9 ?k4z9 ?k5z9 ?k6z9 ?k7z9 ?p0z9 ?p1z9 ?p2z9 ?p3z9 ?_; (case k0z9 => k_asm); (case k1z9 => k_asm); (case k2z9 => k_asm); (case k3z9 => k_asm); (case k4z9 => k_asm); (case k5z9 => first | exact rfl | assumption); (case k6z9 => first | exact dp_ok 0 hdp rfl | exact dp_ok 1 hdp rfl | exact dp_ok 2 hdp rfl | exact dp_ok 3 hdp rfl | ktr_room); (case k7z9 => first | exact un_ok hun rfl | exact un_ok0 hun rfl | ktr_units); (case p0z9 => first | with_reducible assumption | exact (d16_in (by assumption)).1 | omega); (case p1z9 => first | with_reducible assumption | exact (d16_in (by assumption)).2 | omega); (case p2z9 => first | decide | exact (few1 (by assumption) (by assumption)).1 | omega); (case p3z9 => first | decide | exact (few1 (by assumption) (by assumption)).2.1 | omega);  k_whole); intro b9 t9 h9 tk9 e9 F9 N9; have z9 := hex_sz4 e9 (by first | decide | exact (few1 (by assumption) (by assumption)).2.1 | omega); (try dsimp only); (try k_fold)) | (k_here; (with_reducible show wpAny _ _ (call (Value.ref 128) [_, _]) _ _ _); k_dflt (refine' c_drawU ?k0z8 ?k1z8 ?k2z8 ?k3z8 ?k4z8 ?k5z8 ?k6z8 ?k7z8 ?hdz8 ?hnez8 ?U1z8 ?U2z8 ?m0z8 ?m1z8 ?_; (case k0z8 => k_asm); (case k1z8 => k_asm); (case k2z8 => k_asm); (case k3z8 => k_asm); (case k4z8 => k_asm); (case k5z8 => first | exact rfl | assumption); (case k6z8 => first | exact dp_ok 0 hdp rfl | exact dp_ok 1 hdp rfl | exact dp_ok 2 hdp rfl | exact dp_ok 3 hdp rfl | ktr_room); (case k7z8 => first | exact un_ok hun rfl | exact un_ok0 hun rfl | ktr_units); (case hdz8 => assumption); (case hnez8 => first | assumption | k_ne); (case U1z8 => k_updF); (case U2z8 => (intro od'; k_updF)); (case m0z8 => decide); (case m1z8 => decide); k_whole); intro r9 t9 od9 ol9 h9 tk9 r0 r1 hd9 F9 N9; (try dsimp only at N9); (try dsimp only); (try k_fold)))
    | ((with_reducible show ListRest _ _ _ _ _ _ _ _ _ _ _ _ _ _ _); exact list_sub (list_at (ih _ _ _ _ ⟨_, _, _, rfl, by assumption, by assumption, by assumption⟩) ovt_back) (by kcf_all))
    | (k_here; (with_reducible show wpAny _ _ (call (Value.builtin "list.append") [Value.ref _, _]) _ _ _); (with_reducible rename News _ _ _ _ => kN); (with_reducible rename Fr _ _ _ _ => kF); k_dflt (refine' append_K kF kN ?Uz22 ?_ ?szz22; (case Uz22 => k_upd); (case szz22 => first | (rw [List.size_toArray, sizeLine_eq]; exact Nat.le_trans (m := 2) (by with_reducible assumption) (Nat.le_of_ble_eq_true rfl)) | (rw [List.size_toArray, sizeLine_eq]; omega))); intro h9 F9 N9; (try simp only [List.push_toArray] at N9))
    | ((with_reducible show TurnOk _ _ _ _ _ _ _ _ _); (with_reducible rename News _ _ _ _ => kN); (with_reducible rename Fr _ _ _ _ => kF); (refine ⟨?_, _, _, rfl, kF, kN⟩); first | exact ⟨_, rfl⟩ | exact ⟨_, _, rfl, by assumption, by assumption⟩ | exact ⟨_, _, _, rfl, by assumption, by assumption, by assumption, by assumption⟩)
    | ((with_reducible show LCg.CompRest _ _ _ _ _ _ _ (Expr.BinOp (Expr.Call _ _ _ _) Operator.Add _ _) _ _ _ _ _ _ _ _ _ _ _); (with_reducible rename _ < (4 : Int) => q4); (refine rest_three (fun k y => ∃ b c t, y = .bytes (b ++ c) t ∧ KBw.bInts b = hexL gr k (Int.toNat 2) ∧ b.size ≤ 4 ∧ KBw.bInts c = List.take (1 + lhsOf q4 - 2).toNat (KBw.bInts P9) ∧ c.size ≤ 2) (.inl (by with_reducible assumption)) (fun k9 t9 I9 oI9 C9 oC9 D9 m9 ys9 h9 tk9 E9 hk9 hC9 hx9 F9 N9 off9 => ?_) (fun y1 y2 y3 q1 q2 q3 => ?_)); rotate_left; (obtain ⟨b1, c1, t1, rfl, e1, z1, f1, g1⟩ := q1; obtain ⟨b2, c2, t2, rfl, e2, z2, f2, g2⟩ := q2; obtain ⟨b3, c3, t3, rfl, e3, z3, f3, g3⟩ := q3); rotate_left; (have hb9 := or3_in hk9 hp1 hp2 hp3))
    | ((with_reducible show LCg.CompRest _ _ _ _ _ _ _ (Expr.Call _ _ _ _) _ _ _ _ _ _ _ _ _ _ _); (with_reducible rename _ < (4 : Int) => q4); (refine rest_three (fun k y => ∃ b t, y = .bytes b t ∧ KBw.bInts b = hexL gr (k.fdiv 16) (Int.toNat 1) ∧ b.size ≤ 4) (.inl (by with_reducible assumption)) (fun k9 t9 I9 oI9 C9 oC9 D9 m9 ys9 h9 tk9 E9 hk9 hC9 hx9 F9 N9 off9 => ?_) (fun y1 y2 y3 q1 q2 q3 => ?_)); rotate_left; (obtain ⟨b1, t1, rfl, e1, z1⟩ := q1; obtain ⟨b2, t2, rfl, e2, z2⟩ := q2; obtain ⟨b3, t3, rfl, e3, z3⟩ := q3); rotate_left; (have hb9 := or3_in hk9 hp1 hp2 hp3))
    | ((with_reducible show LCg.CompRest _ _ _ _ _ _ _ (Expr.BinOp (Expr.BinOp _ Operator.FloorDiv (Expr.Constant (Const.int 16) _ _) _) Operator.Mult _ _) _ _ _ _ _ _ _ _ _ _ _); (with_reducible rename _ < (4 : Int) => q4); (refine rest_three (fun k y => ∃ t, y = .int (k.fdiv 16 * 16) t) (.inl (by with_reducible assumption)) (fun k9 t9 I9 oI9 C9 oC9 D9 m9 ys9 h9 tk9 E9 hk9 hC9 hx9 F9 N9 off9 => ?_) (fun y1 y2 y3 q1 q2 q3 => ?_)); rotate_left; (obtain ⟨t1, rfl⟩ := q1; obtain ⟨t2, rfl⟩ := q2; obtain ⟨t3, rfl⟩ := q3); rotate_left; (have hb9 := or3_in hk9 hp1 hp2 hp3))
    | ((with_reducible show LCg.CompRest _ _ _ _ _ _ _ (Expr.BinOp (Expr.BinOp _ Operator.FloorDiv (Expr.Constant (Const.int 17) _ _) _) Operator.Mult _ _) _ _ _ _ _ _ _ _ _ _ _); (with_reducible rename _ < (4 : Int) => q4); (refine rest_three (fun k y => ∃ t, y = .int (k.fdiv 17 * 17) t) (.inl (by with_reducible assumption)) (fun k9 t9 I9 oI9 C9 oC9 D9 m9 ys9 h9 tk9 E9 hk9 hC9 hx9 F9 N9 off9 => ?_) (fun y1 y2 y3 q1 q2 q3 => ?_)); rotate_left; (obtain ⟨t1, rfl⟩ := q1; obtain ⟨t2, rfl⟩ := q2; obtain ⟨t3, rfl⟩ := q3); rotate_left; (have hb9 := or3_in hk9 hp1 hp2 hp3))
    | ((with_reducible show RestOk _ _ _ _); first | exact ⟨_, _, _, rfl, restT (by assumption), rfl⟩ | exact ⟨_, _, _, rfl, restF (by assumption), rfl⟩)
    | (k_here; (with_reducible show wpAny _ _ (eval (Expr.IfExp (Expr.UnaryOp _ _ _) _ _ _) _) _ _ _); (fail_if_success (with_reducible show wpAny _ _ _ (fun v s' => RestOk _ _ v s') _ _)); (refine rest_cut gr ?_ (fun P9 t9 tk9 hP9 hz9 => ?_)); (try dsimp only))
    | (k_here; (with_reducible show wpAny _ _ (eval (Expr.Name _ _) (envOfC _ _ _ _ _)) _ _ _); (with_reducible rename News _ _ _ _ => kN); (with_reducible rename Fr _ _ _ _ => kF); k_dflt (first | (refine' nameX_L kF ?vz14 ?_ ?az14 ?bz14; (case bz14 => exact rfl); (case az14 => exact rfl); (case vz14 => exact rfl); k_whole) | (refine' nameX_C kN ?cz14 ?mz14 ?dz14 ?_ ?az14 ?bz14; (case bz14 => exact rfl); (case az14 => exact rfl); (case cz14 => exact rfl); (case mz14 => k_mem); (case dz14 => k_asm); k_whole) | (refine' nameX_K kF ?Xz14 ?Tz14 ?ez14 ?_ ?az14 ?bz14; (case bz14 => exact rfl); (case Xz14 => k_asm); (case Tz14 => k_asm); (case az14 => exact rfl); (case ez14 => k_is); k_whole) | (refine' nameX_B kF ?Xz14 ?Tz14 ?ez14 ?vz14 ?nz14 ?_ ?az14 ?bz14; (case bz14 => exact rfl); (case Xz14 => k_asm); (case Tz14 => k_asm); (case az14 => exact rfl); (case ez14 => k_is); (case vz14 => boot_fast); (case nz14 => decide); k_whole)))
    | (k_here; (with_reducible show wpAny _ _ (eval (Expr.Name _ _) (compEnvC _ _ _ _)) _ _ _); (with_reducible rename News _ _ _ _ => kN); (with_reducible rename Fr _ _ _ _ => kF); k_dflt (first | refine LCgL.ld_own kN (by k_mem) (by with_reducible assumption) (by with_reducible assumption) ?_ | refine kcf_cell kN (by exact rfl) (by k_mem) (by k_asm) ?_ | refine LCgL.ld_global kF (by k_asm) (by k_asm) (by k_is) ?_))
    | ((with_reducible show LCg.CompSrc _ _ _ _ _ _ _ _ _ _ _ _ _ _); (k_here; k_dflt (refine LCg.CompSrc.base (by rfl) (by k_asm) (by k_asm) (by with_reducible assumption) (by first | exact Nat.le_of_ble_eq_true rfl | size_fits) ?_; intro g'; lcg_lit)))
    | (k_here; (with_reducible show wpAny _ _ (call (Value.builtin "bytes.join") [Value.bytes _ _, Value.ref _]) _ _ _); k_dflt (refine' join_call ?q1z11 ?q2z11 ?q3z11 ?_; (case q1z11 => k_asm); (case q2z11 => k_mem); (case q3z11 => first | (refine' Nat.le_trans ?z1z11 ?z3z11; (case z1z11 => repeat' ((with_reducible show _ ≤ _); first | with_reducible assumption | with_reducible refine' szA ?_ ?_ | with_reducible refine' Nat.add_le_add ?_ ?_ | exact Nat.le_of_eq (by with_reducible assumption) | exact Nat.le_refl _)); (case z3z11 => exact Nat.le_of_ble_eq_true rfl)) | (simp only [Array.size_append, byteArr_size, List.length_cons, List.length_nil, List.size_toArray]; omega))); intro _ _)
    | ((with_reducible show wpAny _ _ (getMethod (Value.bytes _ _) _ _) _ _ _); (k_here; (with_reducible refine join_method ?_)))
    | (k_here; (with_reducible show wpAny _ _ (subscriptTail _ (Expr.Slice none (some _) none _) (Value.bytes _ _) (Value.ref _)) _ _ _); (with_reducible rename Fr _ _ _ _ => F'); (with_reducible rename News _ _ _ _ => N'); (refine slice_to (s := ⟨_, _, _, _, _⟩) (Int.toNat _) (Int.toNat_of_nonneg (nn2 (by assumption) (by assumption))).symm F' N' (by omega) ?_ (by with_unfolding_all rfl) (by intro _; with_unfolding_all rfl)); intro b9 h9 t9 tk9 F9 N9 e9 z9; (replace z9 : b9.size ≤ 2 := by omega))
    | (k_here; (with_reducible show wpAny _ _ (binaryOp Operator.Add (Value.bytes _ _) (Value.bytes _ _)) _ _ _); (refine' KBy.add_bytes ?z0z6 ?_; (case z0z6 => first | (refine' Nat.le_trans ?z1z6 ?z3z6; (case z1z6 => repeat' ((with_reducible show _ ≤ _); first | with_reducible assumption | with_reducible refine' szA ?_ ?_ | with_reducible refine' Nat.add_le_add ?_ ?_ | exact Nat.le_of_eq (by with_reducible assumption) | exact Nat.le_refl _)); (case z3z6 => exact Nat.le_of_ble_eq_true rfl)) | ((try simp only [Array.size_append, List.size_toArray, List.length_cons, List.length_nil]); omega)); k_whole); intro _ _)
    | (k_here; (with_reducible show wpAny _ _ (subscriptTail _ _ (Value.ref _) (Value.int (_ - 1) _)) _ _ _); k_dflt (refine' item4 ?q1z5 ?q2z5 ?q3z5 ?q4z5 ?q5z5 ?q6z5 ?q7z5 ?_ ?q8z5; (case q1z5 => is_list); (case q2z5 => exact (few1 (by assumption) (by assumption)).2.2.1); (case q3z5 => exact (few1 (by assumption) (by assumption)).2.2.2); (case q4z5 => exact (d17_in hd6).2.1); (case q5z5 => exact (d17_in hd6).2.2.1); (case q6z5 => exact (d17_in hd6).2.2.2.1); (case q7z5 => exact (d17_in hd6).2.2.2.2); (case q8z5 => with_unfolding_all rfl); k_whole); intro v9 t9 e9 v90 v91)
    | ((with_reducible show LCg.FinA _ _ _ _ _ _ _ _); ((unfold LCg.FinA); intro D' h' tk' F' N' o1'; (try simp only [List.nil_append, List.cons_append] at N'); (try dsimp only)))
    | ((with_reducible show LCg.FinE _ _ _ _ _ _ _); ((unfold LCg.FinE); intro D' h' tk' F' N' o1'; (try simp only [List.nil_append, List.cons_append] at N'); (try dsimp only)))
    | ((with_reducible show LCg.CompRest _ _ _ _ _ _ _ _ _ _ _ _ _ _ _ _ _ _ _); (with_unfolding_all (refine LCg.CompRest.succ ?_; intro v' I' oI' C' oC' D' m' h' tk' E' hv' hC' hx' F' N' off' ne'; clear ne'; (first | lcg_open hv' | (obtain ⟨t9', hv9'⟩ := hv'; subst hv9')))))
    | ((with_reducible show LCg.CompEnd _ _ _ _ _ _ _ _ _ _ _ _ _ _); (k_here; (with_reducible rename News _ _ _ _ => kN); (with_reducible rename Fr _ _ _ _ => kF); k_dflt (refine' LCg.CompEnd.intro kF kN _ (fun _ h => h) ?coz1 ?csz1 ?_; (case coz1 => first | with_reducible assumption | exact off3_same (by with_reducible assumption) (by exact rfl)); (case csz1 => lcg_src))))
    | (walk1; all_goals (try dsimp only))
    | (dsimp only; walk1)
    | (leave1; (try dsimp only)))
      ((with_reducible rename News _ _ _ _ => kR); (with_reducible rename News _ _ _ (_ :: _ :: _ :: _ :: _) => kN); refine' hret _ _ _ _ _ _ _ _ _ _ _ _ _ _ _ _ ?hte0 (told_sz ?hte0) ?hde0 ?f1e0 ?f2e0 ?f3e0 ?f4e0 ?hFe0 (news_cons (news_one kN ?m1e0) (news_cons (news_one kN ?m2e0) (news_cons (news_one kN ?m3e0) (news_cons (news_one kN ?m4e0) kR)))); (case m1e0 => k_mem); (case m2e0 => k_mem); (case m3e0 => k_mem); (case m4e0 => k_mem); (case hde0 => assumption); (case hFe0 => k_asm); (case f1e0 => k_ne); (case f2e0 => k_ne); (case f3e0 => k_ne); (case f4e0 => k_ne); (case hte0 => first | (with_reducible refine' end_rgb ?r0e0 ?r1e0 hp1 hp2 hp3 (preT ?hge0) ?e1e0 ?e2e0 ?e3e0 ?q1e0 ?q2e0 ?q3e0; (case e1e0 => assumption); (case e2e0 => assumption); (case e3e0 => assumption); (case q1e0 => assumption); (case q2e0 => assumption); (case q3e0 => assumption); (case r0e0 => assumption); (case r1e0 => assumption); (try (case hge0 => assumption))) | (with_reducible refine' end_rgb ?r0e0 ?r1e0 hp1 hp2 hp3 (preF ?hge0) ?e1e0 ?e2e0 ?e3e0 ?q1e0 ?q2e0 ?q3e0; (case e1e0 => assumption); (case e2e0 => assumption); (case e3e0 => assumption); (case q1e0 => assumption); (case q2e0 => assumption); (case q3e0 => assumption); (case r0e0 => assumption); (case r1e0 => assumption); (try (case hge0 => assumption))) | (with_reducible refine' end_one ?r0e0 ?r1e0 hp1 hp2 hp3 ?hre0 ?e1e0 ?e2e0 ?e3e0; (case hre0 => assumption); (case e1e0 => assumption); (case e2e0 => assumption); (case e3e0 => assumption); (case r0e0 => assumption); (case r1e0 => assumption); (try (case hge0 => assumption))) | (with_reducible refine' end_two ?r0e0 ?r1e0 hp1 hp2 hp3 ?hre0 ?hge0 ?e1e0 ?e2e0 ?e3e0 ?f1e0 ?f2e0 ?f3e0; (case hre0 => assumption); (case e1e0 => assumption); (case e2e0 => assumption); (case e3e0 => assumption); (case f1e0 => assumption); (case f2e0 => assumption); (case f3e0 => assumption); (case r0e0 => assumption); (case r1e0 => assumption); (case hge0 => assumption))))
      ((with_reducible rename News _ _ _ _ => kR); (with_reducible rename News _ _ _ (_ :: _ :: _ :: _ :: _) => kN); refine' hret _ _ _ _ _ _ _ _ _ _ _ _ _ _ _ _ ?hte1 (told_sz ?hte1) ?hde1 ?f1e1 ?f2e1 ?f3e1 ?f4e1 ?hFe1 (news_cons (news_one kN ?m1e1) (news_cons (news_one kN ?m2e1) (news_cons (news_one kN ?m3e1) (news_cons (news_one kN ?m4e1) kR)))); (case m1e1 => k_mem); (case m2e1 => k_mem); (case m3e1 => k_mem); (case m4e1 => k_mem); (case hde1 => assumption); (case hFe1 => k_asm); (case f1e1 => k_ne); (case f2e1 => k_ne); (case f3e1 => k_ne); (case f4e1 => k_ne); (case hte1 => first | (with_reducible refine' end_rgb ?r0e1 ?r1e1 hp1 hp2 hp3 (preT ?hge1) ?e1e1 ?e2e1 ?e3e1 ?q1e1 ?q2e1 ?q3e1; (case e1e1 => assumption); (case e2e1 => assumption); (case e3e1 => assumption); (case q1e1 => assumption); (case q2e1 => assumption); (case q3e1 => assumption); (case r0e1 => assumption); (case r1e1 => assumption); (try (case hge1 => assumption))) | (with_reducible refine' end_rgb ?r0e1 ?r1e1 hp1 hp2 hp3 (preF ?hge1) ?e1e1 ?e2e1 ?e3e1 ?q1e1 ?q2e1 ?q3e1; (case e1e1 => assumption); (case e2e1 => assumption); (case e3e1 => assumption); (case q1e1 => assumption); (case q2e1 => assumption); (case q3e1 => assumption); (case r0e1 => assumption); (case r1e1 => assumption); (try (case hge1 => assumption))) | (with_reducible refine' end_one ?r0e1 ?r1e1 hp1 hp2 hp3 ?hre1 ?e1e1 ?e2e1 ?e3e1; (case hre1 => assumption); (case e1e1 => assumption); (case e2e1 => assumption); (case e3e1 => assumption); (case r0e1 => assumption); (case r1e1 => assumption); (try (case hge1 => assumption))) | (with_reducible refine' end_two ?r0e1 ?r1e1 hp1 hp2 hp3 ?hre1 ?hge1 ?e1e1 ?e2e1 ?e3e1 ?f1e1 ?f2e1 ?f3e1; (case hre1 => assumption); (case e1e1 => assumption); (case e2e1 => assumption); (case e3e1 => assumption); (case f1e1 => assumption); (case f2e1 => assumption); (case f3e1 => assumption); (case r0e1 => assumption); (case r1e1 => assumption); (case hge1 => assumption))))
  ((with_reducible rename News _ _ _ _ => kR); (with_reducible rename News _ _ _ (_ :: _ :: _ :: _ :: _) => kN); refine' hret _ _ _ _ _ _ _ _ _ _ _ _ _ _ _ _ ?hte2 (told_sz ?hte2) ?hde2 ?f1e2 ?f2e2 ?f3e2 ?f4e2 ?hFe2 (news_cons (news_one kN ?m1e2) (news_cons (news_one kN ?m2e2) (news_cons (news_one kN ?m3e2) (news_cons (news_one kN ?m4e2) kR)))); (case m1e2 => k_mem); (case m2e2 => k_mem); (case m3e2 => k_mem); (case m4e2 => k_mem); (case hde2 => assumption); (case hFe2 => k_asm); (case f1e2 => k_ne); (case f2e2 => k_ne); (case f3e2 => k_ne); (case f4e2 => k_ne); (case hte2 => first | (with_reducible refine' end_rgb ?r0e2 ?r1e2 hp1 hp2 hp3 (preT ?hge2) ?e1e2 ?e2e2 ?e3e2 ?q1e2 ?q2e2 ?q3e2; (case e1e2 => assumption); (case e2e2 => assumption); (case e3e2 => assumption); (case q1e2 => assumption); (case q2e2 => assumption); (case q3e2 => assumption); (case r0e2 => assumption); (case r1e2 => assumption); (try (case hge2 => assumption))) | (with_reducible refine' end_rgb ?r0e2 ?r1e2 hp1 hp2 hp3 (preF ?hge2) ?e1e2 ?e2e2 ?e3e2 ?q1e2 ?q2e2 ?q3e2; (case e1e2 => assumption); (case e2e2 => assumption); (case e3e2 => assumption); (case q1e2 => assumption); (case q2e2 => assumption); (case q3e2 => assumption); (case r0e2 => assumption); (case r1e2 => assumption); (try (case hge2 => assumption))) | (with_reducible refine' end_one ?r0e2 ?r1e2 hp1 hp2 hp3 ?hre2 ?e1e2 ?e2e2 ?e3e2; (case hre2 => assumption); (case e1e2 => assumption); (case e2e2 => assumption); (case e3e2 => assumption); (case r0e2 => assumption); (case r1e2 => assumption); (try (case hge2 => assumption))) | (with_reducible refine' end_two ?r0e2 ?r1e2 hp1 hp2 hp3 ?hre2 ?hge2 ?e1e2 ?e2e2 ?e3e2 ?f1e2 ?f2e2 ?f3e2; (case hre2 => assumption); (case e1e2 => assumption); (case e2e2 => assumption); (case e3e2 => assumption); (case f1e2 => assumption); (case f2e2 => assumption); (case f3e2 => assumption); (case r0e2 => assumption); (case r1e2 => assumption); (case hge2 => assumption))))
  ((with_reducible rename News _ _ _ _ => kR); (with_reducible rename News _ _ _ (_ :: _ :: _ :: _ :: _) => kN); refine' hret _ _ _ _ _ _ _ _ _ _ _ _ _ _ _ _ ?hte3 (told_sz ?hte3) ?hde3 ?f1e3 ?f2e3 ?f3e3 ?f4e3 ?hFe3 (news_cons (news_one kN ?m1e3) (news_cons (news_one kN ?m2e3) (news_cons (news_one kN ?m3e3) (news_cons (news_one kN ?m4e3) kR)))); (case m1e3 => k_mem); (case m2e3 => k_mem); (case m3e3 => k_mem); (case m4e3 => k_mem); (case hde3 => assumption); (case hFe3 => k_asm); (case f1e3 => k_ne); (case f2e3 => k_ne); (case f3e3 => k_ne); (case f4e3 => k_ne); (case hte3 => first | (with_reducible refine' end_rgb ?r0e3 ?r1e3 hp1 hp2 hp3 (preT ?hge3) ?e1e3 ?e2e3 ?e3e3 ?q1e3 ?q2e3 ?q3e3; (case e1e3 => assumption); (case e2e3 => assumption); (case e3e3 => assumption); (case q1e3 => assumption); (case q2e3 => assumption); (case q3e3 => assumption); (case r0e3 => assumption); (case r1e3 => assumption); (try (case hge3 => assumption))) | (with_reducible refine' end_rgb ?r0e3 ?r1e3 hp1 hp2 hp3 (preF ?hge3) ?e1e3 ?e2e3 ?e3e3 ?q1e3 ?q2e3 ?q3e3; (case e1e3 => assumption); (case e2e3 => assumption); (case e3e3 => assumption); (case q1e3 => assumption); (case q2e3 => assumption); (case q3e3 => assumption); (case r0e3 => assumption); (case r1e3 => assumption); (try (case hge3 => assumption))) | (with_reducible refine' end_one ?r0e3 ?r1e3 hp1 hp2 hp3 ?hre3 ?e1e3 ?e2e3 ?e3e3; (case hre3 => assumption); (case e1e3 => assumption); (case e2e3 => assumption); (case e3e3 => assumption); (case r0e3 => assumption); (case r1e3 => assumption); (try (case hge3 => assumption))) | (with_reducible refine' end_two ?r0e3 ?r1e3 hp1 hp2 hp3 ?hre3 ?hge3 ?e1e3 ?e2e3 ?e3e3 ?f1e3 ?f2e3 ?f3e3; (case hre3 => assumption); (case e1e3 => assumption); (case e2e3 => assumption); (case e3e3 => assumption); (case f1e3 => assumption); (case f2e3 => assumption); (case f3e3 => assumption); (case r0e3 => assumption); (case r1e3 => assumption); (case hge3 => assumption))))
end Mine
end

section -- T2
open PySem PySem.Spec PySem.Calls PySem.W PyProof.Rows
set_option linter.unusedVariables false
set_option maxRecDepth 100000
set_option maxHeartbeats 8000000
set_option pp.deepTerms false
namespace Mine
variable {w : World} {mean : ExcName → Option Value} {mg mb : Str → Option Value} {dp un : Nat} {gd : Option (List Code)} {cn : Str} {cs : Scope} {a : Addr} {ccd : Value} {cl : List (Str × Addr)} {outer : List Env} {A₀ : Around} {base h₀ : Heap} {L : Addr} {m : Str → Option Value} {news : List (Addr × Obj)} {s : Shared} {Q E : Value → Shared → Prop}
theorem c_toldU
   (B : Below A₀ base outer h₀) (F : Fr h₀ L s.heap m) (X : (Mine.hd.heap_39 w.params).In h₀) (N : News h₀ L s.heap news) (T : Top Mine.hd.view_39 (looseW Mine.hd.view_39 []) mean mg mb h₀) (hk : cs.kind = .function)
   (hdp : dp + 2 < recursionLimit) (hun : un + 256 < cLine)
   {D Ls : Addr} {od ol : Obj} {gr : Bool} {g1 : Obj → List (Addr × Obj)} {g2 : Obj → Obj → List (Addr × Obj)} {p1 p2 p3 : Int} {u1 u2 u3 : Tok} {l2 : Addr} {n2 : Nat} (hm2 : (l2, ({ cls := .type "list", data := .seq #[.int p1 u1, .int p2 u2, .int p3 u3] n2 } : Obj)) ∈ news) (hl2D : @Ne Nat l2 D) (hl2L : @Ne Nat l2 Ls) (hp1 : 0 ≤ p1 ∧ p1 < 256) (hp2 : 0 ≤ p2 ∧ p2 < 256) (hp3 : 0 ≤ p3 ∧ p3 < 256) (hd : DeckOk w Ls od ol) (hne : @Ne Nat D Ls) (U1 : UpdF D od news g1) (U2 : ∀ od', UpdF Ls ol (g1 od') (g2 od'))
   (hret : ∀ (a l : Addr) (b : Array UInt8) (tb : Tok) (d1 d2 d3 : Int) (v1 v2 v3 : Tok) (n n' : Nat) (od' ol' : Obj) (h' : Heap) (tk' : Nat), ToldIs (KBw.bInts b) d1 d2 d3 → b.size ≤ 18 → DeckOk w Ls od' ol' → @Ne Nat a D → @Ne Nat a Ls → @Ne Nat l D → @Ne Nat l Ls → Fr h₀ L h' m →
      News h₀ L h' ((a, ({ cls := .type "tuple", data := .seq #[.bytes b tb, .ref l] n } : Obj)) :: (l, ({ cls := .type "list", data := .seq #[.int d1 v1, .int d2 v2, .int d3 v3] n' } : Obj)) :: g2 od' ol') → Q (.ref a) { s with heap := h', toks := tk' }) :
   wpAny (model PySem.Challenge.rw_og0237_01.row.prog w) (ktrTop dp un gd cn cs L a ccd cl outer) (call (.ref 162) [.ref D, .ref l2, .bool gr]) Q E s := by
  obtain ⟨pre, post, rfl, hg1, a1, b1⟩ := U1.split
  have key : ∀ od' ol', ∀ p ∈ g2 od' ol', p = (D, od') ∨ p = (Ls, ol') ∨ (p ∈ pre ++ (D, od) :: post ∧ p.1 ≠ D ∧ p.1 ≠ Ls) := by
    intro od' ol' p hp
    obtain ⟨pre', post', e2, hg2, a2, b2⟩ := (U2 od').split
    rw [hg2] at hp
    have back : ∀ q, q ∈ g1 od' → q.1 ≠ Ls → q = (D, od') ∨ q = (Ls, ol') ∨ (q ∈ pre ++ (D, od) :: post ∧ q.1 ≠ D ∧ q.1 ≠ Ls) := by
      intro q hq hL
      rw [hg1] at hq
      rcases List.mem_append.mp hq with hq | hq
      · exact .inr (.inr ⟨List.mem_append_left _ hq, a1 q hq, hL⟩)
      · rcases List.mem_cons.mp hq with rfl | hq
        · exact .inl rfl
        · exact .inr (.inr ⟨List.mem_append_right _ (.tail _ hq), b1 q hq, hL⟩)
    rcases List.mem_append.mp hp with hp | hp
    · exact back p (by rw [e2]; exact List.mem_append_left _ hp) (a2 p hp)
    · rcases List.mem_cons.mp hp with rfl | hp
      · exact .inr (.inl rfl)
      · exact back p (by rw [e2]; exact List.mem_append_right _ (.tail _ hp)) (b2 p hp)
  have hLs : (Ls, ol) ∈ pre ++ (D, od) :: post := by
    obtain ⟨pre', post', e2, _, _, _⟩ := (U2 od).split
    have : (Ls, ol) ∈ g1 od := by rw [e2]; exact List.mem_append_right _ (.head _)
    rw [hg1] at this
    exact this
  have N1 : News h₀ L s.heap [(D, od), (Ls, ol)] := fun p hp => by
    rcases List.mem_cons.mp hp with rfl | hp
    · exact N _ (List.mem_append_right _ (.head _))
    · rw [List.mem_singleton.mp hp]; exact N _ hLs
  refine c_told (news := (pre ++ (D, od) :: post).filter fun p => decide (¬ @Eq Nat p.1 D ∧ ¬ @Eq Nat p.1 Ls)) B F X (fun p hp => N p (List.mem_filter.mp hp).1) T ‹_› hdp hun (N _ hm2).1 (fun p hp => ?_) hp1 hp2 hp3 hd hne N1 (fun q hq p hp => ?_) fun a l b tb d1 d2 d3 v1 v2 v3 n n' od' ol' h' tk' ht hz hd' f1 f2 f3 f4 F1 N2 => hret a l b tb d1 d2 d3 v1 v2 v3 n n' od' ol' h' tk' ht hz hd' f1 f2 f3 f4 F1 fun p hp => ?_
  · rcases List.mem_cons.mp hp with rfl | hp
    · exact hl2D
    · rw [List.mem_singleton.mp hp]; exact hl2L
  · have h2 := of_decide_eq_true (List.mem_filter.mp hq).2
    rcases List.mem_cons.mp hp with rfl | hp
    · exact h2.1
    · rw [List.mem_singleton.mp hp]; exact h2.2
  · rcases List.mem_cons.mp hp with rfl | hp
    · exact N2 _ (.head _)
    rcases List.mem_cons.mp hp with rfl | hp
    · exact N2 _ (.tail _ (.head _))
    rcases key od' ol' p hp with rfl | rfl | ⟨h1, h2, h3⟩
    · exact N2 _ (.tail _ (.tail _ (.head _)))
    · exact N2 _ (.tail _ (.tail _ (.tail _ (.head _))))
    · exact N2 _ (.tail _ (.tail _ (.tail _ (.tail _ (List.mem_filter.mpr ⟨h1, decide_eq_true ⟨h2, h3⟩⟩)))))
end Mine
end

section -- Nb
open PySem PySem.Spec PySem.Calls PySem.W PyProof.Rows
set_option linter.unusedVariables false
set_option maxRecDepth 100000
set_option maxHeartbeats 8000000
namespace Mine
open PyProof.Rows.LCg PyProof.Rows.LCt
/-- octets that are none, each -/
noncomputable def AllNone (vs : List Value) : Prop := ∀ v ∈ vs, ∃ b t, v = .bytes b t ∧ NoneOk b
theorem an_nil : AllNone [] := fun _ h => nomatch h
theorem an_cons {b : Array UInt8} {t : Tok} {vs : List Value} (h : NoneOk b) (r : AllNone vs) : AllNone (.bytes b t :: vs) := fun v hv => by
  rcases List.mem_cons.mp hv with rfl | hv
  · exact ⟨b, t, rfl, h⟩
  · exact r v hv
section
variable {prog : Program} {w : World} {A : Around} {E : Value → Shared → Prop} {s : Shared} {h₀ : Heap} {L : Addr} {m : Str → Option Value} {env : Env}
theorem src_list {s₁ : Shared} {ax : Addr} {its : Array Value} {news : List (Addr × Obj)} (hh : A.handled = none) (F : Fr h₀ L s₁.heap m) (N : News h₀ L s₁.heap news) (hT : SrcAt h₀ ax its news) :
    Src prog w A h₀ L (.ref ax) s₁ its.size (fun i v => its[i]? = some v) (SrcAt h₀ ax its) { cls := .type "list_iterator", data := .fields #[.ref ax, .int 0 0] } [s₁.heap.objs.size, ax] (fun i h => h.IsListIter s₁.heap.objs.size ax i ∧ h.IsList ax its) := by
  have ht := hT.list F.keep N
  have hlt : ax < s₁.heap.objs.size := by obtain ⟨_, e, _⟩ := ht; exact Heap.lt_size e
  exact {
    W := Walks.list hh _ ax (Nat.ne_of_lt hlt) its
    has := fun i h st => by obtain ⟨o, e, _⟩ := st.1; exact ⟨o, e⟩
    keep := list_st
    start := ⟨⟨_, Heap.get?_push_size _ rfl, rfl, rfl⟩, ht.push _⟩
    low := fun b hb => by
      rcases List.mem_cons.mp hb with rfl | hb
      · exact Nat.le_refl _
      · rw [List.mem_singleton.mp hb]; exact Nat.le_of_lt hlt
    iter := fun Q E hQ => wpAny_pyIter_list ht hQ }
end
section
variable {prog : Program} {w : World} {A : Around} {h₀ : Heap} {L : Addr} {m : Str → Option Value} {env : Env} {s₁ : Shared} {news : List (Addr × Obj)} {ct elt : Expr} {x : Str} {scope : Scope} {cl : List (Str × Addr)} {Q : Value → Shared → Prop}
theorem SrcT.list {ax : Addr} {o : Obj} {its : Array Value} {k : Nat} (hh : A.handled = none) (F : Fr h₀ L s₁.heap m) (N : News h₀ L s₁.heap news) (hm : (ax, o) ∈ news) (hc : o.cls = .type "list") (hd : o.data = .seq its k) (hsz : its.size ≤ sizeLine)
    (h : ∀ g : Heap, CompRestT prog w A h₀ L m env ct elt x scope cl { s₁ with heap := g } (SrcAt h₀ ax its) (fun i v => its[i]? = some v) (FinE h₀ L m { s₁ with heap := g } Q) its.size 0 [] news) :
    SrcT prog w A h₀ L m env ct elt x scope cl Q (.ref ax) s₁ :=
  have S : SrcAt h₀ ax its news := .inr ⟨o, hm, hc, k, hd⟩
  ⟨_, _, _, _, _, _, news, src_list hh F N S, F, N, S, hsz, h⟩
/-- octets that are none: nothing is taken -/
theorem restT_none {s : Shared} {S : List (Addr × Obj) → Prop} {its : Array Value} {Fin : List Value → List (Addr × Obj) → Prop} (hall : AllNone its.toList) (hS : S news)
    (turn : ∀ b t I oI C oC D m₂ h tk (E' : Value → Shared → Prop), NoneOk b → NsObj oC m₂ → m₂ x = some (.bytes b t) → Fr h₀ L h m → News h₀ L h ((I, oI) :: (C, oC) :: (D, lst []) :: news) → Off3 I C D news →
      wpAny (model prog w) A (isTrue ct (compEnvC scope cl C env) (eval ct (compEnvC scope cl C env))) (fun ok s' => ok = false ∧ ∃ h' tk', s' = { s with heap := h', toks := tk' } ∧ Fr h₀ L h' m ∧ News h₀ L h' ((I, oI) :: (C, oC) :: (D, lst []) :: news)) E' { s with heap := h, toks := tk })
    (fin : Fin [] news) : CompRestT prog w A h₀ L m env ct elt x scope cl s S (fun i v => its[i]? = some v) Fin its.size 0 [] news := by
  have key : ∀ (j i : Nat), i + j = its.size → CompRestT prog w A h₀ L m env ct elt x scope cl s S (fun i v => its[i]? = some v) Fin j i [] news := by
    intro j
    induction j with
    | zero => intro i _; exact CompRestT.zero fin
    | succ j ih =>
      intro i hi
      refine CompRestT.succ ?_
      intro v I oI C oC D m₂ h tk E' hv hC hx F N off ne
      obtain ⟨b, t, e, hb⟩ := hall v (by
        rw [← Array.getElem?_toList] at hv
        exact List.mem_of_getElem? hv)
      rw [e] at hx
      refine wpAny_mono (turn b t I oI C oC D m₂ h tk E' hb hC hx F N off) (fun ok s₂ hq => ?_) fun _ _ e => e
      obtain ⟨rfl, h', tk', rfl, F', N'⟩ := hq
      simp only [Bool.false_eq_true, if_false]
      exact ⟨h', tk', news, rfl, F', N', off, hS, ih (i + 1) (by omega)⟩
  exact key its.size 0 (by omega)
end
end Mine
namespace Mine
/-- what the two ways of the law's if leave -/
noncomputable def BentOk (h₀ : Heap) (L : Addr) (m : Str → Option Value) (keep : List (Addr × Obj)) (s s' : Shared) : Prop :=
  ∃ (D : Addr) (its : List Value) (k : Nat) (h' : Heap) (tk' : Nat), s' = { s with heap := h', toks := tk' } ∧ AllNone its ∧ its.length ≤ 64 ∧
    Fr h₀ L h' (fun y => if y = Str.ofString "bent" then some (.ref D) else m y) ∧ News h₀ L h' ((D, W.listOf its.toArray k) :: keep)
theorem if_cut {prog : Program} {w : World} {A : Around} {E : Value → Shared → Prop} {s : Shared} {h₀ : Heap} {L : Addr} {m : Str → Option Value} {env : Env} {st : Stmt} {Q : Flow → Shared → Prop} {keep : List (Addr × Obj)} (_F : Fr h₀ L s.heap m) (_N : News h₀ L s.heap keep)
    (h1 : wpAny (model prog w) A (exec st env) (fun fl s' => fl = .next ∧ BentOk h₀ L m keep s s') E s)
    (h2 : ∀ (D : Addr) (its : List Value) (k : Nat) (h' : Heap) (tk' : Nat), AllNone its → its.length ≤ 64 → Fr h₀ L h' (fun y => if y = Str.ofString "bent" then some (.ref D) else m y) → News h₀ L h' ((D, W.listOf its.toArray k) :: keep) → Q .next { s with heap := h', toks := tk' }) :
    wpAny (model prog w) A (exec st env) Q E s :=
  wpAny_mono h1 (fun fl s' hq => by
    obtain ⟨rfl, D, its, k, h', tk', rfl, a, b, c, d⟩ := hq
    exact h2 D its k h' tk' a b c d) fun _ _ e => e
theorem bent_end {h₀ : Heap} {L D : Addr} {m m' : Str → Option Value} {keep all : List (Addr × Obj)} {s : Shared} {vs : List Value} {k : Nat} {h' : Heap} {tk' : Nat}
    (F : Fr h₀ L h' m') (hm : m' = fun y => if y = Str.ofString "bent" then some (.ref D) else m y) (N : News h₀ L h' all) (hD : (D, W.listOf vs.toArray k) ∈ all) (hk : ∀ p ∈ keep, p ∈ all) (ha : AllNone vs) (hz : vs.length ≤ 64) :
    BentOk h₀ L m keep s { s with heap := h', toks := tk' } :=
  ⟨D, vs, k, h', tk', rfl, ha, hz, hm ▸ F, fun p hp => by
    rcases List.mem_cons.mp hp with rfl | hp
    · exact N _ hD
    · exact N _ (hk p hp)⟩
theorem add31 {prog : Program} {w : World} {A : Around} {E : Value → Shared → Prop} {s : Shared} {h₀ : Heap} {L a b : Addr} {m : Str → Option Value} {news : List (Addr × Obj)} {v1 v2 v3 v4 : Value} {k k' : Nat} {Q : Value → Shared → Prop}
    (F : Fr h₀ L s.heap m) (N : News h₀ L s.heap news) (ha : (a, W.listOf #[v1, v2, v3] k) ∈ news) (hb : (b, W.listOf #[v4] k') ∈ news)
    (h : ∀ D h', Fr h₀ L h' m → News h₀ L h' ((D, W.listOf #[v1, v2, v3, v4] 0) :: news) → (∀ p ∈ news, p.1 < D) → Q (.ref D) { s with heap := h' }) :
    wpAny (model prog w) A (binaryOp .Add (.ref a) (.ref b)) Q E s :=
  kmk_add_lit F N (News.isList N ha) (News.isList N hb) (zs := [v1, v2, v3, v4]) rfl h (by rw [sizeLine_eq]; exact Nat.le_of_ble_eq_true rfl)
end Mine
namespace Mine
theorem an_none {t0 t1 t2 t3 t4 t5 : Tok} : AllNone (#[.bytes #[] t0, .bytes #[35] t1, .bytes #[35, 49, 50] t2, .bytes #[35, 49, 50, 51, 52, 53] t3, .bytes #[114, 103, 98, 58, 49, 47, 50, 47, 49, 50, 51, 52, 53] t4, .bytes #[114, 103, 98, 58, 49, 47, 47, 50] t5] : Array Value).toList :=
  an_cons nok_0 (an_cons nok_1 (an_cons nok_2 (an_cons nok_3 (an_cons nok_4 (an_cons nok_5 an_nil)))))
end Mine
namespace Mine
section
variable {h₀ h : Heap} {L : Addr} {a b e f g i j p t d l c : Addr × Obj}
theorem news_sub {n n' : List (Addr × Obj)} (N : News h₀ L h n) (s : ∀ x ∈ n', x ∈ n) : News h₀ L h n' := fun x hx => N x (s x hx)
theorem news_turn1 (N : News h₀ L h [i, j, p, t, d, l, c]) : News h₀ L h [i, p, d, l, c] := news_sub N fun x hx => by
  simp only [List.mem_cons, List.not_mem_nil, or_false] at hx ⊢
  rcases hx with h | h | h | h | h <;> simp [h]
theorem news_turn2 (N : News h₀ L h [i, a, b, e, f, g, j, p, d, l, c]) : News h₀ L h [i, p, d, l, c] := news_sub N fun x hx => by
  simp only [List.mem_cons, List.not_mem_nil, or_false] at hx ⊢
  rcases hx with h | h | h | h | h <;> simp [h]
end
end Mine
end

section -- Le
open PySem PySem.Spec PySem.Calls PySem.W PyProof.Rows
set_option linter.unusedVariables false
set_option maxRecDepth 100000
set_option maxHeartbeats 8000000
namespace Mine
theorem law_end {cl : _} {mean : _} {ns : List Int} {s₁ s' : Shared} {L : Addr} {m : Str → Option Value} (F : Fr s₁.heap L s'.heap m) (hg : s'.gens = #[]) (hos : s'.os = s₁.os) :
    GoodW PySem.Challenge.rw_og0237_01.row.claim cl mean [ofPy (PyData.list (List.map PyData.int ns))] s₁ (.ok (.ret (.bool true))) s' := by
  refine goodW_bool F hg (raisesW_false ?_) ?_ hos
  · wrow_none_raised
  · wrow_post
end Mine
end

section -- Lp
open PySem PySem.Spec PySem.Calls PySem.W PyProof.Rows
set_option linter.unusedVariables false
set_option maxRecDepth 100000
set_option maxHeartbeats 8000000
namespace Mine
/-- the frame of the law's two turns: what they write over m0 -/
noncomputable def ovl (vb vd vo vg : Option Value) (m0 : Str → Option Value) : Str → Option Value := fun y => if y = Str.ofString "bent" then vb else if y = Str.ofString "due" then vd else if y = Str.ofString "octets" then vo else if y = Str.ofString "go" then vg else m0 y
theorem ovl_back {vb vd vo vg w1 w2 w3 w4 w5 : Option Value} {m0 : Str → Option Value} :
    (fun y => if y = Str.ofString "bent" then w1 else if y = Str.ofString "bent" then w2 else if y = Str.ofString "due" then w3 else if y = Str.ofString "octets" then w4 else if y = Str.ofString "go" then w5 else ovl vb vd vo vg m0 y) = ovl w1 w3 w4 w5 m0 := by
  funext y
  unfold ovl
  by_cases h1 : y = Str.ofString "bent"
  · simp only [if_pos h1]
  · by_cases h2 : y = Str.ofString "due"
    · simp only [if_neg h1, if_pos h2]
    · by_cases h3 : y = Str.ofString "octets"
      · simp only [if_neg h1, if_neg h2, if_pos h3]
      · by_cases h4 : y = Str.ofString "go"
        · simp only [if_neg h1, if_neg h2, if_neg h3, if_pos h4]
        · simp only [if_neg h1, if_neg h2, if_neg h3, if_neg h4]
theorem ovl_start {m0 : Str → Option Value} (e1 : m0 (Str.ofString "bent") = none) (e2 : m0 (Str.ofString "due") = none) (e3 : m0 (Str.ofString "octets") = none) (e4 : m0 (Str.ofString "go") = none) : m0 = ovl none none none none m0 := by
  funext y
  unfold ovl
  by_cases h1 : y = Str.ofString "bent"
  · rw [if_pos h1, h1, e1]
  · by_cases h2 : y = Str.ofString "due"
    · rw [if_neg h1, if_pos h2, h2, e2]
    · by_cases h3 : y = Str.ofString "octets"
      · rw [if_neg h1, if_neg h2, if_pos h3, h3, e3]
      · by_cases h4 : y = Str.ofString "go"
        · rw [if_neg h1, if_neg h2, if_neg h3, if_pos h4, h4, e4]
        · rw [if_neg h1, if_neg h2, if_neg h3, if_neg h4]
section
variable {prog : Program} {w : World} {A : Around} {E : Value → Shared → Prop} {h₀ : Heap} {env : Env} {x : Str} {body : List Stmt} {Q : Flow → Shared → Prop} {s : Shared} {I : Addr} {a : Int} {n : Nat} {m m' m0 : Str → Option Value} {news news' : List (Addr × Obj)}
theorem range_at {k i : Nat} (h : RangeRest prog w A E h₀ env x body Q s I a n k i m news) (e : m' = m) : RangeRest prog w A E h₀ env x body Q s I a n k i m' news := e ▸ h
/-- with more in the ledger too -/
theorem range_sub {k i : Nat} (h : RangeRest prog w A E h₀ env x body Q s I a n k i m news) (sub : ∀ p ∈ news, p ∈ news') : RangeRest prog w A E h₀ env x body Q s I a n k i m news' := by
  cases k with
  | zero => exact fun h' tk F N => h h' tk F fun p hp => N p (sub p hp)
  | succ k =>
    exact fun t h' tk F N => h t h' tk F fun p hp => by
      rcases List.mem_cons.mp hp with rfl | hp
      · exact N _ (.head _)
      · exact N p (.tail _ (sub p hp))
theorem range2_ind {D Ls : Addr} {p c : Addr × Obj} {od ol : Obj} (hm : m = ovl none none none none m0) (hd : DeckOk w Ls od ol) (sub : ∀ q ∈ [p, (D, od), (Ls, ol), c], q ∈ news)
    (turn : ∀ (k i : Nat) (vb vd vo vg : Option Value) (od ol : Obj), DeckOk w Ls od ol →
      (∀ vb' vd' vo' vg' od' ol', DeckOk w Ls od' ol' → RangeRest prog w A E h₀ env x body Q s I a n k (i + 1) (ovl vb' vd' vo' vg' m0) [p, (D, od'), (Ls, ol'), c]) →
      RangeRest prog w A E h₀ env x body Q s I a n (k + 1) i (ovl vb vd vo vg m0) [p, (D, od), (Ls, ol), c])
    (fin : ∀ (vb vd vo vg : Option Value) (od ol : Obj), DeckOk w Ls od ol → RangeRest prog w A E h₀ env x body Q s I a n 0 2 (ovl vb vd vo vg m0) [p, (D, od), (Ls, ol), c]) :
    RangeRest prog w A E h₀ env x body Q s I a n 2 0 m news := by
  subst hm
  exact range_sub (turn 1 0 _ _ _ _ _ _ hd fun b1 d1 o1 g1 x1 y1 h1 => turn 0 1 _ _ _ _ _ _ h1 fun b2 d2 o2 g2 x2 y2 h2 => fin _ _ _ _ _ _ h2) sub
end
end Mine
namespace Mine
theorem sub6 {j p t d l c : Addr × Obj} : ∀ q ∈ [p, d, l, c], q ∈ [j, p, t, d, l, c] := fun q hq => by
  simp only [List.mem_cons, List.not_mem_nil, or_false] at hq ⊢
  rcases hq with h | h | h | h <;> simp [h]
end Mine
end

theorem Mine.offL1 : True := by
  w_top off
  trivial

section -- L1
open PySem PySem.Spec PySem.Calls PySem.W PyProof.Rows
set_option linter.unusedVariables false
set_option maxRecDepth 100000
set_option maxHeartbeats 8000000
set_option pp.deepTerms false
namespace Mine
set_option maxHeartbeats 40000000 in
theorem law_holds : PySem.Challenge.rw_og0237_01.Holds := Mine.hd (by
  k_go0
  w_top off
  (with_reducible rename Fr _ _ _ _ => kF)
  replace kF := frN (m' := fun y => if y = Str.ofString "script" then some (Value.ref _) else none) kF rfl
  rename _ = Data.cell _ => d1
  replace d1 : _ = Data.cell none := d1
  rename CellsAre _ _ _ => x0
  clear x0
  (all_goals try k_fold)
  repeat' ((fail_if_success (with_reducible show RangeRest _ _ _ _ _ _ _ _ _ _ _ _ _ _ _ _ _)); first
    | (k_unfold; (try dsimp only))
    | ((with_reducible show wpAny _ _ (execs (_ :: _) _) _ _ _); (try (k_here; ((with_reducible rename LCg.NsObj _ _ => hj); clear hj); (repeat ((with_reducible rename LCg.NsObj _ _ => hj); clear hj)); (repeat ((with_reducible rename LCg.Off3 _ _ _ _ => hj); clear hj)); (repeat ((with_reducible rename _[_]? = some _ => hj); clear hj)); (repeat ((with_reducible rename InElt _ _ => hj); clear hj)); (repeat ((with_reducible rename _ = some (Value.int _ _) => hj); clear hj)))); (try k_gentoks); (try k_fold); (try dsimp only); refine (let A9 : Around := _; (?_ : wpAny _ A9 _ _ _ _)); (with_reducible rename News _ _ _ _ => kN); (with_reducible rename Fr _ _ _ _ => kF); refine (let n9 : List (Addr × Obj) := _; let m9 : Str → Option Value := _; (fun (kN : News _ _ _ n9) (kF : Fr _ _ _ m9) => ?_) kN kF); refine wpAny_execs_cons ?_; (try dsimp only))
    | ((with_reducible show wpAny _ _ (call (Value.ref _) _) _ _ _); first | (k_here; (with_reducible show wpAny _ _ (call (Value.ref 162) [_, _, _]) _ _ _); k_dflt (refine' c_toldU ?k0z20 ?k1z20 ?k2z20 ?k3z20 ?k4z20 ?k5z20 ?k6z20 ?k7z20 ?m2z20 ?lDz20 ?lLz20 ?hp1z20 ?hp2z20 ?hp3z20 ?hdz20 ?hnez20 ?U1z20 ?U2z20 ?_; (case k0z20 => k_asm); (case k1z20 => k_asm); (case k2z20 => k_asm); (case k3z20 => k_asm); (case k4z20 => k_asm); (case k5z20 => first | exact rfl | assumption); (case k6z20 => first | exact dp_ok 0 hdp rfl | exact dp_ok 1 hdp rfl | exact dp_ok 2 hdp rfl | exact dp_ok 3 hdp rfl | ktr_room); (case k7z20 => first | exact un_ok hun rfl | exact un_ok0 hun rfl | ktr_units); (case m2z20 => k_mem); (case hdz20 => assumption); (case lDz20 => k_ne); (case lLz20 => k_ne); (case hp1z20 => omega); (case hp2z20 => omega); (case hp3z20 => omega); (case hnez20 => first | assumption | k_ne); (case U1z20 => k_updF); (case U2z20 => (intro od'; k_updF)); k_whole); intro a9 l9 b9 tb9 d91 d92 d93 v91 v92 v93 n9 n9' od9 ol9 h9 tk9 ht9 hz9 hd9 f91 f92 f93 f94 F9 N9; (try dsimp only at N9); (try dsimp only); (try k_fold)) | (k_here; (with_reducible show wpAny _ _ (call (Value.ref 69) [_]) _ _ _); k_dflt (refine' c_octs_some ?k0z19 ?k1z19 ?k2z19 ?k3z19 ?k4z19 ?k5z19 ?k6z19 ?k7z19 ?p0z19 ?_; (case k0z19 => k_asm); (case k1z19 => k_asm); (case k2z19 => k_asm); (case k3z19 => k_asm); (case k4z19 => k_asm); (case k5z19 => first | exact rfl | assumption); (case k6z19 => first | exact dp_ok 0 hdp rfl | exact dp_ok 1 hdp rfl | exact dp_ok 2 hdp rfl | exact dp_ok 3 hdp rfl | ktr_room); (case k7z19 => first | exact un_ok hun rfl | exact un_ok0 hun rfl | ktr_units); (case p0z19 => first | (refine' some_oct ?h1z19 ?h2z19 ?h3z19 ?e0z19; (case e0z19 => with_reducible assumption); (case h1z19 => omega); (case h2z19 => omega); (case h3z19 => omega)) | exact some_told (by with_reducible assumption));  k_whole); intro t9 h9 tk9 F9 N9; (try dsimp only); (try k_fold)) | (k_here; (with_reducible show wpAny _ _ (call (Value.ref 69) [_]) _ _ _); k_dflt (refine' c_octs_none ?k0z18 ?k1z18 ?k2z18 ?k3z18 ?k4z18 ?k5z18 ?k6z18 ?k7z18 ?p0z18 ?_; (case k0z18 => k_asm); (case k1z18 => k_asm); (case k2z18 => k_asm); (case k3z18 => k_asm); (case k4z18 => k_asm); (case k5z18 => first | exact rfl | assumption); (case k6z18 => first | exact dp_ok 0 hdp rfl | exact dp_ok 1 hdp rfl | exact dp_ok 2 hdp rfl | exact dp_ok 3 hdp rfl | ktr_room); (case k7z18 => first | exact un_ok hun rfl | exact un_ok0 hun rfl | ktr_units); (case p0z18 => first | with_reducible assumption | with_reducible exact none_g (by assumption) (by assumption) | with_reducible exact none_o (by assumption) | with_reducible exact none_s (by assumption) | exact nok_0 | exact nok_1 | exact nok_2 | exact nok_3 | exact nok_4 | exact nok_5 | exact nok_6 | exact nok_7 | exact nok_8);  k_whole); intro h9 tk9 F9 N9; (try dsimp only); (try k_fold)) | (k_here; (with_reducible show wpAny _ _ (call (Value.ref 157) [_, _, _]) _ _ _); k_dflt (refine' c_law_hex ?k0z17 ?k1z17 ?k2z17 ?k3z17 ?k4z17 ?k5z17 ?k6z17 ?k7z17 ?p0z17 ?p1z17 ?p2z17 ?p3z17 ?_; (case k0z17 => k_asm); (case k1z17 => k_asm); (case k2z17 => k_asm); (case k3z17 => k_asm); (case k4z17 => k_asm); (case k5z17 => first | exact rfl | assumption); (case k6z17 => first | exact dp_ok 0 hdp rfl | exact dp_ok 1 hdp rfl | exact dp_ok 2 hdp rfl | exact dp_ok 3 hdp rfl | ktr_room); (case k7z17 => first | exact un_ok hun rfl | exact un_ok0 hun rfl | ktr_units); (case p0z17 => omega); (case p1z17 => omega); (case p2z17 => decide); (case p3z17 => decide);  k_whole); intro b9 t9 h9 tk9 e9 F9 N9; have z9 := hex_sz4 e9 (by decide); (try dsimp only); (try k_fold)) | (k_here; (with_reducible show wpAny _ _ (call (Value.ref 76) [_]) _ _ _); k_dflt (refine' c_octets ?k0z16 ?k1z16 ?k2z16 ?k3z16 ?k4z16 ?k5z16 ?k6z16 ?k7z16 ?_; (case k0z16 => k_asm); (case k1z16 => k_asm); (case k2z16 => k_asm); (case k3z16 => k_asm); (case k4z16 => k_asm); (case k5z16 => first | exact rfl | assumption); (case k6z16 => first | exact dp_ok 0 hdp rfl | exact dp_ok 1 hdp rfl | exact dp_ok 2 hdp rfl | exact dp_ok 3 hdp rfl | ktr_room); (case k7z16 => first | exact un_ok hun rfl | exact un_ok0 hun rfl | ktr_units);  k_whole); intro b9 t9 h9 tk9 e9 F9 N9; (try dsimp only); (try k_fold)) | (k_here; (with_reducible show wpAny _ _ (call (Value.ref 152) [_, _, _]) _ _ _); k_dflt (refine' c_is_nearest ?k0z15 ?k1z15 ?k2z15 ?k3z15 ?k4z15 ?k5z15 ?k6z15 ?k7z15 ?p0z15 ?p1z15 ?p2z15 ?p3z15 ?p4z15 ?p5z15 ?p6z15 ?p7z15 ?p8z15 ?_; (case k0z15 => k_asm); (case k1z15 => k_asm); (case k2z15 => k_asm); (case k3z15 => k_asm); (case k4z15 => k_asm); (case k5z15 => first | exact rfl | assumption); (case k6z15 => first | exact dp_ok 0 hdp rfl | exact dp_ok 1 hdp rfl | exact dp_ok 2 hdp rfl | exact dp_ok 3 hdp rfl | ktr_room); (case k7z15 => first | exact un_ok hun rfl | exact un_ok0 hun rfl | ktr_units); (case p0z15 => exact News.get (by k_asm) (by k_mem)); (case p1z15 => omega); (case p2z15 => omega); (case p3z15 => omega); (case p4z15 => exact (near_is (by omega) (by omega) (by omega)).1); (case p5z15 => exact (near_is (by omega) (by omega) (by omega)).2.1); (case p6z15 => omega); (case p7z15 => omega); (case p8z15 => exact (near_is (by omega) (by omega) (by omega)).2.2);  k_whole); intro h9 tk9 F9 N9; (try dsimp only); (try k_fold)) | (k_here; (with_reducible show wpAny _ _ (call (Value.ref 142) [_]) _ _ _); k_dflt (refine' c_num_l ?k0z14 ?k1z14 ?k2z14 ?k3z14 ?k4z14 ?k5z14 ?k6z14 ?k7z14 ?p0z14 ?_; (case k0z14 => k_asm); (case k1z14 => k_asm); (case k2z14 => k_asm); (case k3z14 => k_asm); (case k4z14 => k_asm); (case k5z14 => first | exact rfl | assumption); (case k6z14 => first | exact dp_ok 0 hdp rfl | exact dp_ok 1 hdp rfl | exact dp_ok 2 hdp rfl | exact dp_ok 3 hdp rfl | ktr_room); (case k7z14 => first | exact un_ok hun rfl | exact un_ok0 hun rfl | ktr_units); (case p0z14 => exact News.get (by k_asm) (by k_mem));  k_whole); intro t9 h9 tk9 F9 N9; (try dsimp only); (try k_fold)) | (k_here; (with_reducible show wpAny _ _ (call (Value.ref 142) [_]) _ _ _); k_dflt (refine' c_num_t ?k0z13 ?k1z13 ?k2z13 ?k3z13 ?k4z13 ?k5z13 ?k6z13 ?k7z13 ?p0z13 ?_; (case k0z13 => k_asm); (case k1z13 => k_asm); (case k2z13 => k_asm); (case k3z13 => k_asm); (case k4z13 => k_asm); (case k5z13 => first | exact rfl | assumption); (case k6z13 => first | exact dp_ok 0 hdp rfl | exact dp_ok 1 hdp rfl | exact dp_ok 2 hdp rfl | exact dp_ok 3 hdp rfl | ktr_room); (case k7z13 => first | exact un_ok hun rfl | exact un_ok0 hun rfl | ktr_units); (case p0z13 => exact News.get (by k_asm) (by k_mem));  k_whole); intro t9 h9 tk9 F9 N9; (try dsimp only); (try k_fold)) | (k_here; (with_reducible show wpAny _ _ (call (Value.ref 135) [_]) _ _ _); k_dflt (refine' c_law_rgb ?k0z12 ?k1z12 ?k2z12 ?k3z12 ?k4z12 ?k5z12 ?k6z12 ?k7z12 ?p0z12 ?p1z12 ?_; (case k0z12 => k_asm); (case k1z12 => k_asm); (case k2z12 => k_asm); (case k3z12 => k_asm); (case k4z12 => k_asm); (case k5z12 => first | exact rfl | assumption); (case k6z12 => first | exact dp_ok 0 hdp rfl | exact dp_ok 1 hdp rfl | exact dp_ok 2 hdp rfl | exact dp_ok 3 hdp rfl | ktr_room); (case k7z12 => first | exact un_ok hun rfl | exact un_ok0 hun rfl | ktr_units); (case p0z12 => omega); (case p1z12 => omega);  k_whole); intro D9 t9 u9 v9 n9 h9 tk9 F9 N9 l9; (try dsimp only); (try k_fold)) | (k_here; (with_reducible show wpAny _ _ (call (Value.ref 116) [_]) _ _ _); k_dflt (refine' c_nearest ?k0z11 ?k1z11 ?k2z11 ?k3z11 ?k4z11 ?k5z11 ?k6z11 ?k7z11 ?p0z11 ?p1z11 ?_; (case k0z11 => k_asm); (case k1z11 => k_asm); (case k2z11 => k_asm); (case k3z11 => k_asm); (case k4z11 => k_asm); (case k5z11 => first | exact rfl | assumption); (case k6z11 => first | exact dp_ok 0 hdp rfl | exact dp_ok 1 hdp rfl | exact dp_ok 2 hdp rfl | exact dp_ok 3 hdp rfl | ktr_room); (case k7z11 => first | exact un_ok hun rfl | exact un_ok0 hun rfl | ktr_units); (case p0z11 => first | exact (pal_in (by omega)).1 | omega); (case p1z11 => first | exact (pal_in (by omega)).2 | omega);  k_whole); intro t9 h9 tk9 F9 N9; (try dsimp only); (try k_fold)) | (k_here; (with_reducible show wpAny _ _ (call (Value.ref 97) [_]) _ _ _); k_dflt (refine' c_palette ?k0z10 ?k1z10 ?k2z10 ?k3z10 ?k4z10 ?k5z10 ?k6z10 ?k7z10 ?p0z10 ?p1z10 ?_; (case k0z10 => k_asm); (case k1z10 => k_asm); (case k2z10 => k_asm); (case k3z10 => k_asm); (case k4z10 => k_asm); (case k5z10 => first | exact rfl | assumption); (case k6z10 => first | exact dp_ok 0 hdp rfl | exact dp_ok 1 hdp rfl | exact dp_ok 2 hdp rfl | exact dp_ok 3 hdp rfl | ktr_room); (case k7z10 => first | exact un_ok hun rfl | exact un_ok0 hun rfl | ktr_units); (case p0z10 => omega); (case p1z10 => omega);  k_whole); intro t9 h9 tk9 F9 N9; (try dsimp only); (try k_fold)) | (k_here; (with_reducible show wpAny _ _ (call (Value.ref 121) [_]) _ _ _); k_dflt (refine' c_deck ?k0z9 ?k1z9 ?k2z9 ?k3z9 ?k4z9 ?k5z9 ?k6z9 ?k7z9 ?p0z9 ?p1z9 ?p2z9 ?_; (case k0z9 => k_asm); (case k1z9 => k_asm); (case k2z9 => k_asm); (case k3z9 => k_asm); (case k4z9 => k_asm); (case k5z9 => first | exact rfl | assumption); (case k6z9 => first | exact dp_ok 0 hdp rfl | exact dp_ok 1 hdp rfl | exact dp_ok 2 hdp rfl | exact dp_ok 3 hdp rfl | ktr_room); (case k7z9 => first | exact un_ok hun rfl | exact un_ok0 hun rfl | ktr_units); (case p0z9 => is_list); (case p1z9 => assumption); (case p2z9 => omega);  k_whole); intro D9 Ls9 od9 ol9 h9 tk9 hd9 F9 N9 ne9 l9 m9; (try dsimp only at N9); (try dsimp only); (try k_fold)) | (k_here; (with_reducible show wpAny _ _ (call (Value.ref 128) [_, _]) _ _ _); k_dflt (refine' c_drawU ?k0z8 ?k1z8 ?k2z8 ?k3z8 ?k4z8 ?k5z8 ?k6z8 ?k7z8 ?hdz8 ?hnez8 ?U1z8 ?U2z8 ?m0z8 ?m1z8 ?_; (case k0z8 => k_asm); (case k1z8 => k_asm); (case k2z8 => k_asm); (case k3z8 => k_asm); (case k4z8 => k_asm); (case k5z8 => first | exact rfl | assumption); (case k6z8 => first | exact dp_ok 0 hdp rfl | exact dp_ok 1 hdp rfl | exact dp_ok 2 hdp rfl | exact dp_ok 3 hdp rfl | ktr_room); (case k7z8 => first | exact un_ok hun rfl | exact un_ok0 hun rfl | ktr_units); (case hdz8 => assumption); (case hnez8 => first | assumption | k_ne); (case U1z8 => k_updF); (case U2z8 => (intro od'; k_updF)); (case m0z8 => decide); (case m1z8 => decide); k_whole); intro r9 t9 od9 ol9 h9 tk9 r0 r1 hd9 F9 N9; (try dsimp only at N9); (try dsimp only); (try k_fold)))
    | (k_here; (with_reducible show wpAny _ _ (eval (Expr.Name _ _) (envOfC _ _ _ _ _)) _ _ _); (with_reducible rename News _ _ _ _ => kN); (with_reducible rename Fr _ _ _ _ => kF); k_dflt (first | (refine' nameX_L kF ?vz38 ?_ ?az38 ?bz38; (case bz38 => exact rfl); (case az38 => exact rfl); (case vz38 => exact rfl); k_whole) | (refine' nameX_C kN ?cz38 ?mz38 ?dz38 ?_ ?az38 ?bz38; (case bz38 => exact rfl); (case az38 => exact rfl); (case cz38 => exact rfl); (case mz38 => k_mem); (case dz38 => k_asm); k_whole) | (refine' nameX_K kF ?Xz38 ?Tz38 ?ez38 ?_ ?az38 ?bz38; (case bz38 => exact rfl); (case Xz38 => k_asm); (case Tz38 => k_asm); (case az38 => exact rfl); (case ez38 => k_is); k_whole) | (refine' nameX_B kF ?Xz38 ?Tz38 ?ez38 ?vz38 ?nz38 ?_ ?az38 ?bz38; (case bz38 => exact rfl); (case Xz38 => k_asm); (case Tz38 => k_asm); (case az38 => exact rfl); (case ez38 => k_is); (case vz38 => boot_fast); (case nz38 => decide); k_whole)))
    | (k_here; (with_reducible show wpAny _ _ (eval (Expr.Name _ _) (compEnvC _ _ _ _)) _ _ _); (with_reducible rename News _ _ _ _ => kN); (with_reducible rename Fr _ _ _ _ => kF); k_dflt (first | refine LCgL.ld_own kN (by k_mem) (by with_reducible assumption) (by with_reducible assumption) ?_ | refine kcf_cell kN (by exact rfl) (by k_mem) (by k_asm) ?_ | refine LCgL.ld_global kF (by k_asm) (by k_asm) (by k_is) ?_))
    | ((with_reducible show LCg.CompSrc _ _ _ _ _ _ _ _ _ _ _ _ _ _); (k_here; k_dflt (first | (refine LCg.CompSrc.ledger (by rfl) (by k_asm) (by k_asm) (by k_mem) (by first | exact Nat.le_of_ble_eq_true rfl | size_fits) ?_; intro g'; lcg_lit) | (refine LCg.CompSrc.range (by rfl) (by k_asm) (by k_asm) (by assumption) (by first | decide | rfl) (by first | rfl | decide) (by first | size_fits | exact Nat.le_of_ble_eq_true rfl) ?_; intro g'; lcg_lit))))
    | (k_here; (with_reducible show wpAny _ _ (compareOp CmpOp.Eq (Value.ref _) (Value.ref _)) _ _ _); (with_unfolding_all refine' eq_intsK ?k1z35 ?k2z35 ?k3z35 ?k4z35 ?k5z35 ?_; (case k1z35 => is_list); (case k2z35 => l_intsC); (case k3z35 => is_list); (case k4z35 => l_intsC); (case k5z35 => first | exact un_ok hun rfl | exact un_ok0 hun rfl | ktr_units); k_whole); (try simp only [filter_tt]))
    | (k_here; (with_reducible show wpAny _ _ (compareOp CmpOp.NotEq (Value.ref _) (Value.ref _)) _ _ _); (with_unfolding_all refine' ne_intsK ?k1z34 ?k2z34 ?k3z34 ?k4z34 ?k5z34 ?_; (case k1z34 => is_list); (case k2z34 => l_intsC); (case k3z34 => is_list); (case k4z34 => l_intsC); (case k5z34 => first | exact un_ok hun rfl | exact un_ok0 hun rfl | ktr_units); k_whole); (try simp only [filter_tt]))
    | ((with_reducible show SrcT _ _ _ _ _ _ _ _ _ _ _ _ _ _ _); (k_here; (with_reducible rename News _ _ _ _ => kN); (with_reducible rename Fr _ _ _ _ => kF); k_dflt (first | (refine SrcT.list (by rfl) kF kN (by k_mem) (by rfl) (by rfl) (by (try rw [List.size_toArray]); rw [sizeLine_eq]; omega) (fun g9 => restT_none (by assumption) (.inr ⟨_, by k_mem, rfl, _, rfl⟩) (fun b9 t9 I9 oI9 C9 oC9 D9 m9 h9 tk9 E9 ok9 hC9 hx9 F9 N9 off9 => ?_) ?_)) | (refine' SrcT.tup (by rfl) kF kN (o := { cls := .type "tuple", data := .seq _ _ }) (by k_mem) rfl rfl ?szz33 (fun g9 => restT_none ?anz33 (.inr ⟨_, by k_mem, rfl, _, rfl⟩) (fun b9 t9 I9 oI9 C9 oC9 D9 m9 h9 tk9 E9 ok9 hC9 hx9 F9 N9 off9 => ?_) ?_); (case anz33 => exact an_none); (case szz33 => (rw [sizeLine_eq]; exact Nat.le_of_ble_eq_true rfl))))))
    | (k_here; (with_reducible show wpAny _ _ (eval (Expr.ListComp _ [⟨_, _, [_], _⟩] _ _) _) _ _ _); k_dflt (refine' comp_T ?q0z32 ?q1z32 ?q2z32 ?q3z32 ?q4z32 ?q5z32 ?_ ?q7z32; (case q0z32 => k_asm); (case q1z32 => with_unfolding_all rfl); (case q2z32 => decide); (case q3z32 => rfl); (case q4z32 => decide); (case q5z32 => rfl); (case q7z32 => (intro _; rfl))))
    | (k_here; (with_reducible show wpAny _ _ (exec (Stmt.If (Expr.Compare (Expr.Subscript _ _ _) _ _ _) _ _ _) _) _ _ _); (with_reducible rename News _ _ _ _ => kN); (with_reducible rename Fr _ _ _ _ => kF); k_dflt (refine if_cut kF kN (wpAny_If ?_) (fun D9 its9 k9 h9 tk9 an9 sz9 F9 N9 => ?_)); (try dsimp only))
    | ((with_reducible show News _ _ _ _); with_reducible assumption)
    | ((with_reducible show Fr _ _ _ _); with_reducible assumption)
    | (k_here; (with_reducible show wpAny _ _ (binaryOp _ (Value.ref _) (Value.ref _)) _ _ _); (with_reducible rename News _ _ _ _ => kN); (with_reducible rename Fr _ _ _ _ => kF); k_dflt (refine' add31 kF kN ?az28 ?bz28 ?_; (case az28 => k_mem); (case bz28 => k_mem)); intro D' h' F' N' l1; k_lt l1)
    | ((with_reducible show BentOk _ _ _ _ _ _); ((with_reducible rename News _ _ _ _ => kN); (with_reducible rename Fr _ _ _ _ => kF); refine' bent_end kF ?hmz27 kN ?hDz27 ?hkz27 ?haz27 ?hzz27; (case hmz27 => exact rfl); (case hDz27 => k_mem); (case hkz27 => kcf_all); (case hzz27 => exact Nat.le_of_ble_eq_true rfl); (case haz27 => (refine' an_cons (none_g ?az27 ?bz27) (an_cons (none_o ?cz27) (an_cons (none_s ?dz27) (an_cons ?ez27 an_nil))); (case bz27 => with_reducible assumption); (case az27 => with_reducible assumption); (case cz27 => with_reducible assumption); (case dz27 => with_reducible assumption); (case ez27 => first | exact nok_6 | exact nok_8 | exact nok_7)))))
    | ((with_reducible show wpAny _ _ (newList _) _ _ _); (k_here; (with_reducible rename News _ _ _ _ => kN); (with_reducible rename Fr _ _ _ _ => kF); k_dflt (refine newList_K kF kN ?_ (Nat.le_of_ble_eq_true rfl)); intro l' h' F' N' l1; (try k_lt l1)))
    | ((with_reducible show RangeRest _ _ _ _ _ _ _ _ _ _ _ _ _ _ _ _ _); exact range_sub (range_at (ih _ _ _ _ _ _ (by assumption)) ovl_back) (by kcf_all))
    | (k_here; (with_reducible show wpAny _ _ (compareOp CmpOp.Eq (Value.bytes _ _) (Value.bytes _ _)) _ _ _); (refine eq_bytesI ?_))
    | (k_here; (with_reducible show wpAny _ _ (subscriptTail _ (Expr.Slice none (some _) none _) (Value.bytes _ _) (Value.ref _)) _ _ _); (with_reducible rename Fr _ _ _ _ => kF); (with_reducible rename News _ _ _ _ => kN); k_dflt (first | (refine slice_to (s := ⟨_, _, _, _, _⟩) 1 (by decide) kF kN (by omega) ?_ (by with_unfolding_all rfl) (by intro _; with_unfolding_all rfl)) | (refine slice_last (s := ⟨_, _, _, _, _⟩) (by decide) kF kN (by omega) ?_ (by with_unfolding_all rfl) (by intro _; with_unfolding_all rfl))); intro b9 h9 t9 tk9 F9 N9 e9 z9)
    | (k_here; (with_reducible show wpAny _ _ (compareOp CmpOp.NotEq (Value.bytes _ _) (Value.bytes _ _)) _ _ _); (with_reducible refine' ne_bsame (cmp_octets ?h1z22 ?h2z22 ?h3z22 ?e0z22 ?e1z22 ?e2z22 ?e3z22) ?_); (case e0z22 => with_reducible assumption); (case e1z22 => with_reducible assumption); (case e2z22 => with_reducible assumption); (case e3z22 => with_reducible assumption); (case h1z22 => omega); (case h2z22 => omega); (case h3z22 => omega))
    | (k_here; (with_reducible show wpAny _ _ (compareOp CmpOp.NotEq (Value.int _ _) (Value.int _ _)) _ _ _); k_dflt (refine ne_same ?_ ?_; (first | with_reducible rfl | exact near_pal (by omega) (by omega) | exact rfl)))
    | (k_here; (with_reducible show wpAny _ _ (call (Value.builtin "bytes.join") [Value.bytes _ _, Value.ref _]) _ _ _); k_dflt (refine' join_call ?q1z7 ?q2z7 ?q3z7 ?_; (case q1z7 => k_asm); (case q2z7 => k_mem); (case q3z7 => first | (refine' Nat.le_trans ?z1z7 ?z3z7; (case z1z7 => repeat' ((with_reducible show _ ≤ _); first | with_reducible assumption | with_reducible refine' szA ?_ ?_ | with_reducible refine' Nat.add_le_add ?_ ?_ | exact Nat.le_of_eq (by with_reducible assumption) | exact Nat.le_refl _)); (case z3z7 => exact Nat.le_of_ble_eq_true rfl)) | (simp only [Array.size_append, byteArr_size, List.length_cons, List.length_nil, List.size_toArray]; omega))); intro _ _)
    | ((with_reducible show wpAny _ _ (getMethod (Value.bytes _ _) _ _) _ _ _); (k_here; (with_reducible refine join_method ?_)))
    | (k_here; (with_reducible show wpAny _ _ (binaryOp Operator.Add (Value.bytes _ _) (Value.bytes _ _)) _ _ _); (refine' KBy.add_bytes ?z0z5 ?_; (case z0z5 => first | (refine' Nat.le_trans ?z1z5 ?z3z5; (case z1z5 => repeat' ((with_reducible show _ ≤ _); first | with_reducible assumption | with_reducible refine' szA ?_ ?_ | with_reducible refine' Nat.add_le_add ?_ ?_ | exact Nat.le_of_eq (by with_reducible assumption) | exact Nat.le_refl _)); (case z3z5 => exact Nat.le_of_ble_eq_true rfl)) | ((try simp only [Array.size_append, List.size_toArray, List.length_cons, List.length_nil]); omega)); k_whole); intro _ _)
    | ((with_reducible show LCg.FinA _ _ _ _ _ _ _ _); ((unfold LCg.FinA); intro D' h' tk' F' N' o1'; (try simp only [List.nil_append, List.cons_append] at N'); (try dsimp only)))
    | ((with_reducible show LCg.FinE _ _ _ _ _ _ _); ((unfold LCg.FinE); intro D' h' tk' F' N' o1'; (try simp only [List.nil_append, List.cons_append] at N'); (try dsimp only)))
    | ((with_reducible show LCg.CompRest _ _ _ _ _ _ _ _ _ _ _ _ _ _ _ _ _ _ _); (with_unfolding_all (refine LCg.CompRest.succ ?_; intro v' I' oI' C' oC' D' m' h' tk' E' hv' hC' hx' F' N' off' ne'; clear ne'; (first | lcg_open hv' | (obtain ⟨t9', hv9'⟩ := hv'; subst hv9')))))
    | ((with_reducible show LCg.CompEnd _ _ _ _ _ _ _ _ _ _ _ _ _ _); (k_here; (with_reducible rename News _ _ _ _ => kN); (with_reducible rename Fr _ _ _ _ => kF); k_dflt (refine' LCg.CompEnd.intro kF kN _ (fun _ h => h) ?coz1 ?csz1 ?_; (case coz1 => first | with_reducible assumption | exact off3_same (by with_reducible assumption) (by exact rfl)); (case csz1 => lcg_src))))
    | walk1
    | (dsimp only; walk1)
    | (leave1; (try dsimp only)))
  refine range2_ind (ovl_start rfl rfl rfl rfl) (by assumption) sub6 (fun k i vb vd vo vg od ol hd ih => ?_) (fun vb vd vo vg od ol hd => ?_)
  · repeat' (first
    | (k_unfold; (try dsimp only))
    | ((with_reducible show wpAny _ _ (execs (_ :: _) _) _ _ _); (try (k_here; ((with_reducible rename LCg.NsObj _ _ => hj); clear hj); (repeat ((with_reducible rename LCg.NsObj _ _ => hj); clear hj)); (repeat ((with_reducible rename LCg.Off3 _ _ _ _ => hj); clear hj)); (repeat ((with_reducible rename _[_]? = some _ => hj); clear hj)); (repeat ((with_reducible rename InElt _ _ => hj); clear hj)); (repeat ((with_reducible rename _ = some (Value.int _ _) => hj); clear hj)))); (try k_gentoks); (try k_fold); (try dsimp only); refine (let A9 : Around := _; (?_ : wpAny _ A9 _ _ _ _)); (with_reducible rename News _ _ _ _ => kN); (with_reducible rename Fr _ _ _ _ => kF); refine (let n9 : List (Addr × Obj) := _; let m9 : Str → Option Value := _; (fun (kN : News _ _ _ n9) (kF : Fr _ _ _ m9) => ?_) kN kF); refine wpAny_execs_cons ?_; (try dsimp only))
    | ((with_reducible show wpAny _ _ (call (Value.ref _) _) _ _ _); first | (k_here; (with_reducible show wpAny _ _ (call (Value.ref 162) [_, _, _]) _ _ _); k_dflt (refine' c_toldU ?k0z20 ?k1z20 ?k2z20 ?k3z20 ?k4z20 ?k5z20 ?k6z20 ?k7z20 ?m2z20 ?lDz20 ?lLz20 ?hp1z20 ?hp2z20 ?hp3z20 ?hdz20 ?hnez20 ?U1z20 ?U2z20 ?_; (case k0z20 => k_asm); (case k1z20 => k_asm); (case k2z20 => k_asm); (case k3z20 => k_asm); (case k4z20 => k_asm); (case k5z20 => first | exact rfl | assumption); (case k6z20 => first | exact dp_ok 0 hdp rfl | exact dp_ok 1 hdp rfl | exact dp_ok 2 hdp rfl | exact dp_ok 3 hdp rfl | ktr_room); (case k7z20 => first | exact un_ok hun rfl | exact un_ok0 hun rfl | ktr_units); (case m2z20 => k_mem); (case hdz20 => assumption); (case lDz20 => k_ne); (case lLz20 => k_ne); (case hp1z20 => omega); (case hp2z20 => omega); (case hp3z20 => omega); (case hnez20 => first | assumption | k_ne); (case U1z20 => k_updF); (case U2z20 => (intro od'; k_updF)); k_whole); intro a9 l9 b9 tb9 d91 d92 d93 v91 v92 v93 n9 n9' od9 ol9 h9 tk9 ht9 hz9 hd9 f91 f92 f93 f94 F9 N9; (try dsimp only at N9); (try dsimp only); (try k_fold)) | (k_here; (with_reducible show wpAny _ _ (call (Value.ref 69) [_]) _ _ _); k_dflt (refine' c_octs_some ?k0z19 ?k1z19 ?k2z19 ?k3z19 ?k4z19 ?k5z19 ?k6z19 ?k7z19 ?p0z19 ?_; (case k0z19 => k_asm); (case k1z19 => k_asm); (case k2z19 => k_asm); (case k3z19 => k_asm); (case k4z19 => k_asm); (case k5z19 => first | exact rfl | assumption); (case k6z19 => first | exact dp_ok 0 hdp rfl | exact dp_ok 1 hdp rfl | exact dp_ok 2 hdp rfl | exact dp_ok 3 hdp rfl | ktr_room); (case k7z19 => first | exact un_ok hun rfl | exact un_ok0 hun rfl | ktr_units); (case p0z19 => first | (refine' some_oct ?h1z19 ?h2z19 ?h3z19 ?e0z19; (case e0z19 => with_reducible assumption); (case h1z19 => omega); (case h2z19 => omega); (case h3z19 => omega)) | exact some_told (by with_reducible assumption));  k_whole); intro t9 h9 tk9 F9 N9; (try dsimp only); (try k_fold)) | (k_here; (with_reducible show wpAny _ _ (call (Value.ref 69) [_]) _ _ _); k_dflt (refine' c_octs_none ?k0z18 ?k1z18 ?k2z18 ?k3z18 ?k4z18 ?k5z18 ?k6z18 ?k7z18 ?p0z18 ?_; (case k0z18 => k_asm); (case k1z18 => k_asm); (case k2z18 => k_asm); (case k3z18 => k_asm); (case k4z18 => k_asm); (case k5z18 => first | exact rfl | assumption); (case k6z18 => first | exact dp_ok 0 hdp rfl | exact dp_ok 1 hdp rfl | exact dp_ok 2 hdp rfl | exact dp_ok 3 hdp rfl | ktr_room); (case k7z18 => first | exact un_ok hun rfl | exact un_ok0 hun rfl | ktr_units); (case p0z18 => first | with_reducible assumption | with_reducible exact none_g (by assumption) (by assumption) | with_reducible exact none_o (by assumption) | with_reducible exact none_s (by assumption) | exact nok_0 | exact nok_1 | exact nok_2 | exact nok_3 | exact nok_4 | exact nok_5 | exact nok_6 | exact nok_7 | exact nok_8);  k_whole); intro h9 tk9 F9 N9; (try dsimp only); (try k_fold)) | (k_here; (with_reducible show wpAny _ _ (call (Value.ref 157) [_, _, _]) _ _ _); k_dflt (refine' c_law_hex ?k0z17 ?k1z17 ?k2z17 ?k3z17 ?k4z17 ?k5z17 ?k6z17 ?k7z17 ?p0z17 ?p1z17 ?p2z17 ?p3z17 ?_; (case k0z17 => k_asm); (case k1z17 => k_asm); (case k2z17 => k_asm); (case k3z17 => k_asm); (case k4z17 => k_asm); (case k5z17 => first | exact rfl | assumption); (case k6z17 => first | exact dp_ok 0 hdp rfl | exact dp_ok 1 hdp rfl | exact dp_ok 2 hdp rfl | exact dp_ok 3 hdp rfl | ktr_room); (case k7z17 => first | exact un_ok hun rfl | exact un_ok0 hun rfl | ktr_units); (case p0z17 => omega); (case p1z17 => omega); (case p2z17 => decide); (case p3z17 => decide);  k_whole); intro b9 t9 h9 tk9 e9 F9 N9; have z9 := hex_sz4 e9 (by decide); (try dsimp only); (try k_fold)) | (k_here; (with_reducible show wpAny _ _ (call (Value.ref 76) [_]) _ _ _); k_dflt (refine' c_octets ?k0z16 ?k1z16 ?k2z16 ?k3z16 ?k4z16 ?k5z16 ?k6z16 ?k7z16 ?_; (case k0z16 => k_asm); (case k1z16 => k_asm); (case k2z16 => k_asm); (case k3z16 => k_asm); (case k4z16 => k_asm); (case k5z16 => first | exact rfl | assumption); (case k6z16 => first | exact dp_ok 0 hdp rfl | exact dp_ok 1 hdp rfl | exact dp_ok 2 hdp rfl | exact dp_ok 3 hdp rfl | ktr_room); (case k7z16 => first | exact un_ok hun rfl | exact un_ok0 hun rfl | ktr_units);  k_whole); intro b9 t9 h9 tk9 e9 F9 N9; (try dsimp only); (try k_fold)) | (k_here; (with_reducible show wpAny _ _ (call (Value.ref 152) [_, _, _]) _ _ _); k_dflt (refine' c_is_nearest ?k0z15 ?k1z15 ?k2z15 ?k3z15 ?k4z15 ?k5z15 ?k6z15 ?k7z15 ?p0z15 ?p1z15 ?p2z15 ?p3z15 ?p4z15 ?p5z15 ?p6z15 ?p7z15 ?p8z15 ?_; (case k0z15 => k_asm); (case k1z15 => k_asm); (case k2z15 => k_asm); (case k3z15 => k_asm); (case k4z15 => k_asm); (case k5z15 => first | exact rfl | assumption); (case k6z15 => first | exact dp_ok 0 hdp rfl | exact dp_ok 1 hdp rfl | exact dp_ok 2 hdp rfl | exact dp_ok 3 hdp rfl | ktr_room); (case k7z15 => first | exact un_ok hun rfl | exact un_ok0 hun rfl | ktr_units); (case p0z15 => exact News.get (by k_asm) (by k_mem)); (case p1z15 => omega); (case p2z15 => omega); (case p3z15 => omega); (case p4z15 => exact (near_is (by omega) (by omega) (by omega)).1); (case p5z15 => exact (near_is (by omega) (by omega) (by omega)).2.1); (case p6z15 => omega); (case p7z15 => omega); (case p8z15 => exact (near_is (by omega) (by omega) (by omega)).2.2);  k_whole); intro h9 tk9 F9 N9; (try dsimp only); (try k_fold)) | (k_here; (with_reducible show wpAny _ _ (call (Value.ref 142) [_]) _ _ _); k_dflt (refine' c_num_l ?k0z14 ?k1z14 ?k2z14 ?k3z14 ?k4z14 ?k5z14 ?k6z14 ?k7z14 ?p0z14 ?_; (case k0z14 => k_asm); (case k1z14 => k_asm); (case k2z14 => k_asm); (case k3z14 => k_asm); (case k4z14 => k_asm); (case k5z14 => first | exact rfl | assumption); (case k6z14 => first | exact dp_ok 0 hdp rfl | exact dp_ok 1 hdp rfl | exact dp_ok 2 hdp rfl | exact dp_ok 3 hdp rfl | ktr_room); (case k7z14 => first | exact un_ok hun rfl | exact un_ok0 hun rfl | ktr_units); (case p0z14 => exact News.get (by k_asm) (by k_mem));  k_whole); intro t9 h9 tk9 F9 N9; (try dsimp only); (try k_fold)) | (k_here; (with_reducible show wpAny _ _ (call (Value.ref 142) [_]) _ _ _); k_dflt (refine' c_num_t ?k0z13 ?k1z13 ?k2z13 ?k3z13 ?k4z13 ?k5z13 ?k6z13 ?k7z13 ?p0z13 ?_; (case k0z13 => k_asm); (case k1z13 => k_asm); (case k2z13 => k_asm); (case k3z13 => k_asm); (case k4z13 => k_asm); (case k5z13 => first | exact rfl | assumption); (case k6z13 => first | exact dp_ok 0 hdp rfl | exact dp_ok 1 hdp rfl | exact dp_ok 2 hdp rfl | exact dp_ok 3 hdp rfl | ktr_room); (case k7z13 => first | exact un_ok hun rfl | exact un_ok0 hun rfl | ktr_units); (case p0z13 => exact News.get (by k_asm) (by k_mem));  k_whole); intro t9 h9 tk9 F9 N9; (try dsimp only); (try k_fold)) | (k_here; (with_reducible show wpAny _ _ (call (Value.ref 135) [_]) _ _ _); k_dflt (refine' c_law_rgb ?k0z12 ?k1z12 ?k2z12 ?k3z12 ?k4z12 ?k5z12 ?k6z12 ?k7z12 ?p0z12 ?p1z12 ?_; (case k0z12 => k_asm); (case k1z12 => k_asm); (case k2z12 => k_asm); (case k3z12 => k_asm); (case k4z12 => k_asm); (case k5z12 => first | exact rfl | assumption); (case k6z12 => first | exact dp_ok 0 hdp rfl | exact dp_ok 1 hdp rfl | exact dp_ok 2 hdp rfl | exact dp_ok 3 hdp rfl | ktr_room); (case k7z12 => first | exact un_ok hun rfl | exact un_ok0 hun rfl | ktr_units); (case p0z12 => omega); (case p1z12 => omega);  k_whole); intro D9 t9 u9 v9 n9 h9 tk9 F9 N9 l9; (try dsimp only); (try k_fold)) | (k_here; (with_reducible show wpAny _ _ (call (Value.ref 116) [_]) _ _ _); k_dflt (refine' c_nearest ?k0z11 ?k1z11 ?k2z11 ?k3z11 ?k4z11 ?k5z11 ?k6z11 ?k7z11 ?p0z11 ?p1z11 ?_; (case k0z11 => k_asm); (case k1z11 => k_asm); (case k2z11 => k_asm); (case k3z11 => k_asm); (case k4z11 => k_asm); (case k5z11 => first | exact rfl | assumption); (case k6z11 => first | exact dp_ok 0 hdp rfl | exact dp_ok 1 hdp rfl | exact dp_ok 2 hdp rfl | exact dp_ok 3 hdp rfl | ktr_room); (case k7z11 => first | exact un_ok hun rfl | exact un_ok0 hun rfl | ktr_units); (case p0z11 => first | exact (pal_in (by omega)).1 | omega); (case p1z11 => first | exact (pal_in (by omega)).2 | omega);  k_whole); intro t9 h9 tk9 F9 N9; (try dsimp only); (try k_fold)) | (k_here; (with_reducible show wpAny _ _ (call (Value.ref 97) [_]) _ _ _); k_dflt (refine' c_palette ?k0z10 ?k1z10 ?k2z10 ?k3z10 ?k4z10 ?k5z10 ?k6z10 ?k7z10 ?p0z10 ?p1z10 ?_; (case k0z10 => k_asm); (case k1z10 => k_asm); (case k2z10 => k_asm); (case k3z10 => k_asm); (case k4z10 => k_asm); (case k5z10 => first | exact rfl | assumption); (case k6z10 => first | exact dp_ok 0 hdp rfl | exact dp_ok 1 hdp rfl | exact dp_ok 2 hdp rfl | exact dp_ok 3 hdp rfl | ktr_room); (case k7z10 => first | exact un_ok hun rfl | exact un_ok0 hun rfl | ktr_units); (case p0z10 => omega); (case p1z10 => omega);  k_whole); intro t9 h9 tk9 F9 N9; (try dsimp only); (try k_fold)) | (k_here; (with_reducible show wpAny _ _ (call (Value.ref 121) [_]) _ _ _); k_dflt (refine' c_deck ?k0z9 ?k1z9 ?k2z9 ?k3z9 ?k4z9 ?k5z9 ?k6z9 ?k7z9 ?p0z9 ?p1z9 ?p2z9 ?_; (case k0z9 => k_asm); (case k1z9 => k_asm); (case k2z9 => k_asm); (case k3z9 => k_asm); (case k4z9 => k_asm); (case k5z9 => first | exact rfl | assumption); (case k6z9 => first | exact dp_ok 0 hdp rfl | exact dp_ok 1 hdp rfl | exact dp_ok 2 hdp rfl | exact dp_ok 3 hdp rfl | ktr_room); (case k7z9 => first | exact un_ok hun rfl | exact un_ok0 hun rfl | ktr_units); (case p0z9 => is_list); (case p1z9 => assumption); (case p2z9 => omega);  k_whole); intro D9 Ls9 od9 ol9 h9 tk9 hd9 F9 N9 ne9 l9 m9; (try dsimp only at N9); (try dsimp only); (try k_fold)) | (k_here; (with_reducible show wpAny _ _ (call (Value.ref 128) [_, _]) _ _ _); k_dflt (refine' c_drawU ?k0z8 ?k1z8 ?k2z8 ?k3z8 ?k4z8 ?k5z8 ?k6z8 ?k7z8 ?hdz8 ?hnez8 ?U1z8 ?U2z8 ?m0z8 ?m1z8 ?_; (case k0z8 => k_asm); (case k1z8 => k_asm); (case k2z8 => k_asm); (case k3z8 => k_asm); (case k4z8 => k_asm); (case k5z8 => first | exact rfl | assumption); (case k6z8 => first | exact dp_ok 0 hdp rfl | exact dp_ok 1 hdp rfl | exact dp_ok 2 hdp rfl | exact dp_ok 3 hdp rfl | ktr_room); (case k7z8 => first | exact un_ok hun rfl | exact un_ok0 hun rfl | ktr_units); (case hdz8 => assumption); (case hnez8 => first | assumption | k_ne); (case U1z8 => k_updF); (case U2z8 => (intro od'; k_updF)); (case m0z8 => decide); (case m1z8 => decide); k_whole); intro r9 t9 od9 ol9 h9 tk9 r0 r1 hd9 F9 N9; (try dsimp only at N9); (try dsimp only); (try k_fold)))
    | (k_here; (with_reducible show wpAny _ _ (eval (Expr.Name _ _) (envOfC _ _ _ _ _)) _ _ _); (with_reducible rename News _ _ _ _ => kN); (with_reducible rename Fr _ _ _ _ => kF); k_dflt (first | (refine' nameX_L kF ?vz38 ?_ ?az38 ?bz38; (case bz38 => exact rfl); (case az38 => exact rfl); (case vz38 => exact rfl); k_whole) | (refine' nameX_C kN ?cz38 ?mz38 ?dz38 ?_ ?az38 ?bz38; (case bz38 => exact rfl); (case az38 => exact rfl); (case cz38 => exact rfl); (case mz38 => k_mem); (case dz38 => k_asm); k_whole) | (refine' nameX_K kF ?Xz38 ?Tz38 ?ez38 ?_ ?az38 ?bz38; (case bz38 => exact rfl); (case Xz38 => k_asm); (case Tz38 => k_asm); (case az38 => exact rfl); (case ez38 => k_is); k_whole) | (refine' nameX_B kF ?Xz38 ?Tz38 ?ez38 ?vz38 ?nz38 ?_ ?az38 ?bz38; (case bz38 => exact rfl); (case Xz38 => k_asm); (case Tz38 => k_asm); (case az38 => exact rfl); (case ez38 => k_is); (case vz38 => boot_fast); (case nz38 => decide); k_whole)))
    | (k_here; (with_reducible show wpAny _ _ (eval (Expr.Name _ _) (compEnvC _ _ _ _)) _ _ _); (with_reducible rename News _ _ _ _ => kN); (with_reducible rename Fr _ _ _ _ => kF); k_dflt (first | refine LCgL.ld_own kN (by k_mem) (by with_reducible assumption) (by with_reducible assumption) ?_ | refine kcf_cell kN (by exact rfl) (by k_mem) (by k_asm) ?_ | refine LCgL.ld_global kF (by k_asm) (by k_asm) (by k_is) ?_))
    | ((with_reducible show LCg.CompSrc _ _ _ _ _ _ _ _ _ _ _ _ _ _); (k_here; k_dflt (first | (refine LCg.CompSrc.ledger (by rfl) (by k_asm) (by k_asm) (by k_mem) (by first | exact Nat.le_of_ble_eq_true rfl | size_fits) ?_; intro g'; lcg_lit) | (refine LCg.CompSrc.range (by rfl) (by k_asm) (by k_asm) (by assumption) (by first | decide | rfl) (by first | rfl | decide) (by first | size_fits | exact Nat.le_of_ble_eq_true rfl) ?_; intro g'; lcg_lit))))
    | (k_here; (with_reducible show wpAny _ _ (compareOp CmpOp.Eq (Value.ref _) (Value.ref _)) _ _ _); (with_unfolding_all refine' eq_intsK ?k1z35 ?k2z35 ?k3z35 ?k4z35 ?k5z35 ?_; (case k1z35 => is_list); (case k2z35 => l_intsC); (case k3z35 => is_list); (case k4z35 => l_intsC); (case k5z35 => first | exact un_ok hun rfl | exact un_ok0 hun rfl | ktr_units); k_whole); (try simp only [filter_tt]))
    | (k_here; (with_reducible show wpAny _ _ (compareOp CmpOp.NotEq (Value.ref _) (Value.ref _)) _ _ _); (with_unfolding_all refine' ne_intsK ?k1z34 ?k2z34 ?k3z34 ?k4z34 ?k5z34 ?_; (case k1z34 => is_list); (case k2z34 => l_intsC); (case k3z34 => is_list); (case k4z34 => l_intsC); (case k5z34 => first | exact un_ok hun rfl | exact un_ok0 hun rfl | ktr_units); k_whole); (try simp only [filter_tt]))
    | ((with_reducible show SrcT _ _ _ _ _ _ _ _ _ _ _ _ _ _ _); (k_here; (with_reducible rename News _ _ _ _ => kN); (with_reducible rename Fr _ _ _ _ => kF); k_dflt (first | (refine SrcT.list (by rfl) kF kN (by k_mem) (by rfl) (by rfl) (by (try rw [List.size_toArray]); rw [sizeLine_eq]; omega) (fun g9 => restT_none (by assumption) (.inr ⟨_, by k_mem, rfl, _, rfl⟩) (fun b9 t9 I9 oI9 C9 oC9 D9 m9 h9 tk9 E9 ok9 hC9 hx9 F9 N9 off9 => ?_) ?_)) | (refine' SrcT.tup (by rfl) kF kN (o := { cls := .type "tuple", data := .seq _ _ }) (by k_mem) rfl rfl ?szz33 (fun g9 => restT_none ?anz33 (.inr ⟨_, by k_mem, rfl, _, rfl⟩) (fun b9 t9 I9 oI9 C9 oC9 D9 m9 h9 tk9 E9 ok9 hC9 hx9 F9 N9 off9 => ?_) ?_); (case anz33 => exact an_none); (case szz33 => (rw [sizeLine_eq]; exact Nat.le_of_ble_eq_true rfl))))))
    | (k_here; (with_reducible show wpAny _ _ (eval (Expr.ListComp _ [⟨_, _, [_], _⟩] _ _) _) _ _ _); k_dflt (refine' comp_T ?q0z32 ?q1z32 ?q2z32 ?q3z32 ?q4z32 ?q5z32 ?_ ?q7z32; (case q0z32 => k_asm); (case q1z32 => with_unfolding_all rfl); (case q2z32 => decide); (case q3z32 => rfl); (case q4z32 => decide); (case q5z32 => rfl); (case q7z32 => (intro _; rfl))))
    | (k_here; (with_reducible show wpAny _ _ (exec (Stmt.If (Expr.Compare (Expr.Subscript _ _ _) _ _ _) _ _ _) _) _ _ _); (with_reducible rename News _ _ _ _ => kN); (with_reducible rename Fr _ _ _ _ => kF); k_dflt (refine if_cut kF kN (wpAny_If ?_) (fun D9 its9 k9 h9 tk9 an9 sz9 F9 N9 => ?_)); (try dsimp only))
    | ((with_reducible show News _ _ _ _); with_reducible assumption)
    | ((with_reducible show Fr _ _ _ _); with_reducible assumption)
    | (k_here; (with_reducible show wpAny _ _ (binaryOp _ (Value.ref _) (Value.ref _)) _ _ _); (with_reducible rename News _ _ _ _ => kN); (with_reducible rename Fr _ _ _ _ => kF); k_dflt (refine' add31 kF kN ?az28 ?bz28 ?_; (case az28 => k_mem); (case bz28 => k_mem)); intro D' h' F' N' l1; k_lt l1)
    | ((with_reducible show BentOk _ _ _ _ _ _); ((with_reducible rename News _ _ _ _ => kN); (with_reducible rename Fr _ _ _ _ => kF); refine' bent_end kF ?hmz27 kN ?hDz27 ?hkz27 ?haz27 ?hzz27; (case hmz27 => exact rfl); (case hDz27 => k_mem); (case hkz27 => kcf_all); (case hzz27 => exact Nat.le_of_ble_eq_true rfl); (case haz27 => (refine' an_cons (none_g ?az27 ?bz27) (an_cons (none_o ?cz27) (an_cons (none_s ?dz27) (an_cons ?ez27 an_nil))); (case bz27 => with_reducible assumption); (case az27 => with_reducible assumption); (case cz27 => with_reducible assumption); (case dz27 => with_reducible assumption); (case ez27 => first | exact nok_6 | exact nok_8 | exact nok_7)))))
    | ((with_reducible show wpAny _ _ (newList _) _ _ _); (k_here; (with_reducible rename News _ _ _ _ => kN); (with_reducible rename Fr _ _ _ _ => kF); k_dflt (refine newList_K kF kN ?_ (Nat.le_of_ble_eq_true rfl)); intro l' h' F' N' l1; (try k_lt l1)))
    | ((with_reducible show RangeRest _ _ _ _ _ _ _ _ _ _ _ _ _ _ _ _ _); exact range_sub (range_at (ih _ _ _ _ _ _ (by assumption)) ovl_back) (by kcf_all))
    | (k_here; (with_reducible show wpAny _ _ (compareOp CmpOp.Eq (Value.bytes _ _) (Value.bytes _ _)) _ _ _); (refine eq_bytesI ?_))
    | (k_here; (with_reducible show wpAny _ _ (subscriptTail _ (Expr.Slice none (some _) none _) (Value.bytes _ _) (Value.ref _)) _ _ _); (with_reducible rename Fr _ _ _ _ => kF); (with_reducible rename News _ _ _ _ => kN); k_dflt (first | (refine slice_to (s := ⟨_, _, _, _, _⟩) 1 (by decide) kF kN (by omega) ?_ (by with_unfolding_all rfl) (by intro _; with_unfolding_all rfl)) | (refine slice_last (s := ⟨_, _, _, _, _⟩) (by decide) kF kN (by omega) ?_ (by with_unfolding_all rfl) (by intro _; with_unfolding_all rfl))); intro b9 h9 t9 tk9 F9 N9 e9 z9)
    | (k_here; (with_reducible show wpAny _ _ (compareOp CmpOp.NotEq (Value.bytes _ _) (Value.bytes _ _)) _ _ _); (with_reducible refine' ne_bsame (cmp_octets ?h1z22 ?h2z22 ?h3z22 ?e0z22 ?e1z22 ?e2z22 ?e3z22) ?_); (case e0z22 => with_reducible assumption); (case e1z22 => with_reducible assumption); (case e2z22 => with_reducible assumption); (case e3z22 => with_reducible assumption); (case h1z22 => omega); (case h2z22 => omega); (case h3z22 => omega))
    | (k_here; (with_reducible show wpAny _ _ (compareOp CmpOp.NotEq (Value.int _ _) (Value.int _ _)) _ _ _); k_dflt (refine ne_same ?_ ?_; (first | with_reducible rfl | exact near_pal (by omega) (by omega) | exact rfl)))
    | (k_here; (with_reducible show wpAny _ _ (call (Value.builtin "bytes.join") [Value.bytes _ _, Value.ref _]) _ _ _); k_dflt (refine' join_call ?q1z7 ?q2z7 ?q3z7 ?_; (case q1z7 => k_asm); (case q2z7 => k_mem); (case q3z7 => first | (refine' Nat.le_trans ?z1z7 ?z3z7; (case z1z7 => repeat' ((with_reducible show _ ≤ _); first | with_reducible assumption | with_reducible refine' szA ?_ ?_ | with_reducible refine' Nat.add_le_add ?_ ?_ | exact Nat.le_of_eq (by with_reducible assumption) | exact Nat.le_refl _)); (case z3z7 => exact Nat.le_of_ble_eq_true rfl)) | (simp only [Array.size_append, byteArr_size, List.length_cons, List.length_nil, List.size_toArray]; omega))); intro _ _)
    | ((with_reducible show wpAny _ _ (getMethod (Value.bytes _ _) _ _) _ _ _); (k_here; (with_reducible refine join_method ?_)))
    | (k_here; (with_reducible show wpAny _ _ (binaryOp Operator.Add (Value.bytes _ _) (Value.bytes _ _)) _ _ _); (refine' KBy.add_bytes ?z0z5 ?_; (case z0z5 => first | (refine' Nat.le_trans ?z1z5 ?z3z5; (case z1z5 => repeat' ((with_reducible show _ ≤ _); first | with_reducible assumption | with_reducible refine' szA ?_ ?_ | with_reducible refine' Nat.add_le_add ?_ ?_ | exact Nat.le_of_eq (by with_reducible assumption) | exact Nat.le_refl _)); (case z3z5 => exact Nat.le_of_ble_eq_true rfl)) | ((try simp only [Array.size_append, List.size_toArray, List.length_cons, List.length_nil]); omega)); k_whole); intro _ _)
    | ((with_reducible show LCg.FinA _ _ _ _ _ _ _ _); ((unfold LCg.FinA); intro D' h' tk' F' N' o1'; (try simp only [List.nil_append, List.cons_append] at N'); (try dsimp only)))
    | ((with_reducible show LCg.FinE _ _ _ _ _ _ _); ((unfold LCg.FinE); intro D' h' tk' F' N' o1'; (try simp only [List.nil_append, List.cons_append] at N'); (try dsimp only)))
    | ((with_reducible show LCg.CompRest _ _ _ _ _ _ _ _ _ _ _ _ _ _ _ _ _ _ _); (with_unfolding_all (refine LCg.CompRest.succ ?_; intro v' I' oI' C' oC' D' m' h' tk' E' hv' hC' hx' F' N' off' ne'; clear ne'; (first | lcg_open hv' | (obtain ⟨t9', hv9'⟩ := hv'; subst hv9')))))
    | ((with_reducible show LCg.CompEnd _ _ _ _ _ _ _ _ _ _ _ _ _ _); (k_here; (with_reducible rename News _ _ _ _ => kN); (with_reducible rename Fr _ _ _ _ => kF); k_dflt (refine' LCg.CompEnd.intro kF kN _ (fun _ h => h) ?coz1 ?csz1 ?_; (case coz1 => first | with_reducible assumption | exact off3_same (by with_reducible assumption) (by exact rfl)); (case csz1 => lcg_src))))
    | walk1
    | (dsimp only; walk1)
    | (leave1; (try dsimp only)))
  · repeat' (first
    | (k_unfold; (try dsimp only))
    | ((with_reducible show wpAny _ _ (execs (_ :: _) _) _ _ _); (try (k_here; ((with_reducible rename LCg.NsObj _ _ => hj); clear hj); (repeat ((with_reducible rename LCg.NsObj _ _ => hj); clear hj)); (repeat ((with_reducible rename LCg.Off3 _ _ _ _ => hj); clear hj)); (repeat ((with_reducible rename _[_]? = some _ => hj); clear hj)); (repeat ((with_reducible rename InElt _ _ => hj); clear hj)); (repeat ((with_reducible rename _ = some (Value.int _ _) => hj); clear hj)))); (try k_gentoks); (try k_fold); (try dsimp only); refine (let A9 : Around := _; (?_ : wpAny _ A9 _ _ _ _)); (with_reducible rename News _ _ _ _ => kN); (with_reducible rename Fr _ _ _ _ => kF); refine (let n9 : List (Addr × Obj) := _; let m9 : Str → Option Value := _; (fun (kN : News _ _ _ n9) (kF : Fr _ _ _ m9) => ?_) kN kF); refine wpAny_execs_cons ?_; (try dsimp only))
    | ((with_reducible show wpAny _ _ (call (Value.ref _) _) _ _ _); first | (k_here; (with_reducible show wpAny _ _ (call (Value.ref 162) [_, _, _]) _ _ _); k_dflt (refine' c_toldU ?k0z20 ?k1z20 ?k2z20 ?k3z20 ?k4z20 ?k5z20 ?k6z20 ?k7z20 ?m2z20 ?lDz20 ?lLz20 ?hp1z20 ?hp2z20 ?hp3z20 ?hdz20 ?hnez20 ?U1z20 ?U2z20 ?_; (case k0z20 => k_asm); (case k1z20 => k_asm); (case k2z20 => k_asm); (case k3z20 => k_asm); (case k4z20 => k_asm); (case k5z20 => first | exact rfl | assumption); (case k6z20 => first | exact dp_ok 0 hdp rfl | exact dp_ok 1 hdp rfl | exact dp_ok 2 hdp rfl | exact dp_ok 3 hdp rfl | ktr_room); (case k7z20 => first | exact un_ok hun rfl | exact un_ok0 hun rfl | ktr_units); (case m2z20 => k_mem); (case hdz20 => assumption); (case lDz20 => k_ne); (case lLz20 => k_ne); (case hp1z20 => omega); (case hp2z20 => omega); (case hp3z20 => omega); (case hnez20 => first | assumption | k_ne); (case U1z20 => k_updF); (case U2z20 => (intro od'; k_updF)); k_whole); intro a9 l9 b9 tb9 d91 d92 d93 v91 v92 v93 n9 n9' od9 ol9 h9 tk9 ht9 hz9 hd9 f91 f92 f93 f94 F9 N9; (try dsimp only at N9); (try dsimp only); (try k_fold)) | (k_here; (with_reducible show wpAny _ _ (call (Value.ref 69) [_]) _ _ _); k_dflt (refine' c_octs_some ?k0z19 ?k1z19 ?k2z19 ?k3z19 ?k4z19 ?k5z19 ?k6z19 ?k7z19 ?p0z19 ?_; (case k0z19 => k_asm); (case k1z19 => k_asm); (case k2z19 => k_asm); (case k3z19 => k_asm); (case k4z19 => k_asm); (case k5z19 => first | exact rfl | assumption); (case k6z19 => first | exact dp_ok 0 hdp rfl | exact dp_ok 1 hdp rfl | exact dp_ok 2 hdp rfl | exact dp_ok 3 hdp rfl | ktr_room); (case k7z19 => first | exact un_ok hun rfl | exact un_ok0 hun rfl | ktr_units); (case p0z19 => first | (refine' some_oct ?h1z19 ?h2z19 ?h3z19 ?e0z19; (case e0z19 => with_reducible assumption); (case h1z19 => omega); (case h2z19 => omega); (case h3z19 => omega)) | exact some_told (by with_reducible assumption));  k_whole); intro t9 h9 tk9 F9 N9; (try dsimp only); (try k_fold)) | (k_here; (with_reducible show wpAny _ _ (call (Value.ref 69) [_]) _ _ _); k_dflt (refine' c_octs_none ?k0z18 ?k1z18 ?k2z18 ?k3z18 ?k4z18 ?k5z18 ?k6z18 ?k7z18 ?p0z18 ?_; (case k0z18 => k_asm); (case k1z18 => k_asm); (case k2z18 => k_asm); (case k3z18 => k_asm); (case k4z18 => k_asm); (case k5z18 => first | exact rfl | assumption); (case k6z18 => first | exact dp_ok 0 hdp rfl | exact dp_ok 1 hdp rfl | exact dp_ok 2 hdp rfl | exact dp_ok 3 hdp rfl | ktr_room); (case k7z18 => first | exact un_ok hun rfl | exact un_ok0 hun rfl | ktr_units); (case p0z18 => first | with_reducible assumption | with_reducible exact none_g (by assumption) (by assumption) | with_reducible exact none_o (by assumption) | with_reducible exact none_s (by assumption) | exact nok_0 | exact nok_1 | exact nok_2 | exact nok_3 | exact nok_4 | exact nok_5 | exact nok_6 | exact nok_7 | exact nok_8);  k_whole); intro h9 tk9 F9 N9; (try dsimp only); (try k_fold)) | (k_here; (with_reducible show wpAny _ _ (call (Value.ref 157) [_, _, _]) _ _ _); k_dflt (refine' c_law_hex ?k0z17 ?k1z17 ?k2z17 ?k3z17 ?k4z17 ?k5z17 ?k6z17 ?k7z17 ?p0z17 ?p1z17 ?p2z17 ?p3z17 ?_; (case k0z17 => k_asm); (case k1z17 => k_asm); (case k2z17 => k_asm); (case k3z17 => k_asm); (case k4z17 => k_asm); (case k5z17 => first | exact rfl | assumption); (case k6z17 => first | exact dp_ok 0 hdp rfl | exact dp_ok 1 hdp rfl | exact dp_ok 2 hdp rfl | exact dp_ok 3 hdp rfl | ktr_room); (case k7z17 => first | exact un_ok hun rfl | exact un_ok0 hun rfl | ktr_units); (case p0z17 => omega); (case p1z17 => omega); (case p2z17 => decide); (case p3z17 => decide);  k_whole); intro b9 t9 h9 tk9 e9 F9 N9; have z9 := hex_sz4 e9 (by decide); (try dsimp only); (try k_fold)) | (k_here; (with_reducible show wpAny _ _ (call (Value.ref 76) [_]) _ _ _); k_dflt (refine' c_octets ?k0z16 ?k1z16 ?k2z16 ?k3z16 ?k4z16 ?k5z16 ?k6z16 ?k7z16 ?_; (case k0z16 => k_asm); (case k1z16 => k_asm); (case k2z16 => k_asm); (case k3z16 => k_asm); (case k4z16 => k_asm); (case k5z16 => first | exact rfl | assumption); (case k6z16 => first | exact dp_ok 0 hdp rfl | exact dp_ok 1 hdp rfl | exact dp_ok 2 hdp rfl | exact dp_ok 3 hdp rfl | ktr_room); (case k7z16 => first | exact un_ok hun rfl | exact un_ok0 hun rfl | ktr_units);  k_whole); intro b9 t9 h9 tk9 e9 F9 N9; (try dsimp only); (try k_fold)) | (k_here; (with_reducible show wpAny _ _ (call (Value.ref 152) [_, _, _]) _ _ _); k_dflt (refine' c_is_nearest ?k0z15 ?k1z15 ?k2z15 ?k3z15 ?k4z15 ?k5z15 ?k6z15 ?k7z15 ?p0z15 ?p1z15 ?p2z15 ?p3z15 ?p4z15 ?p5z15 ?p6z15 ?p7z15 ?p8z15 ?_; (case k0z15 => k_asm); (case k1z15 => k_asm); (case k2z15 => k_asm); (case k3z15 => k_asm); (case k4z15 => k_asm); (case k5z15 => first | exact rfl | assumption); (case k6z15 => first | exact dp_ok 0 hdp rfl | exact dp_ok 1 hdp rfl | exact dp_ok 2 hdp rfl | exact dp_ok 3 hdp rfl | ktr_room); (case k7z15 => first | exact un_ok hun rfl | exact un_ok0 hun rfl | ktr_units); (case p0z15 => exact News.get (by k_asm) (by k_mem)); (case p1z15 => omega); (case p2z15 => omega); (case p3z15 => omega); (case p4z15 => exact (near_is (by omega) (by omega) (by omega)).1); (case p5z15 => exact (near_is (by omega) (by omega) (by omega)).2.1); (case p6z15 => omega); (case p7z15 => omega); (case p8z15 => exact (near_is (by omega) (by omega) (by omega)).2.2);  k_whole); intro h9 tk9 F9 N9; (try dsimp only); (try k_fold)) | (k_here; (with_reducible show wpAny _ _ (call (Value.ref 142) [_]) _ _ _); k_dflt (refine' c_num_l ?k0z14 ?k1z14 ?k2z14 ?k3z14 ?k4z14 ?k5z14 ?k6z14 ?k7z14 ?p0z14 ?_; (case k0z14 => k_asm); (case k1z14 => k_asm); (case k2z14 => k_asm); (case k3z14 => k_asm); (case k4z14 => k_asm); (case k5z14 => first | exact rfl | assumption); (case k6z14 => first | exact dp_ok 0 hdp rfl | exact dp_ok 1 hdp rfl | exact dp_ok 2 hdp rfl | exact dp_ok 3 hdp rfl | ktr_room); (case k7z14 => first | exact un_ok hun rfl | exact un_ok0 hun rfl | ktr_units); (case p0z14 => exact News.get (by k_asm) (by k_mem));  k_whole); intro t9 h9 tk9 F9 N9; (try dsimp only); (try k_fold)) | (k_here; (with_reducible show wpAny _ _ (call (Value.ref 142) [_]) _ _ _); k_dflt (refine' c_num_t ?k0z13 ?k1z13 ?k2z13 ?k3z13 ?k4z13 ?k5z13 ?k6z13 ?k7z13 ?p0z13 ?_; (case k0z13 => k_asm); (case k1z13 => k_asm); (case k2z13 => k_asm); (case k3z13 => k_asm); (case k4z13 => k_asm); (case k5z13 => first | exact rfl | assumption); (case k6z13 => first | exact dp_ok 0 hdp rfl | exact dp_ok 1 hdp rfl | exact dp_ok 2 hdp rfl | exact dp_ok 3 hdp rfl | ktr_room); (case k7z13 => first | exact un_ok hun rfl | exact un_ok0 hun rfl | ktr_units); (case p0z13 => exact News.get (by k_asm) (by k_mem));  k_whole); intro t9 h9 tk9 F9 N9; (try dsimp only); (try k_fold)) | (k_here; (with_reducible show wpAny _ _ (call (Value.ref 135) [_]) _ _ _); k_dflt (refine' c_law_rgb ?k0z12 ?k1z12 ?k2z12 ?k3z12 ?k4z12 ?k5z12 ?k6z12 ?k7z12 ?p0z12 ?p1z12 ?_; (case k0z12 => k_asm); (case k1z12 => k_asm); (case k2z12 => k_asm); (case k3z12 => k_asm); (case k4z12 => k_asm); (case k5z12 => first | exact rfl | assumption); (case k6z12 => first | exact dp_ok 0 hdp rfl | exact dp_ok 1 hdp rfl | exact dp_ok 2 hdp rfl | exact dp_ok 3 hdp rfl | ktr_room); (case k7z12 => first | exact un_ok hun rfl | exact un_ok0 hun rfl | ktr_units); (case p0z12 => omega); (case p1z12 => omega);  k_whole); intro D9 t9 u9 v9 n9 h9 tk9 F9 N9 l9; (try dsimp only); (try k_fold)) | (k_here; (with_reducible show wpAny _ _ (call (Value.ref 116) [_]) _ _ _); k_dflt (refine' c_nearest ?k0z11 ?k1z11 ?k2z11 ?k3z11 ?k4z11 ?k5z11 ?k6z11 ?k7z11 ?p0z11 ?p1z11 ?_; (case k0z11 => k_asm); (case k1z11 => k_asm); (case k2z11 => k_asm); (case k3z11 => k_asm); (case k4z11 => k_asm); (case k5z11 => first | exact rfl | assumption); (case k6z11 => first | exact dp_ok 0 hdp rfl | exact dp_ok 1 hdp rfl | exact dp_ok 2 hdp rfl | exact dp_ok 3 hdp rfl | ktr_room); (case k7z11 => first | exact un_ok hun rfl | exact un_ok0 hun rfl | ktr_units); (case p0z11 => first | exact (pal_in (by omega)).1 | omega); (case p1z11 => first | exact (pal_in (by omega)).2 | omega);  k_whole); intro t9 h9 tk9 F9 N9; (try dsimp only); (try k_fold)) | (k_here; (with_reducible show wpAny _ _ (call (Value.ref 97) [_]) _ _ _); k_dflt (refine' c_palette ?k0z10 ?k1z10 ?k2z10 ?k3z10 ?k4z10 ?k5z10 ?k6z10 ?k7z10 ?p0z10 ?p1z10 ?_; (case k0z10 => k_asm); (case k1z10 => k_asm); (case k2z10 => k_asm); (case k3z10 => k_asm); (case k4z10 => k_asm); (case k5z10 => first | exact rfl | assumption); (case k6z10 => first | exact dp_ok 0 hdp rfl | exact dp_ok 1 hdp rfl | exact dp_ok 2 hdp rfl | exact dp_ok 3 hdp rfl | ktr_room); (case k7z10 => first | exact un_ok hun rfl | exact un_ok0 hun rfl | ktr_units); (case p0z10 => omega); (case p1z10 => omega);  k_whole); intro t9 h9 tk9 F9 N9; (try dsimp only); (try k_fold)) | (k_here; (with_reducible show wpAny _ _ (call (Value.ref 121) [_]) _ _ _); k_dflt (refine' c_deck ?k0z9 ?k1z9 ?k2z9 ?k3z9 ?k4z9 ?k5z9 ?k6z9 ?k7z9 ?p0z9 ?p1z9 ?p2z9 ?_; (case k0z9 => k_asm); (case k1z9 => k_asm); (case k2z9 => k_asm); (case k3z9 => k_asm); (case k4z9 => k_asm); (case k5z9 => first | exact rfl | assumption); (case k6z9 => first | exact dp_ok 0 hdp rfl | exact dp_ok 1 hdp rfl | exact dp_ok 2 hdp rfl | exact dp_ok 3 hdp rfl | ktr_room); (case k7z9 => first | exact un_ok hun rfl | exact un_ok0 hun rfl | ktr_units); (case p0z9 => is_list); (case p1z9 => assumption); (case p2z9 => omega);  k_whole); intro D9 Ls9 od9 ol9 h9 tk9 hd9 F9 N9 ne9 l9 m9; (try dsimp only at N9); (try dsimp only); (try k_fold)) | (k_here; (with_reducible show wpAny _ _ (call (Value.ref 128) [_, _]) _ _ _); k_dflt (refine' c_drawU ?k0z8 ?k1z8 ?k2z8 ?k3z8 ?k4z8 ?k5z8 ?k6z8 ?k7z8 ?hdz8 ?hnez8 ?U1z8 ?U2z8 ?m0z8 ?m1z8 ?_; (case k0z8 => k_asm); (case k1z8 => k_asm); (case k2z8 => k_asm); (case k3z8 => k_asm); (case k4z8 => k_asm); (case k5z8 => first | exact rfl | assumption); (case k6z8 => first | exact dp_ok 0 hdp rfl | exact dp_ok 1 hdp rfl | exact dp_ok 2 hdp rfl | exact dp_ok 3 hdp rfl | ktr_room); (case k7z8 => first | exact un_ok hun rfl | exact un_ok0 hun rfl | ktr_units); (case hdz8 => assumption); (case hnez8 => first | assumption | k_ne); (case U1z8 => k_updF); (case U2z8 => (intro od'; k_updF)); (case m0z8 => decide); (case m1z8 => decide); k_whole); intro r9 t9 od9 ol9 h9 tk9 r0 r1 hd9 F9 N9; (try dsimp only at N9); (try dsimp only); (try k_fold)))
    | (k_here; (with_reducible show wpAny _ _ (eval (Expr.Name _ _) (envOfC _ _ _ _ _)) _ _ _); (with_reducible rename News _ _ _ _ => kN); (with_reducible rename Fr _ _ _ _ => kF); k_dflt (first | (refine' nameX_L kF ?vz38 ?_ ?az38 ?bz38; (case bz38 => exact rfl); (case az38 => exact rfl); (case vz38 => exact rfl); k_whole) | (refine' nameX_C kN ?cz38 ?mz38 ?dz38 ?_ ?az38 ?bz38; (case bz38 => exact rfl); (case az38 => exact rfl); (case cz38 => exact rfl); (case mz38 => k_mem); (case dz38 => k_asm); k_whole) | (refine' nameX_K kF ?Xz38 ?Tz38 ?ez38 ?_ ?az38 ?bz38; (case bz38 => exact rfl); (case Xz38 => k_asm); (case Tz38 => k_asm); (case az38 => exact rfl); (case ez38 => k_is); k_whole) | (refine' nameX_B kF ?Xz38 ?Tz38 ?ez38 ?vz38 ?nz38 ?_ ?az38 ?bz38; (case bz38 => exact rfl); (case Xz38 => k_asm); (case Tz38 => k_asm); (case az38 => exact rfl); (case ez38 => k_is); (case vz38 => boot_fast); (case nz38 => decide); k_whole)))
    | (k_here; (with_reducible show wpAny _ _ (eval (Expr.Name _ _) (compEnvC _ _ _ _)) _ _ _); (with_reducible rename News _ _ _ _ => kN); (with_reducible rename Fr _ _ _ _ => kF); k_dflt (first | refine LCgL.ld_own kN (by k_mem) (by with_reducible assumption) (by with_reducible assumption) ?_ | refine kcf_cell kN (by exact rfl) (by k_mem) (by k_asm) ?_ | refine LCgL.ld_global kF (by k_asm) (by k_asm) (by k_is) ?_))
    | ((with_reducible show LCg.CompSrc _ _ _ _ _ _ _ _ _ _ _ _ _ _); (k_here; k_dflt (first | (refine LCg.CompSrc.ledger (by rfl) (by k_asm) (by k_asm) (by k_mem) (by first | exact Nat.le_of_ble_eq_true rfl | size_fits) ?_; intro g'; lcg_lit) | (refine LCg.CompSrc.range (by rfl) (by k_asm) (by k_asm) (by assumption) (by first | decide | rfl) (by first | rfl | decide) (by first | size_fits | exact Nat.le_of_ble_eq_true rfl) ?_; intro g'; lcg_lit))))
    | (k_here; (with_reducible show wpAny _ _ (compareOp CmpOp.Eq (Value.ref _) (Value.ref _)) _ _ _); (with_unfolding_all refine' eq_intsK ?k1z35 ?k2z35 ?k3z35 ?k4z35 ?k5z35 ?_; (case k1z35 => is_list); (case k2z35 => l_intsC); (case k3z35 => is_list); (case k4z35 => l_intsC); (case k5z35 => first | exact un_ok hun rfl | exact un_ok0 hun rfl | ktr_units); k_whole); (try simp only [filter_tt]))
    | (k_here; (with_reducible show wpAny _ _ (compareOp CmpOp.NotEq (Value.ref _) (Value.ref _)) _ _ _); (with_unfolding_all refine' ne_intsK ?k1z34 ?k2z34 ?k3z34 ?k4z34 ?k5z34 ?_; (case k1z34 => is_list); (case k2z34 => l_intsC); (case k3z34 => is_list); (case k4z34 => l_intsC); (case k5z34 => first | exact un_ok hun rfl | exact un_ok0 hun rfl | ktr_units); k_whole); (try simp only [filter_tt]))
    | ((with_reducible show SrcT _ _ _ _ _ _ _ _ _ _ _ _ _ _ _); (k_here; (with_reducible rename News _ _ _ _ => kN); (with_reducible rename Fr _ _ _ _ => kF); k_dflt (first | (refine SrcT.list (by rfl) kF kN (by k_mem) (by rfl) (by rfl) (by (try rw [List.size_toArray]); rw [sizeLine_eq]; omega) (fun g9 => restT_none (by assumption) (.inr ⟨_, by k_mem, rfl, _, rfl⟩) (fun b9 t9 I9 oI9 C9 oC9 D9 m9 h9 tk9 E9 ok9 hC9 hx9 F9 N9 off9 => ?_) ?_)) | (refine' SrcT.tup (by rfl) kF kN (o := { cls := .type "tuple", data := .seq _ _ }) (by k_mem) rfl rfl ?szz33 (fun g9 => restT_none ?anz33 (.inr ⟨_, by k_mem, rfl, _, rfl⟩) (fun b9 t9 I9 oI9 C9 oC9 D9 m9 h9 tk9 E9 ok9 hC9 hx9 F9 N9 off9 => ?_) ?_); (case anz33 => exact an_none); (case szz33 => (rw [sizeLine_eq]; exact Nat.le_of_ble_eq_true rfl))))))
    | (k_here; (with_reducible show wpAny _ _ (eval (Expr.ListComp _ [⟨_, _, [_], _⟩] _ _) _) _ _ _); k_dflt (refine' comp_T ?q0z32 ?q1z32 ?q2z32 ?q3z32 ?q4z32 ?q5z32 ?_ ?q7z32; (case q0z32 => k_asm); (case q1z32 => with_unfolding_all rfl); (case q2z32 => decide); (case q3z32 => rfl); (case q4z32 => decide); (case q5z32 => rfl); (case q7z32 => (intro _; rfl))))
    | (k_here; (with_reducible show wpAny _ _ (exec (Stmt.If (Expr.Compare (Expr.Subscript _ _ _) _ _ _) _ _ _) _) _ _ _); (with_reducible rename News _ _ _ _ => kN); (with_reducible rename Fr _ _ _ _ => kF); k_dflt (refine if_cut kF kN (wpAny_If ?_) (fun D9 its9 k9 h9 tk9 an9 sz9 F9 N9 => ?_)); (try dsimp only))
    | ((with_reducible show News _ _ _ _); with_reducible assumption)
    | ((with_reducible show Fr _ _ _ _); with_reducible assumption)
    | (k_here; (with_reducible show wpAny _ _ (binaryOp _ (Value.ref _) (Value.ref _)) _ _ _); (with_reducible rename News _ _ _ _ => kN); (with_reducible rename Fr _ _ _ _ => kF); k_dflt (refine' add31 kF kN ?az28 ?bz28 ?_; (case az28 => k_mem); (case bz28 => k_mem)); intro D' h' F' N' l1; k_lt l1)
    | ((with_reducible show BentOk _ _ _ _ _ _); ((with_reducible rename News _ _ _ _ => kN); (with_reducible rename Fr _ _ _ _ => kF); refine' bent_end kF ?hmz27 kN ?hDz27 ?hkz27 ?haz27 ?hzz27; (case hmz27 => exact rfl); (case hDz27 => k_mem); (case hkz27 => kcf_all); (case hzz27 => exact Nat.le_of_ble_eq_true rfl); (case haz27 => (refine' an_cons (none_g ?az27 ?bz27) (an_cons (none_o ?cz27) (an_cons (none_s ?dz27) (an_cons ?ez27 an_nil))); (case bz27 => with_reducible assumption); (case az27 => with_reducible assumption); (case cz27 => with_reducible assumption); (case dz27 => with_reducible assumption); (case ez27 => first | exact nok_6 | exact nok_8 | exact nok_7)))))
    | ((with_reducible show wpAny _ _ (newList _) _ _ _); (k_here; (with_reducible rename News _ _ _ _ => kN); (with_reducible rename Fr _ _ _ _ => kF); k_dflt (refine newList_K kF kN ?_ (Nat.le_of_ble_eq_true rfl)); intro l' h' F' N' l1; (try k_lt l1)))
    | ((with_reducible show RangeRest _ _ _ _ _ _ _ _ _ _ _ _ _ _ _ _ _); exact range_sub (range_at (ih _ _ _ _ _ _ (by assumption)) ovl_back) (by kcf_all))
    | (k_here; (with_reducible show wpAny _ _ (compareOp CmpOp.Eq (Value.bytes _ _) (Value.bytes _ _)) _ _ _); (refine eq_bytesI ?_))
    | (k_here; (with_reducible show wpAny _ _ (subscriptTail _ (Expr.Slice none (some _) none _) (Value.bytes _ _) (Value.ref _)) _ _ _); (with_reducible rename Fr _ _ _ _ => kF); (with_reducible rename News _ _ _ _ => kN); k_dflt (first | (refine slice_to (s := ⟨_, _, _, _, _⟩) 1 (by decide) kF kN (by omega) ?_ (by with_unfolding_all rfl) (by intro _; with_unfolding_all rfl)) | (refine slice_last (s := ⟨_, _, _, _, _⟩) (by decide) kF kN (by omega) ?_ (by with_unfolding_all rfl) (by intro _; with_unfolding_all rfl))); intro b9 h9 t9 tk9 F9 N9 e9 z9)
    | (k_here; (with_reducible show wpAny _ _ (compareOp CmpOp.NotEq (Value.bytes _ _) (Value.bytes _ _)) _ _ _); (with_reducible refine' ne_bsame (cmp_octets ?h1z22 ?h2z22 ?h3z22 ?e0z22 ?e1z22 ?e2z22 ?e3z22) ?_); (case e0z22 => with_reducible assumption); (case e1z22 => with_reducible assumption); (case e2z22 => with_reducible assumption); (case e3z22 => with_reducible assumption); (case h1z22 => omega); (case h2z22 => omega); (case h3z22 => omega))
    | (k_here; (with_reducible show wpAny _ _ (compareOp CmpOp.NotEq (Value.int _ _) (Value.int _ _)) _ _ _); k_dflt (refine ne_same ?_ ?_; (first | with_reducible rfl | exact near_pal (by omega) (by omega) | exact rfl)))
    | (k_here; (with_reducible show wpAny _ _ (call (Value.builtin "bytes.join") [Value.bytes _ _, Value.ref _]) _ _ _); k_dflt (refine' join_call ?q1z7 ?q2z7 ?q3z7 ?_; (case q1z7 => k_asm); (case q2z7 => k_mem); (case q3z7 => first | (refine' Nat.le_trans ?z1z7 ?z3z7; (case z1z7 => repeat' ((with_reducible show _ ≤ _); first | with_reducible assumption | with_reducible refine' szA ?_ ?_ | with_reducible refine' Nat.add_le_add ?_ ?_ | exact Nat.le_of_eq (by with_reducible assumption) | exact Nat.le_refl _)); (case z3z7 => exact Nat.le_of_ble_eq_true rfl)) | (simp only [Array.size_append, byteArr_size, List.length_cons, List.length_nil, List.size_toArray]; omega))); intro _ _)
    | ((with_reducible show wpAny _ _ (getMethod (Value.bytes _ _) _ _) _ _ _); (k_here; (with_reducible refine join_method ?_)))
    | (k_here; (with_reducible show wpAny _ _ (binaryOp Operator.Add (Value.bytes _ _) (Value.bytes _ _)) _ _ _); (refine' KBy.add_bytes ?z0z5 ?_; (case z0z5 => first | (refine' Nat.le_trans ?z1z5 ?z3z5; (case z1z5 => repeat' ((with_reducible show _ ≤ _); first | with_reducible assumption | with_reducible refine' szA ?_ ?_ | with_reducible refine' Nat.add_le_add ?_ ?_ | exact Nat.le_of_eq (by with_reducible assumption) | exact Nat.le_refl _)); (case z3z5 => exact Nat.le_of_ble_eq_true rfl)) | ((try simp only [Array.size_append, List.size_toArray, List.length_cons, List.length_nil]); omega)); k_whole); intro _ _)
    | ((with_reducible show LCg.FinA _ _ _ _ _ _ _ _); ((unfold LCg.FinA); intro D' h' tk' F' N' o1'; (try simp only [List.nil_append, List.cons_append] at N'); (try dsimp only)))
    | ((with_reducible show LCg.FinE _ _ _ _ _ _ _); ((unfold LCg.FinE); intro D' h' tk' F' N' o1'; (try simp only [List.nil_append, List.cons_append] at N'); (try dsimp only)))
    | ((with_reducible show LCg.CompRest _ _ _ _ _ _ _ _ _ _ _ _ _ _ _ _ _ _ _); (with_unfolding_all (refine LCg.CompRest.succ ?_; intro v' I' oI' C' oC' D' m' h' tk' E' hv' hC' hx' F' N' off' ne'; clear ne'; (first | lcg_open hv' | (obtain ⟨t9', hv9'⟩ := hv'; subst hv9')))))
    | ((with_reducible show LCg.CompEnd _ _ _ _ _ _ _ _ _ _ _ _ _ _); (k_here; (with_reducible rename News _ _ _ _ => kN); (with_reducible rename Fr _ _ _ _ => kF); k_dflt (refine' LCg.CompEnd.intro kF kN _ (fun _ h => h) ?coz1 ?csz1 ?_; (case coz1 => first | with_reducible assumption | exact off3_same (by with_reducible assumption) (by exact rfl)); (case csz1 => lcg_src))))
    | walk1
    | (dsimp only; walk1)
    | (leave1; (try dsimp only)))
    (with_reducible rename Fr _ _ _ _ => kF)
    exact law_end kF (by first | with_reducible assumption | assumption) rfl)
end Mine
end

set_option maxRecDepth 100000 in
theorem PySem.Challenge.cw_og0237_01_holds : PySem.Challenge.rw_og0237_01.Holds := by
  exact Mine.law_holds
